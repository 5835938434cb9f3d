/- The program's FlushDevice and the reference's FlushDevice return the same device and flag, for every device; the argument stays as it was, the answer owns its memory. -/
import Derived.Test.YtbonjmnpcklciaaQFnExactFlushDevicex7
import Derived.Laws.BitsAllLaws
namespace Go.Proofs.Ytbonjmnpcklciaa.Pure
open Go.RowKit Go.Proofs.Ytbonjmnpcklciaa.QFnExactFlushDevice Go.Proofs.YtbonjmnpcklciaaW.PrintWords Go.Proofs.YtbonjmnpcklciaaW.PrintLast
set_option linter.unusedVariables false
set_option linter.unusedSimpArgs false
set_option maxHeartbeats 4000000

def laws_FnExactFlushDevice.Pure : Prop := ∀ (l0_0 : List (ByteArray)) (l0_1 : List (S177)), (l0_0.length ≤ 9223372036854775807 ∧ ∀ x1 ∈ l0_0, x1.size ≤ 9223372036854775807) → (l0_1.length ≤ 9223372036854775807 ∧ ∀ x1 ∈ l0_1, ((Lit.int .i64 x1.f0).wf = true) ∧ (x1.f1.size ≤ 9223372036854775807)) → ∃ k, laws_FnExactFlushDevice.f k l0_0 l0_1 = some true

theorem wid {n : Int} (h0 : -9223372036854775808 ≤ n) (h1 : n < 9223372036854775808) : wrap64 n = n := by unfold wrap64; omega
theorem _root_.Go.Proofs.YtbonjmnpcklciaaW.PrintWords.Ev.ofEq {α : Type} {g : Nat → Option α} {r q : α} (h : Ev g r) (e : r = q) : Ev g q := e ▸ h
theorem _root_.Go.Proofs.YtbonjmnpcklciaaW.PrintWords.Ev.same {α : Type} {o : Option α} {r : α} (h : o = some r) : Ev (fun _ => o) r := ⟨0, fun _ _ => h⟩
theorem _root_.Go.Proofs.YtbonjmnpcklciaaW.PrintWords.Ev.to {α : Type} {g f : Nat → Option α} {r : α} (k : Ev f r) (h : ∀ k, g (k + 1) = f k) : Ev g r := Ev.step h k
theorem _root_.Go.Proofs.YtbonjmnpcklciaaW.PrintWords.Ev.cg {α : Type} {g f : Nat → Option α} {r : α} (k : Ev f r) (h : ∀ k, g k = f k) : Ev g r := Ev.congr h k
theorem _root_.Go.Proofs.YtbonjmnpcklciaaW.PrintWords.Ev.ifp {α : Type} {c : Prop} [Decidable c] {g f : Nat → Option α} {r : α} (h : c) (e : Ev g r) : Ev (fun k => if c then g k else f k) r := by simp only [if_pos h]; exact e
theorem _root_.Go.Proofs.YtbonjmnpcklciaaW.PrintWords.Ev.ifn {α : Type} {c : Prop} [Decidable c] {g f : Nat → Option α} {r : α} (h : ¬ c) (e : Ev f r) : Ev (fun k => if c then g k else f k) r := by simp only [if_neg h]; exact e
/-- The bytes of a string, as numbers. -/
def bl (s : ByteArray) : List Int := s.data.toList.map fun b => (b.toNat : Int)
theorem bl_len (s : ByteArray) : (bl s).length = s.size := by unfold bl; rw [List.length_map]; rfl
def Byt (xs : List Int) : Prop := ∀ x ∈ xs, 0 ≤ x ∧ x < 256
theorem Byt.nil : Byt [] := fun _ h => by simp at h
theorem Byt.cons {x : Int} {xs : List Int} (h : 0 ≤ x ∧ x < 256) (h' : Byt xs) : Byt (x :: xs) := fun y hy => by
  rcases List.mem_cons.1 hy with rfl | hy
  · exact h
  · exact h' y hy
theorem Byt.app {xs ys : List Int} (h : Byt xs) (h' : Byt ys) : Byt (xs ++ ys) := fun y hy => by
  rcases List.mem_append.1 hy with hy | hy
  · exact h y hy
  · exact h' y hy
theorem Byt.left {xs ys : List Int} (h : Byt (xs ++ ys)) : Byt xs := fun y hy => h y (List.mem_append_left _ hy)
theorem Byt.right {xs ys : List Int} (h : Byt (xs ++ ys)) : Byt ys := fun y hy => h y (List.mem_append_right _ hy)
theorem Byt.tail {x : Int} {xs : List Int} (h : Byt (x :: xs)) : Byt xs := fun y hy => h y (List.mem_cons_of_mem _ hy)
theorem Byt.head {x : Int} {xs : List Int} (h : Byt (x :: xs)) : 0 ≤ x ∧ x < 256 := h x (List.mem_cons_self ..)
theorem Byt.drop {xs : List Int} (h : Byt xs) (n : Nat) : Byt (xs.drop n) := fun y hy => h y (List.mem_of_mem_drop hy)
theorem Byt.take {xs : List Int} (h : Byt xs) (n : Nat) : Byt (xs.take n) := fun y hy => h y (List.mem_of_mem_take hy)
theorem bl_byt (s : ByteArray) : Byt (bl s) := fun x hx => by
  obtain ⟨b, _, rfl⟩ := List.mem_map.1 hx
  have := b.toNat_lt
  omega
theorem u8_back (b : UInt8) : UInt8.ofNat ((b.toNat : Int)).toNat = b := by simp
theorem bl_str {xs : List Int} (h : Byt xs) : bl (strOfNums xs) = xs := by
  unfold bl
  rw [strOfNums_data, List.map_map]
  conv => rhs; rw [← List.map_id xs]
  apply List.map_congr_left
  intro x hx
  have := h x hx
  simp only [Function.comp, id]
  obtain ⟨n, rfl⟩ := Int.eq_ofNat_of_zero_le this.1
  simp
  omega
theorem str_bl (s : ByteArray) : strOfNums (bl s) = s := by
  unfold strOfNums bl
  rw [List.map_map]
  have : ((fun n : Int => UInt8.ofNat n.toNat) ∘ fun b : UInt8 => (b.toNat : Int)) = id := by
    funext b
    simp
  rw [this, List.map_id]
theorem bl_inj {a b : ByteArray} (h : bl a = bl b) : a = b := by rw [← str_bl a, ← str_bl b, h]
theorem bt_bl (s : ByteArray) (i : Int) : bt s i = (bl s).getD i.toNat 0 := by
  unfold bt
  split
  · rename_i h
    have hl : i.toNat < s.data.toList.length := h
    simp only [bl, List.getD_eq_getElem?_getD, List.getElem?_map, List.getElem?_eq_getElem hl, Option.map_some, Option.getD_some]
    rfl
  · rename_i h
    rw [List.getD_eq_getElem?_getD, List.getElem?_eq_none (by rw [bl_len]; omega)]
    rfl
theorem bl_app (a b : ByteArray) : bl (a ++ b) = bl a ++ bl b := by
  unfold bl
  rw [ByteArray.data_append, Array.toList_append, List.map_append]
theorem bl_ext (a : ByteArray) (i j : Nat) : bl (a.extract i j) = ((bl a).take j).drop i := by
  unfold bl
  rw [ByteArray.data_extract, Array.toList_extract, List.extract_eq_take_drop, List.map_take, List.map_drop, List.drop_take]
theorem bl_emp : bl (⟨#[]⟩ : ByteArray) = [] := rfl
theorem bl_cons {s : ByteArray} {i : Nat} (h : i < s.size) : (bl s).drop i = bt s (i : Int) :: (bl s).drop (i + 1) := by
  have hl : i < (bl s).length := by rw [bl_len]; exact h
  rw [List.drop_eq_getElem_cons hl, bt_bl, List.getD_eq_getElem?_getD, Int.toNat_natCast, List.getElem?_eq_getElem hl]
  rfl
theorem bl_end {s : ByteArray} {i : Nat} (h : s.size ≤ i) : (bl s).drop i = [] := List.drop_of_length_le (by rw [bl_len]; exact h)
theorem tl_inj {a b : ByteArray} : a.toList = b.toList ↔ a = b := by
  constructor
  · intro h
    rw [ByteArray.toList_eq, ByteArray.toList_eq] at h
    apply ByteArray.ext
    exact Array.toList_inj.1 h
  · rintro rfl; rfl
theorem tl_bl {a b : ByteArray} : a.toList = b.toList ↔ bl a = bl b := tl_inj.trans ⟨fun h => h ▸ rfl, bl_inj⟩
theorem tdiv_pos {a b : Int} (h : 0 ≤ a) : Int.tdiv a b = a / b := Int.tdiv_eq_ediv_of_nonneg h
theorem tmod_pos {a b : Int} (h : 0 ≤ a) : Int.tmod a b = a % b := Int.tmod_eq_emod_of_nonneg h
theorem bne_rfl_bool (b : Bool) : (b != b) = false := by cases b <;> rfl
theorem wf_u32 {n : Int} (h : (Lit.int .u32 n).wf = true) : 0 ≤ n ∧ n < 4294967296 := by
  have h1 : IntKind.u32.min = 0 := by decide +kernel
  have h2 : IntKind.u32.max = 4294967295 := by decide +kernel
  simp only [Lit.wf, h1, h2, Bool.and_eq_true, decide_eq_true_eq] at h
  omega
theorem wf_i64 {n : Int} (h : (Lit.int .i64 n).wf = true) : -9223372036854775808 ≤ n ∧ n < 9223372036854775808 := by
  have h1 : IntKind.i64.min = -9223372036854775808 := by decide +kernel
  have h2 : IntKind.i64.max = 9223372036854775807 := by decide +kernel
  simp only [Lit.wf, h1, h2, Bool.and_eq_true, decide_eq_true_eq] at h
  omega
theorem Byt.one {x : Int} (h : 0 ≤ x ∧ x < 256) : Byt [x] := Byt.nil.cons h
theorem bl_size (s : ByteArray) : s.size = (bl s).length := (bl_len s).symm
theorem str_len (xs : List Int) : (strOfNums xs).size = xs.length := strOfNums_size xs

theorem set_take {α : Type} (xs : List α) {i : Nat} (v : α) (h : i < xs.length) : (xs.set i v).take (i + 1) = xs.take i ++ [v] := by
  rw [List.take_succ_eq_append_getElem (by rw [List.length_set]; exact h), List.getElem_set_self, List.take_set_of_le (Nat.le_refl _)]
theorem getD_at {α : Type} {xs : List α} {i : Nat} (z : α) (h : i < xs.length) : xs.getD ((i : Int)).toNat z = xs[i] := by
  rw [Int.toNat_natCast, List.getD_eq_getElem?_getD, List.getElem?_eq_getElem h]; rfl
theorem rdOf_at {α : Type} {xs : List α} {i : Nat} (z : α) (h : i < xs.length) : rdOf z xs (i : Int) = xs[i] := getD_at z h
theorem rd_at {xs : List Int} {i : Nat} (h : i < xs.length) : rd xs (i : Int) = xs[i] := getD_at 0 h
theorem toNat_len (n : Nat) : ((n : Int) : Int).toNat = n := Int.toNat_natCast n

theorem rl_Put {xs : List S177} {i : Nat} (h : i < xs.length) : rd_T177 xs (i : Int) = xs[i] := getD_at _ h

def cvPut (x : S177) : S143 := ⟨x.f0, x.f1⟩
theorem toPutS_go (x0 : List S177) (hl : x0.length ≤ 1048576) : ∀ (d i : Nat) (x3 : List S143), i + d = x0.length → x3.length = x0.length → Ev (fun k => laws_toPutS.l0 k x0 x3 (i : Int)) (x3.take i ++ (x0.drop i).map cvPut)
  | 0, i, x3, hi, h3 => by
    rw [List.drop_of_length_le (by omega), List.take_of_length_le (by omega), List.map_nil, List.append_nil]
    refine (Ev.now _).to fun k => ?_
    simp only [laws_toPutS.l0]
    rw [if_neg (by omega)]
  | d + 1, i, x3, hi, h3 => by
    have hlt : i < x0.length := by omega
    have ih := toPutS_go x0 hl d (i + 1) (x3.set i (cvPut x0[i])) (by omega) (by rw [List.length_set]; omega)
    rw [set_take _ _ (by omega), List.append_assoc] at ih
    rw [List.drop_eq_getElem_cons hlt, List.map_cons]
    refine ih.to fun k => ?_
    simp only [laws_toPutS.l0]
    rw [if_pos (by omega), if_pos (by omega), rl_Put hlt]
    simp only [laws_toPut.f, Option.bind_some]
    rw [if_pos (by omega), wid (by omega) (by omega)]
    rfl
theorem toPutS (x0 : List S177) (hl : x0.length ≤ 1048576) : Ev (fun k => laws_toPutS.f k x0) (x0.map cvPut) := by
  unfold laws_toPutS.f
  refine Ev.ifp (by omega) (Ev.ifp (by rw [Int.toNat_natCast]; omega) ?_)
  have := toPutS_go x0 hl x0.length 0 (List.replicate ((x0.length : Int) : Int).toNat z143) (by omega) (by rw [List.length_replicate, Int.toNat_natCast])
  simpa using this

theorem ri_Put {xs : List S143} {i : Nat} (h : i < xs.length) : rd_T143 xs (i : Int) = xs[i] := getD_at _ h

theorem eqPut_self (x : S143) : laws_eqPut.f x.f0 x.f1 x.f0 x.f1 = some true := by unfold laws_eqPut.f; simp
theorem eqPutS_go (x0 : List S143) (hl : x0.length ≤ 100000000) : ∀ (d i : Nat), i + d = x0.length → Ev (fun k => laws_eqPutS.l0 k x0 x0 (i : Int)) true
  | 0, i, hi => (Ev.now _).to fun k => by simp only [laws_eqPutS.l0]; rw [if_neg (by omega)]
  | d + 1, i, hi => by
    refine (eqPutS_go x0 hl d (i + 1) (by omega)).to fun k => ?_
    simp only [laws_eqPutS.l0]
    rw [if_pos (by omega), if_pos (by omega), if_pos (by omega), eqPut_self]
    simp only [Option.bind_some, if_true]
    rw [wid (by omega) (by omega)]
    rfl
theorem eqPutS (x0 : List S143) (hl : x0.length ≤ 100000000) : Ev (fun k => laws_eqPutS.f k x0 x0) true := by
  unfold laws_eqPutS.f
  exact Ev.ifp rfl (eqPutS_go x0 hl x0.length 0 (by omega))

theorem eqStringS_go (x0 : List ByteArray) (hl : x0.length ≤ 100000000) : ∀ (d i : Nat), i + d = x0.length → Ev (fun k => laws_eqStringS.l0 k x0 x0 (i : Int)) true
  | 0, i, hi => (Ev.now _).to fun k => by simp only [laws_eqStringS.l0]; rw [if_neg (by omega)]
  | d + 1, i, hi => by
    refine (eqStringS_go x0 hl d (i + 1) (by omega)).to fun k => ?_
    simp only [laws_eqStringS.l0, if_true]
    rw [if_pos (by omega), if_pos (by omega), if_pos (by omega), wid (by omega) (by omega)]
    rfl
theorem eqStringS (x0 : List ByteArray) (hl : x0.length ≤ 100000000) : Ev (fun k => laws_eqStringS.f k x0 x0) true := by
  unfold laws_eqStringS.f
  exact Ev.ifp rfl (eqStringS_go x0 hl x0.length 0 (by omega))

theorem eqDevice (s : List ByteArray) (p : List S143) (hs : s.length ≤ 100000000) (hp : p.length ≤ 100000000) : Ev (fun k => laws_eqDevice.f k s p s p) true := by
  unfold laws_eqDevice.f
  refine (eqStringS s hs).bind (Ev.ifp rfl ((eqPutS p hp).bind (Ev.ifp rfl (Ev.now _))))

def okPut (x : S177) : Prop := x.f1.size ≤ 9223372036854775807
def smallPut (x : S177) : Prop := x.f1.size ≤ 1048576
theorem szPut_ (x : S177) (hx : okPut x) (m : Int) (h0 : 0 ≤ m) (h1 : m ≤ 1048576) : ∃ r, laws_szPut.f x.f0 x.f1 m = some r ∧ (r < 0 ∨ (r ≤ m ∧ smallPut x)) := by
  unfold laws_szPut.f
  unfold okPut at hx
  unfold smallPut
  rw [wid (by omega) (by omega)]
  split
  · exact ⟨_, rfl, .inl (by omega)⟩
  · exact ⟨_, rfl, .inr ⟨by omega, by omega⟩⟩
theorem szPutS_go (x0 : List S177) (hl : x0.length ≤ 1048576) (hx : ∀ x ∈ x0, okPut x) : ∀ (d i : Nat) (m : Int), i + d = x0.length → 0 ≤ m → m ≤ 1048576 → ∃ r, Ev (fun k => laws_szPutS.l0 k x0 m (i : Int)) r ∧ (r < 0 ∨ (r ≤ m ∧ ∀ x ∈ x0.drop i, smallPut x))
  | 0, i, m, hi, h0, h1 => ⟨m, (Ev.now _).to fun k => by simp only [laws_szPutS.l0]; rw [if_neg (by omega)], .inr ⟨by omega, fun x h => by rw [List.drop_of_length_le (by omega)] at h; simp at h⟩⟩
  | d + 1, i, m, hi, h0, h1 => by
    have hlt : i < x0.length := by omega
    obtain ⟨r, hr, hc⟩ := szPut_ x0[i] (hx _ (List.getElem_mem hlt)) m h0 h1
    by_cases hn : r < 0
    · refine ⟨-1, (Ev.now _).to fun k => ?_, .inl (by omega)⟩
      simp only [laws_szPutS.l0]
      rw [if_pos (by omega), if_pos (by omega), rl_Put hlt, hr]
      simp only [Option.bind_some]
      rw [if_pos hn]
    · have hc' := hc.resolve_left hn
      obtain ⟨r', hr', hc2⟩ := szPutS_go x0 hl hx d (i + 1) r (by omega) (by omega) (by omega)
      refine ⟨r', hr'.to fun k => ?_, ?_⟩
      · simp only [laws_szPutS.l0]
        rw [if_pos (by omega), if_pos (by omega), rl_Put hlt, hr]
        simp only [Option.bind_some]
        rw [if_neg hn, wid (by omega) (by omega)]
        rfl
      · rcases hc2 with hc2 | ⟨h2, h3⟩
        · exact .inl hc2
        · refine .inr ⟨by omega, fun x hx' => ?_⟩
          rw [List.drop_eq_getElem_cons hlt] at hx'
          rcases List.mem_cons.1 hx' with rfl | hx'
          · exact hc'.2
          · exact h3 x hx'
theorem szPutS (x0 : List S177) (hl : x0.length ≤ 9223372036854775807) (hx : ∀ x ∈ x0, okPut x) (m : Int) (h0 : 0 ≤ m) (h1 : m ≤ 1048576) : ∃ r, Ev (fun k => laws_szPutS.f k x0 m) r ∧ (r < 0 ∨ (r ≤ m ∧ x0.length ≤ 1048576 ∧ ∀ x ∈ x0, smallPut x)) := by
  unfold laws_szPutS.f
  have w : wrap64 (m - (x0.length : Int)) = m - x0.length := wid (by omega) (by omega)
  rw [w]; clear w
  by_cases hn : m - (x0.length : Int) < 0
  · exact ⟨-1, Ev.ifp hn (Ev.now _), .inl (by omega)⟩
  · obtain ⟨r, hr, hc⟩ := szPutS_go x0 (by omega) hx x0.length 0 (m - x0.length) (by omega) (by omega) (by omega)
    refine ⟨r, Ev.ifn hn hr, ?_⟩
    rcases hc with hc | ⟨h2, h3⟩
    · exact .inl hc
    · exact .inr ⟨by omega, by omega, fun x hx' => h3 x (by simpa using hx')⟩

theorem toStringS_go (x0 : List ByteArray) (hl : x0.length ≤ 1048576) : ∀ (d i : Nat) (x3 : List ByteArray), i + d = x0.length → x3.length = x0.length → Ev (fun k => laws_toStringS.l0 k x0 x3 (i : Int)) (x3.take i ++ x0.drop i)
  | 0, i, x3, hi, h3 => by
    rw [List.drop_of_length_le (by omega), List.take_of_length_le (by omega), List.append_nil]
    refine (Ev.now _).to fun k => ?_
    simp only [laws_toStringS.l0]
    rw [if_neg (by omega)]
  | d + 1, i, x3, hi, h3 => by
    have hlt : i < x0.length := by omega
    have ih := toStringS_go x0 hl d (i + 1) (x3.set i x0[i]) (by omega) (by rw [List.length_set]; omega)
    rw [set_take _ _ (by omega), List.append_assoc] at ih
    rw [List.drop_eq_getElem_cons hlt]
    refine ih.to fun k => ?_
    simp only [laws_toStringS.l0]
    rw [if_pos (by omega), if_pos (by omega), if_pos (by omega), rdOf_at _ hlt, wid (by omega) (by omega)]
    rfl
theorem toStringS (x0 : List ByteArray) (hl : x0.length ≤ 1048576) : Ev (fun k => laws_toStringS.f k x0) x0 := by
  unfold laws_toStringS.f
  refine Ev.ifp (by omega) (Ev.ifp (by rw [Int.toNat_natCast]; omega) ?_)
  have := toStringS_go x0 hl x0.length 0 (List.replicate ((x0.length : Int) : Int).toNat (⟨#[]⟩ : ByteArray)) (by omega) (by rw [List.length_replicate, Int.toNat_natCast])
  simpa using this

theorem szStringS_go (x0 : List ByteArray) (hl : x0.length ≤ 1048576) (hx : ∀ x ∈ x0, x.size ≤ 9223372036854775807) : ∀ (d i : Nat) (m : Int), i + d = x0.length → 0 ≤ m → m ≤ 1048576 → ∃ r, Ev (fun k => laws_szStringS.l0 k x0 m (i : Int)) r ∧ (r < 0 ∨ (r ≤ m ∧ ∀ x ∈ x0.drop i, x.size ≤ 1048576))
  | 0, i, m, hi, h0, h1 => ⟨m, (Ev.now _).to fun k => by simp only [laws_szStringS.l0]; rw [if_neg (by omega)], .inr ⟨by omega, fun x h => by rw [List.drop_of_length_le (by omega)] at h; simp at h⟩⟩
  | d + 1, i, m, hi, h0, h1 => by
    have hlt : i < x0.length := by omega
    have hs := hx _ (List.getElem_mem hlt)
    have w : Aside0 (wrap64 (m - (x0[i].size : Int)) = m - x0[i].size) := ⟨wid (by omega) (by omega)⟩
    by_cases hn : m - (x0[i].size : Int) < 0
    · refine ⟨-1, (Ev.now _).to fun k => ?_, .inl (by omega)⟩
      simp only [laws_szStringS.l0]
      rw [if_pos (by omega), if_pos (by omega), rdOf_at _ hlt, w.out, if_pos hn]
    · obtain ⟨r', hr', hc2⟩ := szStringS_go x0 hl hx d (i + 1) (m - x0[i].size) (by omega) (by omega) (by omega)
      refine ⟨r', hr'.to fun k => ?_, ?_⟩
      · simp only [laws_szStringS.l0]
        rw [if_pos (by omega), if_pos (by omega), rdOf_at _ hlt, w.out, if_neg hn, wid (by omega) (by omega)]
        rfl
      · rcases hc2 with hc2 | ⟨h2, h3⟩
        · exact .inl hc2
        · refine .inr ⟨by omega, fun x hx' => ?_⟩
          rw [List.drop_eq_getElem_cons hlt] at hx'
          rcases List.mem_cons.1 hx' with rfl | hx'
          · omega
          · exact h3 x hx'
theorem szStringS (x0 : List ByteArray) (hl : x0.length ≤ 9223372036854775807) (hx : ∀ x ∈ x0, x.size ≤ 9223372036854775807) (m : Int) (h0 : 0 ≤ m) (h1 : m ≤ 1048576) : ∃ r, Ev (fun k => laws_szStringS.f k x0 m) r ∧ (r < 0 ∨ (r ≤ m ∧ x0.length ≤ 1048576 ∧ ∀ x ∈ x0, x.size ≤ 1048576)) := by
  unfold laws_szStringS.f
  have w : wrap64 (m - (x0.length : Int)) = m - x0.length := wid (by omega) (by omega)
  rw [w]; clear w
  by_cases hn : m - (x0.length : Int) < 0
  · exact ⟨-1, Ev.ifp hn (Ev.now _), .inl (by omega)⟩
  · obtain ⟨r, hr, hc⟩ := szStringS_go x0 (by omega) hx x0.length 0 (m - x0.length) (by omega) (by omega) (by omega)
    refine ⟨r, Ev.ifn hn hr, ?_⟩
    rcases hc with hc | ⟨h2, h3⟩
    · exact .inl hc
    · exact .inr ⟨by omega, by omega, fun x hx' => h3 x (by simpa using hx')⟩

theorem szDevice (s : List ByteArray) (p : List S177) (hs : s.length ≤ 9223372036854775807) (hs' : ∀ x ∈ s, x.size ≤ 9223372036854775807) (hp : p.length ≤ 9223372036854775807) (hp' : ∀ x ∈ p, okPut x) (m : Int) (h0 : 0 ≤ m) (h1 : m ≤ 1048576) :
    ∃ r, Ev (fun k => laws_szDevice.f k s p m) r ∧ (r < 0 ∨ (r ≤ m ∧ s.length ≤ 1048576 ∧ (∀ x ∈ s, x.size ≤ 1048576) ∧ p.length ≤ 1048576 ∧ ∀ x ∈ p, smallPut x)) := by
  unfold laws_szDevice.f
  obtain ⟨r, hr, hc⟩ := szStringS s hs hs' m h0 h1
  by_cases h : r < 0
  · exact ⟨-1, hr.bind (Ev.ifp h (Ev.now _)), .inl (by omega)⟩
  · have hc := hc.resolve_left h
    obtain ⟨q, hq, hd⟩ := szPutS p hp hp' r (by omega) (by omega)
    by_cases h' : q < 0
    · exact ⟨-1, hr.bind (Ev.ifn h (hq.bind (Ev.ifp h' (Ev.now _)))), .inl (by omega)⟩
    · have hd := hd.resolve_left h'
      exact ⟨q, hr.bind (Ev.ifn h (hq.bind (Ev.ifn h' (Ev.now _)))), .inr ⟨by omega, hc.2.1, hc.2.2, hd.2.1, hd.2.2⟩⟩
theorem toDevice (s : List ByteArray) (p : List S177) (hs : s.length ≤ 1048576) (hp : p.length ≤ 1048576) : Ev (fun k => laws_toDevice.f k s p) (s, p.map cvPut) := by
  unfold laws_toDevice.f
  exact (toStringS s hs).bind ((toPutS p hp).bind (Ev.now _))

/-! Marks -/
def digL (n : Nat) : List Int := if h : n > 0 then digL (n / 10) ++ [48 + ((n % 10 : Nat) : Int)] else []
termination_by n
decreasing_by omega
theorem digL_pos {n : Nat} (h : n > 0) : digL n = digL (n / 10) ++ [48 + ((n % 10 : Nat) : Int)] := by rw [digL, dif_pos h]
theorem digL_zero : digL 0 = [] := by rw [digL, dif_neg (by omega)]
theorem digL_byt (n : Nat) : Byt (digL n) := by
  induction n using Nat.strongRecOn with
  | _ n ih =>
    by_cases h : n > 0
    · rw [digL_pos h]; exact (ih _ (by omega)).app (Byt.one ⟨by omega, by omega⟩)
    · obtain rfl : n = 0 := by omega
      rw [digL_zero]; exact Byt.nil
def MB : ByteArray := ⟨#[109]⟩
def mText (m : Int) : ByteArray := if m ≤ 0 then ⟨#[109, 48]⟩ else MB ++ strOfNums (digL m.toNat)
theorem str_app {xs ys : List Int} : strOfNums (xs ++ ys) = strOfNums xs ++ strOfNums ys := by
  apply ByteArray.ext
  unfold strOfNums
  rw [ByteArray.data_append]
  simp
theorem ba_assoc (a b c : ByteArray) : a ++ b ++ c = a ++ (b ++ c) := by
  apply bl_inj
  simp only [bl_app, List.append_assoc]
theorem mText_go (n : Nat) : ∀ acc : ByteArray, acc.size + n ≤ 1000000000000 → Ev (fun k => laws_markText.l0 k (n : Int) acc) (MB ++ (strOfNums (digL n) ++ acc)) := by
  induction n using Nat.strongRecOn with
  | _ n ih =>
    intro acc ha
    by_cases h : n > 0
    · have h1 : (strOfNums [48 + ((n % 10 : Nat) : Int)] ++ acc).size = 1 + acc.size := by rw [bl_size, bl_app, List.length_append, bl_len, bl_len, str_len]; rfl
      have := ih (n / 10) (by omega) (strOfNums [48 + ((n % 10 : Nat) : Int)] ++ acc) (by omega)
      rw [← ba_assoc (strOfNums (digL (n / 10))), ← str_app, ← digL_pos h] at this
      refine this.to fun k => ?_
      have w : wrap64 (48 + Int.tmod (n : Int) 10) % 256 = 48 + ((n % 10 : Nat) : Int) := by rw [tmod_pos (by omega), wid (by omega) (by omega)]; omega
      simp only [laws_markText.l0, w, Option.bind_some]
      clear w
      rw [if_pos (by omega), if_pos (by rw [str_len, List.length_singleton]; omega), tdiv_pos (by omega), wid (by omega) (by omega)]
      congr 1
    · obtain rfl : n = 0 := by omega
      rw [digL_zero]
      refine (Ev.now _).to fun k => ?_
      simp only [laws_markText.l0]
      rw [if_neg (by omega), if_pos (by omega)]
      have e : strOfNums [] ++ acc = acc := by apply bl_inj; rw [bl_app]; rfl
      rw [e]
      rfl
theorem markText (m : Int) (h : m ≤ 100000000000) : Ev (fun k => laws_markText.f k m) (mText m) := by
  unfold laws_markText.f mText
  by_cases h0 : m ≤ 0
  · rw [if_pos h0]; exact Ev.ifp h0 (Ev.now _)
  · rw [if_neg h0]
    refine Ev.ifn h0 ?_
    have := mText_go m.toNat (⟨#[]⟩ : ByteArray) (by show 0 + m.toNat ≤ _; omega)
    rw [Int.toNat_of_nonneg (by omega)] at this
    refine Ev.ofEq this ?_
    congr 1
    apply bl_inj
    rw [bl_app, bl_emp, List.append_nil]
theorem take_set_drop {α : Type} (xs : List α) {i : Nat} (v : α) (h : i < xs.length) : (xs.set i v).drop (i + 1) = xs.drop (i + 1) := by
  rw [List.drop_set_of_lt (by omega)]

def mkS : Int → List ByteArray → List ByteArray
  | _, [] => []
  | m, _ :: l => mText m :: mkS (m + 1) l
theorem mkS_len : ∀ (l : List ByteArray) (m : Int), (mkS m l).length = l.length
  | [], _ => rfl
  | _ :: l, m => by simp only [mkS, List.length_cons, mkS_len l]
theorem markStringS_go : ∀ (d i : Nat) (x0 : List ByteArray) (m : Int), i + d = x0.length → x0.length ≤ 100000000 → 0 ≤ m → m + d ≤ 10000000000 → Ev (fun k => laws_markStringS.l0 k x0 m (i : Int)) (m + d, x0.take i ++ mkS m (x0.drop i))
  | 0, i, x0, m, hi, hl, h0, h1 => by
    rw [List.drop_of_length_le (by omega), List.take_of_length_le (by omega)]
    refine Ev.ofEq ((Ev.now (m, x0)).to fun k => ?_) (by simp [mkS])
    simp only [laws_markStringS.l0]; rw [if_neg (by omega)]
  | d + 1, i, x0, m, hi, hl, h0, h1 => by
    have hlt : i < x0.length := by omega
    have ih := markStringS_go d (i + 1) (x0.set i (mText m)) (m + 1) (by rw [List.length_set]; omega) (by rw [List.length_set]; omega) (by omega) (by omega)
    rw [set_take _ _ hlt, take_set_drop _ _ hlt, List.append_assoc] at ih
    rw [List.drop_eq_getElem_cons hlt, mkS]
    have e : ((m + 1) + (d : Int), x0.take i ++ ([mText m] ++ mkS (m + 1) (x0.drop (i + 1)))) = (m + ((d + 1 : Nat) : Int), x0.take i ++ mText m :: mkS (m + 1) (x0.drop (i + 1))) := by
      rw [List.singleton_append]; congr 1; omega
    rw [e] at ih
    refine Ev.to (f := fun k => (laws_markText.f k m).bind fun t => laws_markStringS.l0 k (x0.set i t) (m + 1) ((i + 1 : Nat) : Int)) ((markText m (by omega)).bind ih) fun k => ?_
    have w1 : wrap64 (m + 1) = m + 1 := wid (by omega) (by omega)
    have w2 : wrap64 ((i : Int) + 1) = ((i + 1 : Nat) : Int) := by rw [wid (by omega) (by omega)]; rfl
    simp only [laws_markStringS.l0, w1, w2, Int.toNat_natCast, if_pos (show (0 : Int) ≤ (i : Int) by omega), if_pos (show (i : Int) < x0.length by omega)]
theorem markStringS (x0 : List ByteArray) (m : Int) (hl : x0.length ≤ 100000000) (h0 : 0 ≤ m) (h1 : m ≤ 1000000000) : Ev (fun k => laws_markStringS.f k x0 m) (m + x0.length, mkS m x0) := by
  unfold laws_markStringS.f
  have := markStringS_go x0.length 0 x0 m (by omega) hl h0 (by omega)
  simpa using this
theorem heldStringS_go (z : List ByteArray) (hl : z.length ≤ 100000000) : ∀ (d i : Nat) (l : List ByteArray) (m : Int), l.length = d → i + d = z.length → z.drop i = mkS m l → 0 ≤ m → m + d ≤ 10000000000 → Ev (fun k => laws_heldStringS.l0 k z m (i : Int)) (m + d)
  | 0, i, l, m, hd, hi, hz, h0, h1 => by
    refine Ev.ofEq ((Ev.now m).to fun k => ?_) (by omega)
    simp only [laws_heldStringS.l0]; rw [if_neg (by omega)]
  | d + 1, i, [], m, hd, hi, hz, h0, h1 => by simp at hd
  | d + 1, i, x :: l, m, hd, hi, hz, h0, h1 => by
    have hlt : i < z.length := by omega
    rw [List.drop_eq_getElem_cons hlt, mkS, List.cons.injEq] at hz
    have ih := heldStringS_go z hl d (i + 1) l (m + 1) (by simpa using hd) (by omega) hz.2 (by omega) (by omega)
    refine Ev.ofEq (r := m + 1 + d) ?_ (by omega)
    refine Ev.to (f := fun k => (laws_markText.f k m).bind fun t => if z[i].toList = t.toList then laws_heldStringS.l0 k z (m + 1) ((i + 1 : Nat) : Int) else some (-1)) (r := m + 1 + d) ?_ fun k => ?_
    · refine (markText m (by omega)).bind ?_
      refine Ev.ifp ?_ ih
      rw [hz.1]
    have w1 : wrap64 (m + 1) = m + 1 := wid (by omega) (by omega)
    have w2 : wrap64 ((i : Int) + 1) = ((i + 1 : Nat) : Int) := by rw [wid (by omega) (by omega)]; rfl
    simp only [laws_heldStringS.l0, w1, w2]
    clear w1 w2
    rw [if_pos (by omega), if_pos (by omega), rdOf_at _ hlt]
theorem heldStringS (l : List ByteArray) (m : Int) (hl : l.length ≤ 100000000) (h0 : 0 ≤ m) (h1 : m ≤ 1000000000) : Ev (fun k => laws_heldStringS.f k (mkS m l) m) (m + l.length) := by
  unfold laws_heldStringS.f
  exact heldStringS_go (mkS m l) (by rw [mkS_len]; exact hl) l.length 0 l m rfl (by rw [mkS_len]; omega) (by simp) h0 (by omega)

def mkPut : Int → List S143 → List S143
  | _, [] => []
  | m, _ :: l => ⟨m, mText (m + 1)⟩ :: mkPut (m + 2) l
theorem mkPut_len : ∀ (l : List S143) (m : Int), (mkPut m l).length = l.length
  | [], _ => rfl
  | _ :: l, m => by simp only [mkPut, List.length_cons, mkPut_len l]
theorem ri_set_Put {xs : List S143} {i : Nat} (v : S143) (h : i < xs.length) : rd_T143 (xs.set i v) (i : Int) = v := by
  rw [ri_Put (by rw [List.length_set]; exact h), List.getElem_set_self]
theorem markPutS_go : ∀ (d i : Nat) (x0 : List S143) (m : Int), i + d = x0.length → x0.length ≤ 100000000 → 0 ≤ m → m + 2 * d ≤ 10000000000 → Ev (fun k => laws_markPutS.l0 k x0 m (i : Int)) (m + 2 * d, x0.take i ++ mkPut m (x0.drop i))
  | 0, i, x0, m, hi, hl, h0, h1 => by
    rw [List.drop_of_length_le (by omega), List.take_of_length_le (by omega)]
    refine Ev.ofEq ((Ev.now (m, x0)).to fun k => ?_) (by simp [mkPut])
    simp only [laws_markPutS.l0]; rw [if_neg (by omega)]
  | d + 1, i, x0, m, hi, hl, h0, h1 => by
    have hlt : i < x0.length := by omega
    have ih := markPutS_go d (i + 1) (x0.set i ⟨m, mText (m + 1)⟩) (m + 2) (by rw [List.length_set]; omega) (by rw [List.length_set]; omega) (by omega) (by omega)
    rw [set_take _ _ hlt, take_set_drop _ _ hlt, List.append_assoc] at ih
    rw [List.drop_eq_getElem_cons hlt, mkPut]
    have e : ((m + 2) + 2 * (d : Int), x0.take i ++ ([⟨m, mText (m + 1)⟩] ++ mkPut (m + 2) (x0.drop (i + 1)))) = (m + 2 * ((d + 1 : Nat) : Int), x0.take i ++ ⟨m, mText (m + 1)⟩ :: mkPut (m + 2) (x0.drop (i + 1))) := by
      rw [List.singleton_append]; congr 1; omega
    rw [e] at ih
    refine Ev.to (f := fun k => (laws_markText.f k (m + 1)).bind fun t1 => laws_markPutS.l0 k (x0.set i ⟨m, t1⟩) (m + 2) ((i + 1 : Nat) : Int)) (r := (m + 2 * ((d + 1 : Nat) : Int), x0.take i ++ ⟨m, mText (m + 1)⟩ :: mkPut (m + 2) (x0.drop (i + 1)))) ?_ fun k => ?_
    · skip
      refine (markText _ (by omega)).bind ?_
      exact ih
    have w0 : wrap64 (m + 1) = m + 1 := wid (by omega) (by omega)
    have w1 : wrap64 (m + 1 + 1) = m + 2 := by rw [wid (by omega) (by omega)]; omega
    have w_ : wrap64 ((i : Int) + 1) = ((i + 1 : Nat) : Int) := by rw [wid (by omega) (by omega)]; rfl
    simp only [laws_markPutS.l0, w0, w1, w_, Int.toNat_natCast, Option.bind_some, ri_Put hlt, ri_set_Put _ hlt, List.set_set, if_pos (show (i : Int) < (x0.length : Int) by omega), if_pos (show (0 : Int) ≤ (i : Int) by omega)]
theorem markPutS (x0 : List S143) (m : Int) (hl : x0.length ≤ 100000000) (h0 : 0 ≤ m) (h1 : m ≤ 1000000000) : Ev (fun k => laws_markPutS.f k x0 m) (m + 2 * x0.length, mkPut m x0) := by
  unfold laws_markPutS.f
  have := markPutS_go x0.length 0 x0 m (by omega) hl h0 (by omega)
  simpa using this
theorem heldPutS_go (z : List S143) (hl : z.length ≤ 100000000) : ∀ (d i : Nat) (l : List S143) (m : Int), l.length = d → i + d = z.length → z.drop i = mkPut m l → 0 ≤ m → m + 2 * d ≤ 10000000000 → Ev (fun k => laws_heldPutS.l0 k z m (i : Int)) (m + 2 * d)
  | 0, i, l, m, hd, hi, hz, h0, h1 => by
    refine Ev.ofEq ((Ev.now m).to fun k => ?_) (by omega)
    simp only [laws_heldPutS.l0]; rw [if_neg (by omega)]
  | d + 1, i, [], m, hd, hi, hz, h0, h1 => by simp at hd
  | d + 1, i, x :: l, m, hd, hi, hz, h0, h1 => by
    have hlt : i < z.length := by omega
    rw [List.drop_eq_getElem_cons hlt, mkPut, List.cons.injEq] at hz
    have ih := heldPutS_go z hl d (i + 1) l (m + 2) (by simpa using hd) (by omega) hz.2 (by omega) (by omega)
    refine Ev.ofEq (r := m + 2 + 2 * d) ?_ (by omega)
    refine Ev.to (f := fun k => if z[i].f0 = m then (laws_markText.f k (m + 1)).bind fun t1 => if z[i].f1.toList = t1.toList then laws_heldPutS.l0 k z (m + 2) ((i + 1 : Nat) : Int) else some (-1) else some (-1)) (r := m + 2 + 2 * d) ?_ fun k => ?_
    · skip
      refine Ev.ifp (by rw [hz.1]) ?_
      refine (markText _ (by omega)).bind ?_
      refine Ev.ifp (by rw [hz.1]) ?_
      exact ih
    have w0 : wrap64 (m + 1) = m + 1 := wid (by omega) (by omega)
    have w1 : wrap64 (m + 1 + 1) = m + 2 := by rw [wid (by omega) (by omega)]; omega
    have w_ : wrap64 ((i : Int) + 1) = ((i + 1 : Nat) : Int) := by rw [wid (by omega) (by omega)]; rfl
    simp only [laws_heldPutS.l0, w0, w1, w_, ri_Put hlt]
    clear w_ w0 w1
    rw [if_pos (by omega), if_pos (by omega)]
theorem heldPutS (l : List S143) (m : Int) (hl : l.length ≤ 100000000) (h0 : 0 ≤ m) (h1 : m ≤ 1000000000) : Ev (fun k => laws_heldPutS.f k (mkPut m l) m) (m + 2 * l.length) := by
  unfold laws_heldPutS.f
  exact heldPutS_go (mkPut m l) (by rw [mkPut_len]; exact hl) l.length 0 l m rfl (by rw [mkPut_len]; omega) (by simp) h0 (by omega)

theorem markDevice (s : List ByteArray) (p : List S143) (m : Int) (hs : s.length ≤ 1000000) (hp : p.length ≤ 1000000) (h0 : 0 ≤ m) (h1 : m ≤ 10000000) : Ev (fun k => laws_markDevice.f k s p m) (m + s.length + 2 * p.length, mkS m s, mkPut (m + s.length) p) := by
  unfold laws_markDevice.f
  exact (markStringS s m (by omega) h0 (by omega)).bind ((markPutS p (m + s.length) (by omega) (by omega) (by omega)).bind (Ev.now _))
theorem heldDevice (s : List ByteArray) (p : List S143) (m : Int) (hs : s.length ≤ 1000000) (hp : p.length ≤ 1000000) (h0 : 0 ≤ m) (h1 : m ≤ 10000000) : Ev (fun k => laws_heldDevice.f k (mkS m s) (mkPut (m + s.length) p) m) (m + s.length + 2 * p.length) := by
  unfold laws_heldDevice.f
  refine (heldStringS s m (by omega) h0 (by omega)).bind (Ev.ifn (by omega) ((heldPutS p (m + s.length) (by omega) (by omega) (by omega)).bind (Ev.ifn (by omega) (Ev.now _))))
theorem mark0 (s : List ByteArray) (p : List S143) (hs : s.length ≤ 1048576) (hp : p.length ≤ 1048576) : Ev (fun k => laws_markDevice.f k s p 1) (1 + s.length + 2 * p.length, mkS 1 s, mkPut (1 + s.length) p) := by
  unfold laws_markDevice.f
  exact (markStringS s 1 (by omega) (by omega) (by omega)).bind ((markPutS p (1 + s.length) (by omega) (by omega) (by omega)).bind (Ev.now _))

/-! Right devices -/
def putOk (n : Nat) (p : S143) : Bool := decide (0 ≤ p.f0 ∧ p.f0 < (n : Int) ∧ p.f1.size ≤ 64)
def devOk (s : List ByteArray) (p : List S143) : Bool := decide (1 ≤ s.length ∧ s.length ≤ 400 ∧ p.length ≤ 400) && ((s.all fun x => decide (x.size ≤ 64)) && (p.all fun x => putOk s.length x))
theorem devOk_t {s : List ByteArray} {p : List S143} (h : devOk s p = true) : (1 ≤ s.length ∧ s.length ≤ 400 ∧ p.length ≤ 400) ∧ (∀ x ∈ s, x.size ≤ 64) ∧ ∀ x ∈ p, 0 ≤ x.f0 ∧ x.f0 < (s.length : Int) ∧ x.f1.size ≤ 64 := by
  unfold devOk putOk at h
  simp only [Bool.and_eq_true, decide_eq_true_eq, List.all_eq_true] at h
  exact h
theorem devOk_mk {s : List ByteArray} {p : List S143} (h : (1 ≤ s.length ∧ s.length ≤ 400 ∧ p.length ≤ 400) ∧ (∀ x ∈ s, x.size ≤ 64) ∧ ∀ x ∈ p, 0 ≤ x.f0 ∧ x.f0 < (s.length : Int) ∧ x.f1.size ≤ 64) : devOk s p = true := by
  unfold devOk putOk
  simp only [Bool.and_eq_true, decide_eq_true_eq, List.all_eq_true]
  exact h

def flushL (s : List ByteArray) (p : List S143) : List ByteArray := p.foldl (fun s x => s.set x.f0.toNat x.f1) s
theorem flushL_cons (s : List ByteArray) (x : S143) (p : List S143) : flushL s (x :: p) = flushL (s.set x.f0.toNat x.f1) p := rfl
theorem flushL_len : ∀ (p : List S143) (s : List ByteArray), (flushL s p).length = s.length
  | [], _ => rfl
  | x :: p, s => by rw [flushL_cons, flushL_len p, List.length_set]
def pFlush (s : List ByteArray) (p : List S143) : List ByteArray × List S143 × Bool := if devOk s p = true then (flushL s p, [], true) else ([], [], false)
theorem pFlush_len (s : List ByteArray) (p : List S143) : ∃ s' p' b, pFlush s p = (s', p', b) ∧ s'.length ≤ 400 ∧ p'.length ≤ 400 := by
  unfold pFlush
  split
  · rename_i h
    have := (devOk_t h).1
    exact ⟨_, _, _, rfl, by rw [flushL_len]; omega, by simp⟩
  · exact ⟨_, _, _, rfl, by simp, by simp⟩

theorem s_in (a b c : Int) : spec_l01In.f a b c = some (decide (b ≤ a ∧ a ≤ c)) := by
  unfold spec_l01In.f
  by_cases h : a ≥ b
  · rw [if_pos h]; simp [show b ≤ a from h]
  · rw [if_neg h]; simp [show ¬ b ≤ a from h]
theorem s_in_t {a b c : Int} (h : b ≤ a ∧ a ≤ c) : spec_l01In.f a b c = some true := by rw [s_in, decide_eq_true h]
theorem s_in_f {a b c : Int} (h : ¬ (b ≤ a ∧ a ≤ c)) : spec_l01In.f a b c = some false := by rw [s_in, decide_eq_false h]

theorem s_l03Put (s : List ByteArray) (p : List S143) (x : S143) (hs : s.length ≤ 400) : spec_l03Put.f s p x.f0 x.f1 = some (putOk s.length x) := by
  unfold spec_l03Put.f putOk
  rw [wid (by omega) (by omega), s_in]
  simp only [Option.bind_some]
  by_cases h : 0 ≤ x.f0 ∧ x.f0 ≤ (s.length : Int) - 1
  · rw [if_pos (decide_eq_true h)]; congr 1; rw [decide_eq_decide]; omega
  · rw [if_neg (by simpa using h)]; congr 1; symm; rw [decide_eq_false_iff_not]; omega
theorem sDO_l1 (s : List ByteArray) (p : List S143) (hs : s.length ≤ 400) (hp : p.length ≤ 1048576) : ∀ (d i : Nat), i + d = p.length → Ev (fun k => spec_DeviceOk.l1 k (i : Int) s p) ((p.drop i).all fun x => putOk s.length x)
  | 0, i, hi => by
    rw [List.drop_of_length_le (by omega)]
    exact (Ev.now _).to fun k => by simp only [spec_DeviceOk.l1]; rw [if_neg (by omega)]; rfl
  | d + 1, i, hi => by
    have hlt : i < p.length := by omega
    have ih := sDO_l1 s p hs hp d (i + 1) (by omega)
    rw [List.drop_eq_getElem_cons hlt, List.all_cons]
    cases hb : putOk s.length p[i] with
    | false =>
      rw [Bool.false_and]
      refine (Ev.now _).to fun k => ?_
      simp only [spec_DeviceOk.l1]
      rw [if_pos (by omega), if_pos (by omega), ri_Put hlt, s_l03Put _ _ _ hs, hb]
      rfl
    | true =>
      rw [Bool.true_and]
      refine ih.to fun k => ?_
      simp only [spec_DeviceOk.l1]
      rw [if_pos (by omega), if_pos (by omega), ri_Put hlt, s_l03Put _ _ _ hs, hb, wid (by omega) (by omega)]
      rfl
theorem sDO_l0 (s : List ByteArray) (p : List S143) (hs : s.length ≤ 400) (hp : p.length ≤ 1048576) : ∀ (d i : Nat), i + d = s.length → Ev (fun k => spec_DeviceOk.l0 k (i : Int) s p) (((s.drop i).all fun x => decide (x.size ≤ 64)) && (p.all fun x => putOk s.length x))
  | 0, i, hi => by
    rw [List.drop_of_length_le (by omega)]
    refine Ev.to (sDO_l1 s p hs hp p.length 0 (by omega)) fun k => ?_
    simp only [spec_DeviceOk.l0]; rw [if_neg (by omega)]; rfl
  | d + 1, i, hi => by
    have hlt : i < s.length := by omega
    have ih := sDO_l0 s p hs hp d (i + 1) (by omega)
    rw [List.drop_eq_getElem_cons hlt, List.all_cons]
    by_cases hb : s[i].size ≤ 64
    · rw [decide_eq_true hb, Bool.true_and]
      refine ih.to fun k => ?_
      simp only [spec_DeviceOk.l0]
      rw [if_pos (by omega), if_pos (by omega), rdOf_at _ hlt, if_neg (by omega), wid (by omega) (by omega)]
      rfl
    · rw [decide_eq_false hb, Bool.false_and, Bool.false_and]
      refine (Ev.now _).to fun k => ?_
      simp only [spec_DeviceOk.l0]
      rw [if_pos (by omega), if_pos (by omega), rdOf_at _ hlt, if_pos (by omega)]
theorem sDeviceOk (s : List ByteArray) (p : List S143) (hs : s.length ≤ 1048576) (hp : p.length ≤ 1048576) : Ev (fun k => spec_DeviceOk.f k s p) (devOk s p) := by
  unfold spec_DeviceOk.f devOk
  by_cases h : 1 ≤ (s.length : Int) ∧ (s.length : Int) ≤ 400
  · rw [s_in_t h]
    simp only [Option.bind_some, if_true]
    by_cases h2 : p.length ≤ 400
    · rw [decide_eq_false (show ¬ (p.length : Int) > 400 by omega), decide_eq_true (show 1 ≤ s.length ∧ s.length ≤ 400 ∧ p.length ≤ 400 by omega), Bool.true_and]
      exact (sDO_l0 s p (by omega) hp s.length 0 (by omega)).to fun k => by simp only [spec_DeviceOk.j0]; rw [if_neg (by decide)]; rfl
    · rw [decide_eq_true (show (p.length : Int) > 400 by omega), decide_eq_false (show ¬ (1 ≤ s.length ∧ s.length ≤ 400 ∧ p.length ≤ 400) by omega), Bool.false_and]
      exact (Ev.now _).to fun k => by simp only [spec_DeviceOk.j0, if_true]
  · rw [s_in_f h, decide_eq_false (show ¬ (1 ≤ s.length ∧ s.length ≤ 400 ∧ p.length ≤ 400) by omega), Bool.false_and]
    simp only [Option.bind_some, Bool.false_eq_true, if_false]
    exact (Ev.now _).to fun k => by simp only [spec_DeviceOk.j0, if_true]

theorem sFD_go (s0 : List ByteArray) (p : List S143) (hp : p.length ≤ 1048576) (n : Nat) (hr : ∀ x ∈ p, 0 ≤ x.f0 ∧ x.f0 < (n : Int)) : ∀ (d i : Nat) (z : List ByteArray), i + d = p.length → z.length = n → Ev (fun k => spec_FlushDevice.l0 k (i : Int) s0 p z) (flushL z (p.drop i), [], true)
  | 0, i, z, hi, hz => by
    rw [List.drop_of_length_le (by omega)]
    exact (Ev.now _).to fun k => by simp only [spec_FlushDevice.l0]; rw [if_neg (by omega)]; rfl
  | d + 1, i, z, hi, hz => by
    have hlt : i < p.length := by omega
    have hx := hr _ (List.getElem_mem hlt)
    have w2 : Aside0 (wrap64 ((i : Int) + 1) = ((i + 1 : Nat) : Int)) := ⟨by rw [wid (by omega) (by omega)]; rfl⟩
    rw [List.drop_eq_getElem_cons hlt, flushL_cons]
    refine (sFD_go s0 p hp n hr d (i + 1) _ (by omega) (by rw [List.length_set]; exact hz)).to fun k => ?_
    simp only [spec_FlushDevice.l0]
    rw [if_pos (by omega), if_pos (by omega), ri_Put hlt, if_pos (by omega), if_pos (by omega), w2.out]
theorem sFlushDevice (s : List ByteArray) (p : List S143) (hs : s.length ≤ 1048576) (hp : p.length ≤ 1048576) : Ev (fun k => spec_FlushDevice.f k s p) (pFlush s p) := by
  unfold spec_FlushDevice.f pFlush
  refine (sDeviceOk s p hs hp).bind ?_
  by_cases h : devOk s p = true
  · obtain ⟨h1, h2, h3⟩ := devOk_t h
    rw [if_pos h]
    refine Ev.ifp h ?_
    simp only [Option.bind_some, List.length_nil, List.nil_append]
    exact Ev.ifp (by omega) (sFD_go s p hp s.length (fun x hx => ⟨(h3 x hx).1, (h3 x hx).2.1⟩) p.length 0 s (by omega) rfl)
  · rw [if_neg h]
    exact Ev.ifn h (Ev.now _)

theorem i_in (a b c : Int) : impl_in.f a b c = some (decide (b ≤ a ∧ a ≤ c)) := by
  unfold impl_in.f
  by_cases h : a ≥ b
  · rw [if_pos h]; simp [show b ≤ a from h]
  · rw [if_neg h]; simp [show ¬ b ≤ a from h]
theorem i_in_t {a b c : Int} (h : b ≤ a ∧ a ≤ c) : impl_in.f a b c = some true := by rw [i_in, decide_eq_true h]
theorem i_in_f {a b c : Int} (h : ¬ (b ≤ a ∧ a ≤ c)) : impl_in.f a b c = some false := by rw [i_in, decide_eq_false h]

theorem iDO_l1 (s : List ByteArray) (p : List S143) (hs : s.length ≤ 400) (hp : p.length ≤ 1048576) : ∀ (d i : Nat), i + d = p.length → Ev (fun k => impl_DeviceOk.l1 k p (p.length : Int) (i : Int) s p) ((p.drop i).all fun x => putOk s.length x)
  | 0, i, hi => by
    rw [List.drop_of_length_le (by omega)]
    exact (Ev.now _).to fun k => by simp only [impl_DeviceOk.l1]; rw [if_neg (by omega)]; rfl
  | d + 1, i, hi => by
    have hlt : i < p.length := by omega
    have ih := iDO_l1 s p hs hp d (i + 1) (by omega)
    rw [List.drop_eq_getElem_cons hlt, List.all_cons]
    have w : Aside0 (wrap64 ((s.length : Int) - 1) = (s.length : Int) - 1) := ⟨wid (by omega) (by omega)⟩
    cases hb : putOk s.length p[i] with
    | false =>
      rw [Bool.false_and]
      refine (Ev.now _).to fun k => ?_
      simp only [impl_DeviceOk.l1]
      rw [if_pos (by omega), if_pos (by omega), if_pos (by omega), ri_Put hlt, w.out, i_in]
      simp only [Option.bind_some]
      unfold putOk at hb
      rw [decide_eq_false_iff_not] at hb
      by_cases h : 0 ≤ p[i].f0 ∧ p[i].f0 ≤ (s.length : Int) - 1
      · rw [if_pos (decide_eq_true h), if_pos (by omega)]
      · rw [if_neg (by simpa using h)]
    | true =>
      rw [Bool.true_and]
      refine ih.to fun k => ?_
      simp only [impl_DeviceOk.l1]
      rw [if_pos (by omega), if_pos (by omega), if_pos (by omega), ri_Put hlt, w.out, i_in]
      simp only [Option.bind_some]
      unfold putOk at hb
      rw [decide_eq_true_eq] at hb
      rw [if_pos (decide_eq_true ⟨hb.1, by omega⟩), if_neg (by omega), wid (by omega) (by omega)]
      rfl
theorem iDO_l0 (s : List ByteArray) (p : List S143) (hs : s.length ≤ 400) (hp : p.length ≤ 1048576) : ∀ (d i : Nat), i + d = s.length → Ev (fun k => impl_DeviceOk.l0 k s (s.length : Int) (i : Int) s p) (((s.drop i).all fun x => decide (x.size ≤ 64)) && (p.all fun x => putOk s.length x))
  | 0, i, hi => by
    rw [List.drop_of_length_le (by omega)]
    refine Ev.to (iDO_l1 s p hs hp p.length 0 (by omega)) fun k => ?_
    simp only [impl_DeviceOk.l0]; rw [if_neg (by omega)]; rfl
  | d + 1, i, hi => by
    have hlt : i < s.length := by omega
    have ih := iDO_l0 s p hs hp d (i + 1) (by omega)
    rw [List.drop_eq_getElem_cons hlt, List.all_cons]
    by_cases hb : s[i].size ≤ 64
    · rw [decide_eq_true hb, Bool.true_and]
      refine ih.to fun k => ?_
      simp only [impl_DeviceOk.l0]
      rw [if_pos (by omega), if_pos (by omega), if_pos (by omega), rdOf_at _ hlt, if_neg (by omega), wid (by omega) (by omega)]
      rfl
    · rw [decide_eq_false hb, Bool.false_and, Bool.false_and]
      refine (Ev.now _).to fun k => ?_
      simp only [impl_DeviceOk.l0]
      rw [if_pos (by omega), if_pos (by omega), if_pos (by omega), rdOf_at _ hlt, if_pos (by omega)]
theorem iDeviceOk (s : List ByteArray) (p : List S143) (hs : s.length ≤ 1048576) (hp : p.length ≤ 1048576) : Ev (fun k => impl_DeviceOk.f k s p) (devOk s p) := by
  unfold impl_DeviceOk.f devOk
  by_cases h : 1 ≤ (s.length : Int) ∧ (s.length : Int) ≤ 400
  · rw [i_in_t h]
    simp only [Option.bind_some, if_true]
    by_cases h2 : p.length ≤ 400
    · rw [decide_eq_false (show ¬ (p.length : Int) > 400 by omega), decide_eq_true (show 1 ≤ s.length ∧ s.length ≤ 400 ∧ p.length ≤ 400 by omega), Bool.true_and]
      exact (iDO_l0 s p (by omega) hp s.length 0 (by omega)).to fun k => by simp only [impl_DeviceOk.j0]; rw [if_neg (by decide)]; rfl
    · rw [decide_eq_true (show (p.length : Int) > 400 by omega), decide_eq_false (show ¬ (1 ≤ s.length ∧ s.length ≤ 400 ∧ p.length ≤ 400) by omega), Bool.false_and]
      exact (Ev.now _).to fun k => by simp only [impl_DeviceOk.j0, if_true]
  · rw [i_in_f h, decide_eq_false (show ¬ (1 ≤ s.length ∧ s.length ≤ 400 ∧ p.length ≤ 400) by omega), Bool.false_and]
    simp only [Option.bind_some, Bool.false_eq_true, if_false]
    exact (Ev.now _).to fun k => by simp only [impl_DeviceOk.j0, if_true]

theorem icopyDevice (s : List ByteArray) (p : List S143) (hs : s.length ≤ 10000000) (hp : p.length ≤ 10000000) : impl_copyDevice.f s p = some (s, p) := by
  unfold impl_copyDevice.f
  simp only [List.length_nil, List.nil_append]
  rw [if_pos (by omega), if_pos (by omega)]

theorem iFD_go (p0 p : List S143) (hp : p.length ≤ 1048576) (n : Nat) (hr : ∀ x ∈ p, 0 ≤ x.f0 ∧ x.f0 < (n : Int)) : ∀ (d i : Nat) (z : List ByteArray), i + d = p.length → z.length = n → Ev (fun k => impl_FlushDevice.l0 k p (p.length : Int) (i : Int) z p0) (flushL z (p.drop i), [], true)
  | 0, i, z, hi, hz => by
    rw [List.drop_of_length_le (by omega)]
    exact (Ev.now _).to fun k => by simp only [impl_FlushDevice.l0]; rw [if_neg (by omega)]; rfl
  | d + 1, i, z, hi, hz => by
    have hlt : i < p.length := by omega
    have hx := hr _ (List.getElem_mem hlt)
    have w2 : Aside0 (wrap64 ((i : Int) + 1) = ((i + 1 : Nat) : Int)) := ⟨by rw [wid (by omega) (by omega)]; rfl⟩
    rw [List.drop_eq_getElem_cons hlt, flushL_cons]
    refine (iFD_go p0 p hp n hr d (i + 1) _ (by omega) (by rw [List.length_set]; exact hz)).to fun k => ?_
    simp only [impl_FlushDevice.l0]
    rw [if_pos (by omega), if_pos (by omega), if_pos (by omega), ri_Put hlt, if_pos (by omega), if_pos (by omega), w2.out]
theorem iFlushDevice (s : List ByteArray) (p : List S143) (hs : s.length ≤ 1048576) (hp : p.length ≤ 1048576) : Ev (fun k => impl_FlushDevice.f k s p) (pFlush s p) := by
  unfold impl_FlushDevice.f pFlush
  refine (iDeviceOk s p hs hp).bind ?_
  by_cases h : devOk s p = true
  · obtain ⟨h1, h2, h3⟩ := devOk_t h
    rw [if_pos h, icopyDevice s p (by omega) (by omega)]
    refine Ev.ifp h ?_
    simp only [Option.bind_some]
    exact iFD_go p p hp s.length (fun x hx => ⟨(h3 x hx).1, (h3 x hx).2.1⟩) p.length 0 s (by omega) rfl
  · rw [if_neg h]
    exact Ev.ifn h (Ev.now _)

theorem FnExactFlushDevice : laws_FnExactFlushDevice.Pure := by
  intro s0 p0 hs hp
  refine Ev.rounds (g := fun k => laws_FnExactFlushDevice.f k s0 p0) ?_
  unfold laws_FnExactFlushDevice.f
  obtain ⟨r, hr, hc⟩ := szDevice s0 p0 hs.1 hs.2 hp.1 (fun x hx => (hp.2 x hx).2) 1048576 (by decide) (by decide)
  refine hr.bind ?_
  by_cases h : r < 0
  · exact Ev.ifp h (Ev.now _)
  refine Ev.ifn h ?_
  obtain ⟨_, h1, _, h2, _⟩ := hc.resolve_left h
  have hm : (p0.map cvPut).length ≤ 1048576 := by rw [List.length_map]; exact h2
  have hto := toDevice s0 p0 h1 h2
  have hI := iFlushDevice s0 (p0.map cvPut) h1 hm
  have hS := sFlushDevice s0 (p0.map cvPut) h1 hm
  obtain ⟨s, p, b, e, hls, hlp⟩ := pFlush_len s0 (p0.map cvPut)
  rw [e] at hI hS
  have hE := eqDevice s p (by omega) (by omega)
  have hE0 := eqDevice s0 (p0.map cvPut) (by omega) (by omega)
  have hM := markDevice s p 1 (by omega) (by omega) (by omega) (by omega)
  have hH := heldDevice s p 1 (by omega) (by omega) (by omega) (by omega)
  have hM0 := mark0 s0 (p0.map cvPut) h1 hm
  refine hto.bind (hS.bind (hto.bind (hI.bind (hE.bind (Ev.ifp rfl ?_)))))
  simp only [bne_rfl_bool]
  generalize hP0 : p0.map cvPut = q0 at *
  refine Ev.to (f := fun k => (laws_toDevice.f k s0 p0).bind fun bt261 => (laws_eqDevice.f k s0 q0 bt261.1 bt261.2).bind fun t267 => if t267 = true then (laws_markDevice.f k s0 q0 1).bind fun bt268 => if bt268.1 < 0 then laws_FnExactFlushDevice.j1 k b true s0 p0 s p s p else (laws_eqDevice.f k s p s p).bind fun t271 => if t271 = true then laws_FnExactFlushDevice.j1 k b (b != b) s0 p0 s p s p else laws_FnExactFlushDevice.j1 k b true s0 p0 s p s p else some false) (r := true) ?_ fun k => by simp only [laws_FnExactFlushDevice.j0]; rw [if_neg (by decide)]
  refine hto.bind (hE0.bind (Ev.ifp rfl (hM0.bind (Ev.ifn (by omega) (hE.bind (Ev.ifp rfl ?_))))))
  simp only [bne_rfl_bool]
  refine Ev.to (f := fun k => (laws_markDevice.f k s p 1).bind fun bt272 => (laws_heldDevice.f k bt272.2.1 bt272.2.2 1).bind fun t275 => if t275 < 0 then some false else if t275 = bt272.1 then (laws_toDevice.f k s0 p0).bind fun bt276 => (impl_FlushDevice.f k bt276.1 bt276.2).bind fun bt282 => (laws_eqDevice.f k bt282.1 bt282.2.1 s p).bind fun t290 => if t290 = true then laws_FnExactFlushDevice.j2 k bt272.1 (bt282.2.2 != b) bt272.2.1 bt272.2.2 else laws_FnExactFlushDevice.j2 k bt272.1 true bt272.2.1 bt272.2.2 else some false) (r := true) ?_ fun k => by simp only [laws_FnExactFlushDevice.j1]; rw [if_neg (by decide)]
  refine hM.bind (hH.bind (Ev.ifn (by omega) (Ev.ifp rfl (hto.bind (hI.bind (hE.bind (Ev.ifp rfl ?_)))))))
  simp only [bne_rfl_bool]
  refine Ev.to (f := fun k => (laws_heldDevice.f k (mkS 1 s) (mkPut (1 + s.length) p) 1).bind fun t291 => if t291 < 0 then some false else if t291 = 1 + (s.length : Int) + 2 * p.length then some true else some false) (r := true) ?_ fun k => by simp only [laws_FnExactFlushDevice.j2]; rw [if_neg (by decide)]
  exact hH.bind (Ev.ifn (by omega) (Ev.ifp rfl (Ev.now _)))

end Go.Proofs.Ytbonjmnpcklciaa.Pure
