/- The program's PageText and the reference's PageText return the same text and flag, for every page, and leave it as it was. -/
import Derived.Test.YtcdofljgeiohgaaZFnExactPageTextx7
import Derived.Laws.BitsAllLaws
namespace Go.Proofs.Ytcdofljgeiohgaa.Pure
open Go.RowKit Go.Proofs.Ytcdofljgeiohgaa.QFnExactPageText Go.Proofs.YtcdofljgeiohgaaW.PrintWords Go.Proofs.YtcdofljgeiohgaaW.PrintLast
set_option linter.unusedVariables false
set_option linter.unusedSimpArgs false
set_option maxHeartbeats 4000000

def laws_FnExactPageText.Pure : Prop:=∀ (a0_0 : Int) (l0_1 : List (S120)),((Lit.int .i64 a0_0).wf = true) → (l0_1.length ≤ 9223372036854775807 ∧ ∀ x1 ∈ l0_1,(x1.f0.size ≤ 9223372036854775807) ∧ (x1.f1.size ≤ 9223372036854775807) ∧ ((Lit.int .i64 x1.f2).wf = true)) → ∃ k,laws_FnExactPageText.f k a0_0 l0_1 = some true

theorem wid {n : Int} (h0 : -9223372036854775808 ≤ n) (h1 : n < 9223372036854775808) : wrap64 n = n:=by unfold wrap64;omega
theorem _root_.Go.Proofs.YtcdofljgeiohgaaW.PrintWords.Ev.same {α : Type} {o : Option α} {r : α} (h : o = some r) : Ev (fun _=>o) r:=⟨0,fun _ _=>h⟩
theorem _root_.Go.Proofs.YtcdofljgeiohgaaW.PrintWords.Ev.to {α : Type} {g f : Nat → Option α} {r : α} (k : Ev f r) (h : ∀ k,g (k + 1) = f k) : Ev g r:=Ev.step h k
theorem _root_.Go.Proofs.YtcdofljgeiohgaaW.PrintWords.Ev.ifp {α : Type} {c : Prop} [Decidable c] {g f : Nat → Option α} {r : α} (h : c) (e : Ev g r) : Ev (fun k=>if c then g k else f k) r:=by simp only [if_pos h];exact e
theorem _root_.Go.Proofs.YtcdofljgeiohgaaW.PrintWords.Ev.ifn {α : Type} {c : Prop} [Decidable c] {g f : Nat → Option α} {r : α} (h : ¬ c) (e : Ev f r) : Ev (fun k=>if c then g k else f k) r:=by simp only [if_neg h];exact e
/-- The bytes of a string, as numbers. -/
def bl (s : ByteArray) : List Int:=s.data.toList.map fun b=>(b.toNat : Int)
theorem bl_len (s : ByteArray) : (bl s).length = s.size:=by unfold bl;rw [List.length_map];rfl
def Byt (xs : List Int) : Prop:=∀ x ∈ xs,0 ≤ x ∧ x < 256
theorem Byt.nil : Byt []:=fun _ h=>by simp at h
theorem Byt.cons {x : Int} {xs : List Int} (h : 0 ≤ x ∧ x < 256) (h' : Byt xs) : Byt (x :: xs):=fun y hy=>by
  rcases List.mem_cons.1 hy with rfl|hy
  · exact h
  · exact h' y hy
theorem Byt.head {x : Int} {xs : List Int} (h : Byt (x :: xs)) : 0 ≤ x ∧ x < 256:=h x (List.mem_cons_self ..)
theorem Byt.drop {xs : List Int} (h : Byt xs) (n : Nat) : Byt (xs.drop n):=fun y hy=>h y (List.mem_of_mem_drop hy)
theorem Byt.take {xs : List Int} (h : Byt xs) (n : Nat) : Byt (xs.take n):=fun y hy=>h y (List.mem_of_mem_take hy)
theorem bt_bl (s : ByteArray) (i : Int) : bt s i = (bl s).getD i.toNat 0:=by
  unfold bt
  split
  · rename_i h
    have hl : i.toNat < s.data.toList.length:=h
    simp only [bl,List.getD_eq_getElem?_getD,List.getElem?_map,List.getElem?_eq_getElem hl,Option.map_some,Option.getD_some]
    rfl
  · rename_i h
    rw [List.getD_eq_getElem?_getD,List.getElem?_eq_none (by rw [bl_len];omega)]
    rfl
theorem bl_cons {s : ByteArray} {i : Nat} (h : i < s.size) : (bl s).drop i = bt s (i : Int) :: (bl s).drop (i + 1):=by
  have hl : i < (bl s).length:=by rw [bl_len];exact h
  rw [List.drop_eq_getElem_cons hl,bt_bl,List.getD_eq_getElem?_getD,Int.toNat_natCast,List.getElem?_eq_getElem hl]
  rfl
theorem bl_end {s : ByteArray} {i : Nat} (h : s.size ≤ i) : (bl s).drop i = []:=List.drop_of_length_le (by rw [bl_len];exact h)
theorem tdiv_pos {a b : Int} (h : 0 ≤ a) : Int.tdiv a b = a / b:=Int.tdiv_eq_ediv_of_nonneg h
theorem tmod_pos {a b : Int} (h : 0 ≤ a) : Int.tmod a b = a % b:=Int.tmod_eq_emod_of_nonneg h
theorem bne_rfl_bool (b : Bool) : (b != b) = false:=by cases b <;> rfl
theorem Byt.one {x : Int} (h : 0 ≤ x ∧ x < 256) : Byt [x]:=Byt.nil.cons h
theorem str_len (xs : List Int) : (strOfNums xs).size = xs.length:=strOfNums_size xs

theorem set_take {α : Type} (xs : List α) {i : Nat} (v : α) (h : i < xs.length) : (xs.set i v).take (i + 1) = xs.take i ++ [v]:=by
  rw [List.take_succ_eq_append_getElem (by rw [List.length_set];exact h),List.getElem_set_self,List.take_set_of_le (Nat.le_refl _)]
theorem getD_at {α : Type} {xs : List α} {i : Nat} (z : α) (h : i < xs.length) : xs.getD ((i : Int)).toNat z = xs[i]:=by
  rw [Int.toNat_natCast,List.getD_eq_getElem?_getD,List.getElem?_eq_getElem h];rfl
theorem rl_Item {xs : List S120} {i : Nat} (h : i < xs.length) : rd_T120 xs (i : Int) = xs[i]:=getD_at _ h

def cvItem (x : S120) : S85:=⟨x.f0,x.f1,x.f2⟩
theorem toItemS_go (x0 : List S120) (hl : x0.length ≤ 1048576) : ∀ (d i : Nat) (x3 : List S85),i + d = x0.length → x3.length = x0.length → Ev (fun k=>laws_toItemS.l0 k x0 x3 (i : Int)) (x3.take i ++ (x0.drop i).map cvItem)
  | 0,i,x3,hi,h3=>by
    rw [List.drop_of_length_le (by omega),List.take_of_length_le (by omega),List.map_nil,List.append_nil]
    refine (Ev.now _).to fun k=>?_
    simp only [laws_toItemS.l0]
    rw [if_neg (by omega)]
  | d + 1,i,x3,hi,h3=>by
    have hlt : i < x0.length:=by omega
    have ih:=toItemS_go x0 hl d (i + 1) (x3.set i (cvItem x0[i])) (by omega) (by rw [List.length_set];omega)
    rw [set_take _ _ (by omega),List.append_assoc] at ih
    rw [List.drop_eq_getElem_cons hlt,List.map_cons]
    refine ih.to fun k=>?_
    simp only [laws_toItemS.l0]
    rw [if_pos (by omega),if_pos (by omega),rl_Item hlt]
    simp only [laws_toItem.f,Option.bind_some]
    rw [if_pos (by omega),wid (by omega) (by omega)]
    rfl
theorem toItemS (x0 : List S120) (hl : x0.length ≤ 1048576) : Ev (fun k=>laws_toItemS.f k x0) (x0.map cvItem):=by
  unfold laws_toItemS.f
  refine Ev.ifp (by omega) (Ev.ifp (by rw [Int.toNat_natCast];omega) ?_)
  have:=toItemS_go x0 hl x0.length 0 (List.replicate ((x0.length : Int) : Int).toNat z85) (by omega) (by rw [List.length_replicate,Int.toNat_natCast])
  simpa using this

theorem ri_Item {xs : List S85} {i : Nat} (h : i < xs.length) : rd_T85 xs (i : Int) = xs[i]:=getD_at _ h

theorem eqItem_self (x : S85) : laws_eqItem.f x.f0 x.f1 x.f2 x.f0 x.f1 x.f2 = some true:=by unfold laws_eqItem.f;simp
theorem eqItemS_go (x0 : List S85) (hl : x0.length ≤ 100000000) : ∀ (d i : Nat),i + d = x0.length → Ev (fun k=>laws_eqItemS.l0 k x0 x0 (i : Int)) true
  | 0,i,hi=>(Ev.now _).to fun k=>by simp only [laws_eqItemS.l0];rw [if_neg (by omega)]
  | d + 1,i,hi=>by
    refine (eqItemS_go x0 hl d (i + 1) (by omega)).to fun k=>?_
    simp only [laws_eqItemS.l0]
    rw [if_pos (by omega),if_pos (by omega),if_pos (by omega),eqItem_self]
    simp only [Option.bind_some,if_true]
    rw [wid (by omega) (by omega)]
    rfl
theorem eqItemS (x0 : List S85) (hl : x0.length ≤ 100000000) : Ev (fun k=>laws_eqItemS.f k x0 x0) true:=by
  unfold laws_eqItemS.f
  exact Ev.ifp rfl (eqItemS_go x0 hl x0.length 0 (by omega))

def okItem (x : S120) : Prop:=x.f0.size ≤ 9223372036854775807 ∧ x.f1.size ≤ 9223372036854775807
def smallItem (x : S120) : Prop:=x.f0.size ≤ 1048576 ∧ x.f1.size ≤ 1048576
theorem szItem_ (x : S120) (hx : okItem x) (m : Int) (h0 : 0 ≤ m) (h1 : m ≤ 1048576) : ∃ r,laws_szItem.f x.f0 x.f1 x.f2 m = some r ∧ (r < 0 ∨ (r ≤ m ∧ smallItem x)):=by
  unfold laws_szItem.f
  unfold okItem at hx
  unfold smallItem
  have w1 : wrap64 (m - (x.f0.size : Int)) = m - x.f0.size:=wid (by omega) (by omega)
  rw [w1];clear w1
  by_cases h2 : m - (x.f0.size : Int) < 0
  · rw [if_pos h2];exact ⟨_,rfl,.inl (by omega)⟩
  · rw [if_neg h2]
    have w2 : wrap64 (m - (x.f0.size : Int) - x.f1.size) = m - x.f0.size - x.f1.size:=wid (by omega) (by omega)
    rw [w2];clear w2
    split
    · exact ⟨_,rfl,.inl (by omega)⟩
    · exact ⟨_,rfl,.inr ⟨by omega,by omega,by omega⟩⟩
theorem szItemS_go (x0 : List S120) (hl : x0.length ≤ 1048576) (hx : ∀ x ∈ x0,okItem x) : ∀ (d i : Nat) (m : Int),i + d = x0.length → 0 ≤ m → m ≤ 1048576 → ∃ r,Ev (fun k=>laws_szItemS.l0 k x0 m (i : Int)) r ∧ (r < 0 ∨ (r ≤ m ∧ ∀ x ∈ x0.drop i,smallItem x))
  | 0,i,m,hi,h0,h1=>⟨m,(Ev.now _).to fun k=>by simp only [laws_szItemS.l0];rw [if_neg (by omega)],.inr ⟨by omega,fun x h=>by rw [List.drop_of_length_le (by omega)] at h;simp at h⟩⟩
  | d + 1,i,m,hi,h0,h1=>by
    have hlt : i < x0.length:=by omega
    obtain ⟨r,hr,hc⟩:=szItem_ x0[i] (hx _ (List.getElem_mem hlt)) m h0 h1
    by_cases hn : r < 0
    · refine ⟨-1,(Ev.now _).to fun k=>?_,.inl (by omega)⟩
      simp only [laws_szItemS.l0]
      rw [if_pos (by omega),if_pos (by omega),rl_Item hlt,hr]
      simp only [Option.bind_some]
      rw [if_pos hn]
    · have hc':=hc.resolve_left hn
      obtain ⟨r',hr',hc2⟩:=szItemS_go x0 hl hx d (i + 1) r (by omega) (by omega) (by omega)
      refine ⟨r',hr'.to fun k=>?_,?_⟩
      · simp only [laws_szItemS.l0]
        rw [if_pos (by omega),if_pos (by omega),rl_Item hlt,hr]
        simp only [Option.bind_some]
        rw [if_neg hn,wid (by omega) (by omega)]
        rfl
      · rcases hc2 with hc2|⟨h2,h3⟩
        · exact .inl hc2
        · refine .inr ⟨by omega,fun x hx'=>?_⟩
          rw [List.drop_eq_getElem_cons hlt] at hx'
          rcases List.mem_cons.1 hx' with rfl|hx'
          · exact hc'.2
          · exact h3 x hx'
theorem szItemS (x0 : List S120) (hl : x0.length ≤ 9223372036854775807) (hx : ∀ x ∈ x0,okItem x) (m : Int) (h0 : 0 ≤ m) (h1 : m ≤ 1048576) : ∃ r,Ev (fun k=>laws_szItemS.f k x0 m) r ∧ (r < 0 ∨ (r ≤ m ∧ x0.length ≤ 1048576 ∧ ∀ x ∈ x0,smallItem x)):=by
  unfold laws_szItemS.f
  have w : wrap64 (m - (x0.length : Int)) = m - x0.length:=wid (by omega) (by omega)
  rw [w];clear w
  by_cases hn : m - (x0.length : Int) < 0
  · exact ⟨-1,Ev.ifp hn (Ev.now _),.inl (by omega)⟩
  · obtain ⟨r,hr,hc⟩:=szItemS_go x0 (by omega) hx x0.length 0 (m - x0.length) (by omega) (by omega) (by omega)
    refine ⟨r,Ev.ifn hn hr,?_⟩
    rcases hc with hc|⟨h2,h3⟩
    · exact .inl hc
    · exact .inr ⟨by omega,by omega,fun x hx'=>h3 x (by simpa using hx')⟩

/-! Numbers in bytes -/
def varB (n : Nat) : List Int:=if h : n > 127 then (((n % 128 + 128 : Nat) : Int)) :: varB (n / 128) else [(n : Int)]
termination_by n
decreasing_by omega
theorem varB_big {n : Nat} (h : n > 127) : varB n = (((n % 128 + 128 : Nat) : Int)) :: varB (n / 128):=by rw [varB,dif_pos h]
theorem varB_small {n : Nat} (h : ¬ n > 127) : varB n = [(n : Int)]:=by rw [varB,dif_neg h]
theorem varB_pos (n : Nat) : 1 ≤ (varB n).length:=by
  by_cases h : n > 127
  · rw [varB_big h];simp
  · rw [varB_small h];simp
theorem varB_len (n : Nat) : (varB n).length ≤ n + 1:=by
  induction n using Nat.strongRecOn with
  | _ n ih =>
    by_cases h : n > 127
    · rw [varB_big h];have:=ih (n / 128) (by omega);simp only [List.length_cons];omega
    · rw [varB_small h];simp
theorem varB_len1 {n : Nat} (h : n < 128) : (varB n).length = 1:=by rw [varB_small (by omega)];rfl
theorem varB_len2 {n : Nat} (h : n < 16384) : (varB n).length ≤ 2:=by
  by_cases h1 : n > 127
  · rw [varB_big h1,List.length_cons,varB_len1 (by omega)];omega
  · rw [varB_small h1];simp
theorem varB_len5 {n : Nat} (h : n ≤ 1000000000) : (varB n).length ≤ 5:=by
  by_cases h1 : n > 127
  · rw [varB_big h1,List.length_cons]
    by_cases h2 : n / 128 > 127
    · rw [varB_big h2,List.length_cons]
      by_cases h3 : n / 128 / 128 > 127
      · rw [varB_big h3,List.length_cons]
        have:=varB_len2 (n:=n / 128 / 128 / 128) (by omega)
        omega
      · rw [varB_small h3];simp
    · rw [varB_small h2];simp
  · rw [varB_small h1];simp
theorem i_in (a b c : Int) : impl_in.f a b c = some (decide (b ≤ a ∧ a ≤ c)):=by
  unfold impl_in.f
  by_cases h : a ≥ b
  · rw [if_pos h];simp [show b ≤ a from h]
  · rw [if_neg h];simp [show ¬ b ≤ a from h]
theorem i_in_t {a b c : Int} (h : b ≤ a ∧ a ≤ c) : impl_in.f a b c = some true:=by rw [i_in,decide_eq_true h]
theorem i_in_f {a b c : Int} (h : ¬ (b ≤ a ∧ a ≤ c)) : impl_in.f a b c = some false:=by rw [i_in,decide_eq_false h]

theorem iVarText_go (n : Nat) : ∀ acc : List Int,acc.length + n ≤ 100000000000 → Ev (fun k=>impl_VarText.l0 k (n : Int) acc) (strOfNums (acc ++ varB n),true):=by
  induction n using Nat.strongRecOn with
  | _ n ih =>
    intro acc hacc
    by_cases h : n > 127
    · have:=ih (n / 128) (by omega) (acc ++ [((n % 128 + 128 : Nat) : Int)]) (by simp;omega)
      rw [varB_big h]
      rw [List.append_assoc,List.singleton_append] at this
      refine this.to fun k=>?_
      simp only [impl_VarText.l0]
      rw [if_pos (by omega),if_pos (by omega),tdiv_pos (by omega),tmod_pos (by omega),wid (by omega) (by omega),wid (by omega) (by omega)]
      congr 3
      omega
    · rw [varB_small h]
      refine (Ev.now _).to fun k=>?_
      simp only [impl_VarText.l0]
      rw [if_neg (by omega),if_pos (by omega),show (n : Int) % 256 = n by omega]
def pVarText (n : Int) : ByteArray × Bool:=if 0 ≤ n ∧ n ≤ 1000000000 then (strOfNums (varB n.toNat),true) else (⟨#[]⟩,false)
theorem iVarText (n : Int) : Ev (fun k=>impl_VarText.f k n) (pVarText n):=by
  unfold impl_VarText.f pVarText
  by_cases h : 0 ≤ n ∧ n ≤ 1000000000
  · rw [i_in_t h,if_pos h]
    simp only [Option.bind_some,if_true]
    have:=iVarText_go n.toNat [] (by simp;omega)
    rw [Int.toNat_of_nonneg h.1] at this
    exact this
  · rw [i_in_f h,if_neg h]
    simp only [Option.bind_some,Bool.false_eq_true,if_false]
    exact Ev.now _

def pShort (s : ByteArray) : ByteArray × Bool:=if s.size > 8000 then (⟨#[]⟩,false) else (strOfNums (varB s.size) ++ s,true)

theorem iShortText (s : ByteArray) (hs : s.size ≤ 140737488351232) : Ev (fun k=>impl_ShortText.f k s) (pShort s):=by
  unfold impl_ShortText.f pShort
  by_cases h : s.size > 8000
  · rw [if_pos h]
    simp only [if_pos (show (s.size : Int) > 8000 by omega)]
    exact Ev.now _
  · rw [if_neg h]
    simp only [if_neg (show ¬ (s.size : Int) > 8000 by omega)]
    have hl:=varB_len s.size
    refine (iVarText s.size).bind ?_
    have e : pVarText (s.size : Int) = (strOfNums (varB s.size),true):=by unfold pVarText;rw [if_pos (by omega),Int.toNat_natCast]
    rw [e]
    exact Ev.same (if_pos (by rw [str_len];omega))

theorem l01Var_go (n : Nat) : ∀ acc : List Int,acc.length + n ≤ 100000000000 → Ev (fun k=>spec_l01Var.l0 k (n : Int) acc) (strOfNums (acc ++ varB n)):=by
  induction n using Nat.strongRecOn with
  | _ n ih =>
    intro acc hacc
    by_cases h : n > 127
    · have:=ih (n / 128) (by omega) (acc ++ [((n % 128 + 128 : Nat) : Int)]) (by simp;omega)
      rw [varB_big h]
      rw [List.append_assoc,List.singleton_append] at this
      refine this.to fun k=>?_
      simp only [spec_l01Var.l0]
      rw [if_pos (by omega),if_pos (by omega),tdiv_pos (by omega),tmod_pos (by omega),wid (by omega) (by omega),wid (by omega) (by omega)]
      congr 3
      omega
    · rw [varB_small h]
      refine (Ev.now _).to fun k=>?_
      simp only [spec_l01Var.l0]
      rw [if_neg (by omega),if_pos (by omega),show (n : Int) % 256 = n by omega]
theorem l01Var_ev (n : Nat) (h : n ≤ 10000000000) : Ev (fun k=>spec_l01Var.f k (n : Int)) (strOfNums (varB n)):=l01Var_go n [] (by simp;omega)

theorem s_in (a b c : Int) : spec_l01In.f a b c = some (decide (b ≤ a ∧ a ≤ c)):=by
  unfold spec_l01In.f
  by_cases h : a ≥ b
  · rw [if_pos h];simp [show b ≤ a from h]
  · rw [if_neg h];simp [show ¬ b ≤ a from h]
theorem s_in_t {a b c : Int} (h : b ≤ a ∧ a ≤ c) : spec_l01In.f a b c = some true:=by rw [s_in,decide_eq_true h]
theorem s_in_f {a b c : Int} (h : ¬ (b ≤ a ∧ a ≤ c)) : spec_l01In.f a b c = some false:=by rw [s_in,decide_eq_false h]

theorem sVarText (n : Int) : Ev (fun k=>spec_VarText.f k n) (pVarText n):=by
  unfold spec_VarText.f pVarText
  by_cases h : 0 ≤ n ∧ n ≤ 1000000000
  · rw [s_in_t h,if_pos h]
    simp only [Option.bind_some,if_true]
    have:=l01Var_ev n.toNat (by omega)
    rw [Int.toNat_of_nonneg h.1] at this
    exact this.bind (Ev.now _)
  · rw [s_in_f h,if_neg h]
    simp only [Option.bind_some,Bool.false_eq_true,if_false]
    exact Ev.now _

def szI (kind : Int) (x : S85) : Int:=if kind = 1 then ((pShort x.f0).1.size : Int) + (pShort x.f1).1.size else if kind = 2 then ((pShort x.f0).1.size : Int) + (pVarText x.f2).1.size else 0
theorem pShort_size (s : ByteArray) : (pShort s).1.size ≤ 9000:=by
  unfold pShort
  split
  · exact Nat.zero_le _
  · rw [ByteArray.size_append,str_len]
    have:=varB_len5 (n:=s.size) (by omega)
    omega
theorem pVar_size (n : Int) : (pVarText n).1.size ≤ 5:=by
  unfold pVarText
  split
  · rename_i h
    rw [str_len]
    exact varB_len5 (by omega)
  · exact Nat.zero_le _
theorem szI_bd (kind : Int) (x : S85) : 0 ≤ szI kind x ∧ szI kind x ≤ 18000:=by
  have h0:=pShort_size x.f0
  have h1:=pShort_size x.f1
  have h2:=pVar_size x.f2
  unfold szI
  split
  · omega
  · split <;> omega
theorem iItemSize (kind : Int) (x : S85) (h0 : x.f0.size ≤ 140737488351232) (h1 : x.f1.size ≤ 140737488351232) : Ev (fun k=>impl_ItemSize.f k kind x.f0 x.f1 x.f2) (szI kind x):=by
  unfold impl_ItemSize.f szI
  have b0:=pShort_size x.f0
  have b1:=pShort_size x.f1
  have b2:=pVar_size x.f2
  refine (iShortText x.f0 h0).bind ?_
  by_cases c1 : kind = 1
  · rw [if_pos c1]
    refine Ev.ifp c1 ((iShortText x.f1 h1).bind (Ev.same ?_))
    rw [wid (by omega) (by omega)]
  · rw [if_neg c1]
    refine Ev.ifn c1 ?_
    by_cases c2 : kind = 2
    · rw [if_pos c2]
      refine Ev.ifp c2 ((iVarText x.f2).bind (Ev.same ?_))
      rw [wid (by omega) (by omega)]
    · rw [if_neg c2]
      exact Ev.ifn c2 (Ev.now _)
/-! Sums -/
def U32 (s : Int) : Prop:=0 ≤ s ∧ s < 4294967296
theorem xor_u32 {a b : Int} (h : U32 a) (h' : U32 b) : U32 (Go.bits .xor .u32 a b):=by
  rw [Go.u32_xor a b h.1 h.2 h'.1 h'.2]
  have : a.toNat ^^^ b.toNat < 2 ^ 32:=Nat.xor_lt_two_pow (by have:=h.2;have:=h.1;omega) (by have:=h'.2;have:=h'.1;omega)
  exact ⟨by omega,by omega⟩
theorem and1_u32 {a : Int} (h : U32 a) : Go.bits .and .u32 a 1 = a % 2:=by
  rw [Go.u32_and a 1 h.1 h.2 (by decide) (by decide)]
  have : (1 : Int).toNat = 1:=rfl
  rw [this,Nat.and_one_is_mod]
  have:=h.1
  omega
def crcBit (s : Int) : Int:=if s % 2 = 1 then Go.bits .xor .u32 (s / 2) 3558460437 else s / 2
def crcN : Nat → Int → Int
  | 0,s=>s
  | n + 1,s=>crcN n (crcBit s)
def crcByte (s b : Int) : Int:=crcN 8 (Go.bits .xor .u32 s b)
def crcL (s : Int) (l : List Int) : Int:=l.foldl crcByte s
theorem crcBit_u32 {s : Int} (h : U32 s) : U32 (crcBit s):=by
  unfold crcBit
  have : U32 (s / 2):=⟨by have:=h.1;omega,by have:=h.2;omega⟩
  split
  · exact xor_u32 this ⟨by decide,by decide⟩
  · exact this
theorem crcN_u32 : ∀ (n : Nat) {s : Int},U32 s → U32 (crcN n s)
  | 0,_,h=>h
  | n + 1,_,h=>crcN_u32 n (crcBit_u32 h)
theorem crcByte_u32 {s b : Int} (h : U32 s) (hb : 0 ≤ b ∧ b < 256) : U32 (crcByte s b):=crcN_u32 8 (xor_u32 h ⟨hb.1,by omega⟩)
theorem crcL_cons (s b : Int) (l : List Int) : crcL s (b :: l) = crcL (crcByte s b) l:=by unfold crcL;rw [List.foldl_cons]
theorem u32_top : U32 4294967295:=⟨by decide,by decide⟩
def sumB (s : ByteArray) : Int:=crcL 4294967295 (bl s)
def four (n : Int) : List Int:=[(n / 16777216) % 256,(n / 65536) % 256,(n / 256) % 256,n % 256]
def pSealed (s : ByteArray) : ByteArray × Bool:=if s.size > 8000 then (⟨#[]⟩,false) else (s ++ strOfNums (four (sumB s)),true)

theorem impl_sm_l1 (s : ByteArray) (z i : Int) {r : Int} : ∀ (n : Nat) (x : Int),n ≤ 8 → U32 x → Ev (fun k=>impl_SumMore.l0 k (crcN n x) s z (wrap64 (i + 1))) r → Ev (fun k=>impl_SumMore.l1 k x s z i (8 - (n : Int))) r
  | 0,x,_,_,h=>h.to fun k=>by simp only [impl_SumMore.l1];rw [if_neg (by omega)];rfl
  | n + 1,x,hn,hx,h=>by
    have h1:=hx.1
    have h2:=hx.2
    refine (impl_sm_l1 s z i n (crcBit x) (by omega) (crcBit_u32 hx) h).to fun k=>?_
    simp only [impl_SumMore.l1]
    rw [if_pos (by omega),and1_u32 hx,wid (by omega) (by omega),show (8 - ((n + 1 : Nat) : Int) + 1) = 8 - (n : Int) by omega]
    unfold crcBit
    by_cases hb : x % 2 = 1
    · rw [if_pos hb,if_pos hb]
    · rw [if_neg hb,if_neg hb]
theorem impl_sm_l0 (s : ByteArray) (hs : s.size ≤ 140737488351232) : ∀ (d i : Nat) (x : Int),i + d = s.size → U32 x → Ev (fun k=>impl_SumMore.l0 k x s (s.size : Int) (i : Int)) (crcL x ((bl s).drop i))
  | 0,i,x,hi,_=>by
    refine (Ev.now _).to fun k=>?_
    simp only [impl_SumMore.l0]
    rw [if_neg (by omega),bl_end (by omega)]
    rfl
  | d + 1,i,x,hi,hx=>by
    have hb:=bt_range s (i : Int)
    rw [bl_cons (by omega),crcL_cons]
    have hx' : U32 (Go.bits .xor .u32 x (bt s i)):=xor_u32 hx ⟨hb.1,by omega⟩
    have:=impl_sm_l0 s hs d (i + 1) (crcByte x (bt s i)) (by omega) (crcByte_u32 hx ⟨hb.1,by omega⟩)
    refine (impl_sm_l1 s _ i 8 _ (Nat.le_refl _) hx' (by rw [wid (by omega) (by omega)];exact this)).to fun k=>?_
    simp only [impl_SumMore.l0]
    rw [if_pos (by omega),if_pos (by omega),if_pos (by omega),show bt s (i : Int) % 4294967296 = bt s i by omega]
    rfl
theorem impl_sm (x : Int) (s : ByteArray) (hs : s.size ≤ 140737488351232) (hx : U32 x) : Ev (fun k=>impl_SumMore.f k x s) (crcL x (bl s)):=impl_sm_l0 s hs s.size 0 x (by omega) hx

theorem iSumOf (s : ByteArray) (hs : s.size ≤ 140737488351232) : Ev (fun k=>impl_SumOf.f k s) (sumB s):=by
  unfold impl_SumOf.f
  exact (impl_sm _ s hs u32_top).bind (Ev.now _)

theorem iSealed (s : ByteArray) (hs : s.size ≤ 140737488351232) : Ev (fun k=>impl_Sealed.f k s) (pSealed s):=by
  unfold impl_Sealed.f pSealed
  by_cases h : s.size > 8000
  · rw [if_pos h]
    simp only [if_pos (show (s.size : Int) > 8000 by omega)]
    exact Ev.now _
  · rw [if_neg h]
    simp only [if_neg (show ¬ (s.size : Int) > 8000 by omega)]
    refine (iSumOf s hs).bind ?_
    simp only [Option.bind_some]
    exact Ev.same (if_pos (by rw [str_len];show s.size + 4 ≤ _;omega))

theorem spec_sm_l1 (s : ByteArray) (i : Int) {r : Int} : ∀ (n : Nat) (x : Int),n ≤ 8 → U32 x → Ev (fun k=>spec_SumMore.l0 k (crcN n x) s (wrap64 (i + 1))) r → Ev (fun k=>spec_SumMore.l1 k x s i (8 - (n : Int))) r
  | 0,x,_,_,h=>h.to fun k=>by simp only [spec_SumMore.l1];rw [if_neg (by omega)];rfl
  | n + 1,x,hn,hx,h=>by
    have h1:=hx.1
    have h2:=hx.2
    refine (spec_sm_l1 s i n (crcBit x) (by omega) (crcBit_u32 hx) h).to fun k=>?_
    simp only [spec_SumMore.l1]
    rw [if_pos (by omega),tmod_pos h1,tdiv_pos h1,wid (by omega) (by omega),show (x / 2) % 4294967296 = x / 2 by omega,show (8 - ((n + 1 : Nat) : Int) + 1) = 8 - (n : Int) by omega]
    unfold crcBit
    by_cases hb : x % 2 = 1
    · rw [if_pos hb,if_pos hb]
    · rw [if_neg hb,if_neg hb]
theorem spec_sm_l0 (s : ByteArray) (hs : s.size ≤ 140737488351232) : ∀ (d i : Nat) (x : Int),i + d = s.size → U32 x → Ev (fun k=>spec_SumMore.l0 k x s (i : Int)) (crcL x ((bl s).drop i))
  | 0,i,x,hi,_=>by
    refine (Ev.now _).to fun k=>?_
    simp only [spec_SumMore.l0]
    rw [if_neg (by omega),bl_end (by omega)]
    rfl
  | d + 1,i,x,hi,hx=>by
    have hb:=bt_range s (i : Int)
    rw [bl_cons (by omega),crcL_cons]
    have hx' : U32 (Go.bits .xor .u32 x (bt s i)):=xor_u32 hx ⟨hb.1,by omega⟩
    have:=spec_sm_l0 s hs d (i + 1) (crcByte x (bt s i)) (by omega) (crcByte_u32 hx ⟨hb.1,by omega⟩)
    refine (spec_sm_l1 s i 8 _ (Nat.le_refl _) hx' (by rw [wid (by omega) (by omega)];exact this)).to fun k=>?_
    simp only [spec_SumMore.l0]
    rw [if_pos (by omega),if_pos (by omega),show bt s (i : Int) % 4294967296 = bt s i by omega]
    rfl
theorem spec_sm (x : Int) (s : ByteArray) (hs : s.size ≤ 140737488351232) (hx : U32 x) : Ev (fun k=>spec_SumMore.f k x s) (crcL x (bl s)):=spec_sm_l0 s hs s.size 0 x (by omega) hx

theorem sSumOf (s : ByteArray) (hs : s.size ≤ 140737488351232) : Ev (fun k=>spec_SumOf.f k s) (sumB s):=by
  unfold spec_SumOf.f
  exact (spec_sm _ s hs u32_top).bind (Ev.now _)

theorem sSealed (s : ByteArray) (hs : s.size ≤ 140737488351232) : Ev (fun k=>spec_Sealed.f k s) (pSealed s):=by
  unfold spec_Sealed.f pSealed
  by_cases h : s.size > 8000
  · rw [if_pos h]
    simp only [if_pos (show (s.size : Int) > 8000 by omega)]
    exact Ev.now _
  · rw [if_neg h]
    simp only [if_neg (show ¬ (s.size : Int) > 8000 by omega)]
    refine (sSumOf s hs).bind ?_
    simp only [spec_l02Four.f,Option.bind_some]
    exact Ev.same (if_pos (by rw [str_len];show s.size + 4 ≤ _;omega))

/-! A page's text -/
def shT (s : ByteArray) : ByteArray:=strOfNums (varB s.size) ++ s
def itG (kind : Int) (prev : Option ByteArray) (x : S85) : Bool :=
  decide (¬ x.f0.toList = []) && ((match prev with|none=>true|some p=>Op.bytesLess p.toList x.f0.toList) && (if kind = 1 then decide (x.f2 = 0) else decide (x.f1.toList = [] ∧ 0 ≤ x.f2 ∧ x.f2 ≤ 399)))
def txI (kind : Int) (x : S85) : ByteArray:=shT x.f0 ++ (if kind = 1 then shT x.f1 else strOfNums (varB x.f2.toNat))
def szT (kind : Int) (x : S85) : Int:=((shT x.f0).size : Int) + (if kind = 1 then ((shT x.f1).size : Int) else (pVarText x.f2).1.size)
def sumT (kind : Int) (l : List S85) : Int:=(l.map (szT kind)).sum
def noText : ByteArray × Bool:=(⟨#[]⟩,false)
def spL (kind : Int) : Option ByteArray → ByteArray → List S85 → ByteArray × Bool
  | _,acc,[]=>pSealed acc
  | prev,acc,x :: l=>if itG kind prev x = true then spL kind (some x.f0) (acc ++ txI kind x) l else noText
def imL (kind : Int) : Option ByteArray → ByteArray → Int → List S85 → ByteArray × Bool
  | _,acc,z,[]=>if z > 54 then noText else pSealed acc
  | prev,acc,z,x :: l=>if itG kind prev x = true ∧ x.f0.size ≤ 54 ∧ x.f1.size ≤ 54 then imL kind (some x.f0) (acc ++ txI kind x) (z + szT kind x) l else noText
theorem varB_lenB {n : Nat} (h : n ≤ 1048576) : (varB n).length ≤ 5:=varB_len5 (by omega)
theorem shT_size (s : ByteArray) : (shT s).size = (varB s.size).length + s.size:=by unfold shT;rw [ByteArray.size_append,str_len]
theorem shT_lo (s : ByteArray) : s.size + 1 ≤ (shT s).size:=by rw [shT_size];have:=varB_pos s.size;omega
theorem shT_hi {s : ByteArray} (h : s.size ≤ 1048576) : (shT s).size ≤ 1048581:=by rw [shT_size];have:=varB_lenB h;omega
theorem szT_lo (kind : Int) (x : S85) : (x.f0.size : Int) + 1 ≤ szT kind x:=by
  have:=shT_lo x.f0
  unfold szT
  split <;> omega
theorem szT_lo1 (x : S85) : (x.f1.size : Int) + 1 ≤ szT 1 x:=by
  have:=shT_lo x.f1
  unfold szT
  rw [if_pos rfl]
  omega
theorem szT_hi (kind : Int) (x : S85) (h0 : x.f0.size ≤ 1048576) (h1 : x.f1.size ≤ 1048576) : szT kind x ≤ 2097162:=by
  have a:=shT_hi h0
  have b:=shT_hi h1
  have c:=pVar_size x.f2
  unfold szT
  split <;> omega
theorem sumT_cons (kind : Int) (x : S85) (l : List S85) : sumT kind (x :: l) = szT kind x + sumT kind l:=by unfold sumT;simp
theorem sumT_lo (kind : Int) : ∀ l : List S85,(l.length : Int) ≤ sumT kind l
  | []=>by simp [sumT]
  | x :: l=>by
    have ih:=sumT_lo kind l
    have:=szT_lo kind x
    rw [sumT_cons,List.length_cons]
    omega
theorem tl_nil {s : ByteArray} (h : s.toList = []) : s.size = 0:=by
  rw [ByteArray.toList_eq] at h
  have : s.data.toList.length = 0:=by rw [h];rfl
  exact this
theorem itG_inner {kind : Int} {prev : Option ByteArray} {x : S85} (h : itG kind prev x = true) (hk : ¬ kind = 1) : x.f1.toList = [] ∧ 0 ≤ x.f2 ∧ x.f2 ≤ 399:=by
  unfold itG at h
  rw [if_neg hk] at h
  simp only [Bool.and_eq_true,decide_eq_true_eq] at h
  exact h.2.2
/-- Both ways to count come to the same. -/
theorem imL_eq (kind : Int) : ∀ (l : List S85) (prev : Option ByteArray) (acc : ByteArray) (z : Int),0 ≤ z → imL kind prev acc z l = if z + sumT kind l > 54 then noText else spL kind prev acc l
  | [],prev,acc,z,hz=>by unfold imL spL sumT;simp
  | x :: l,prev,acc,z,hz=>by
    have lo:=szT_lo kind x
    have hs:=sumT_lo kind l
    rw [imL,spL,sumT_cons]
    by_cases h : itG kind prev x = true ∧ x.f0.size ≤ 54 ∧ x.f1.size ≤ 54
    · rw [if_pos h,if_pos h.1,imL_eq kind l (some x.f0) (acc ++ txI kind x) (z + szT kind x) (by omega),Int.add_assoc]
    · rw [if_neg h]
      by_cases c : z + (szT kind x + sumT kind l) > 54
      · rw [if_pos c]
      · rw [if_neg c,if_neg]
        intro g
        apply h
        refine ⟨g,by omega,?_⟩
        by_cases hk : kind = 1
        · subst hk
          have:=szT_lo1 x
          omega
        · rw [tl_nil (itG_inner g hk).1]
          omega
def headP (kind : Int) (n : Nat) : ByteArray:=strOfNums [kind % 256] ++ strOfNums (varB n)
def pPage (kind : Int) (l : List S85) : ByteArray × Bool:=if (kind = 1 ∨ kind = 2) ∧ l ≠ [] ∧ ¬ sumT kind l > 54 then spL kind none (headP kind l.length) l else noText
def OkIt (x : S85) : Prop:=x.f0.size ≤ 1048576 ∧ x.f1.size ≤ 1048576
def prevAt (l : List S85) (i : Nat) : Option ByteArray:=if i = 0 then none else (l[i - 1]?).map fun x=>x.f0
theorem prevAt_succ {l : List S85} {i : Nat} (h : i < l.length) : prevAt l (i + 1) = some l[i].f0:=by
  unfold prevAt
  rw [if_neg (by omega),Nat.add_sub_cancel,List.getElem?_eq_getElem h]
  rfl
theorem txI_size (kind : Int) (x : S85) (h : OkIt x) (hk : kind = 1 ∨ 0 ≤ x.f2 ∧ x.f2 ≤ 399) : (txI kind x).size ≤ 2097162:=by
  have a:=shT_hi h.1
  have b:=shT_hi h.2
  unfold txI
  rw [ByteArray.size_append]
  split
  · omega
  · rename_i hn
    rw [str_len]
    have:=varB_lenB (n:=x.f2.toNat) (by omega)
    omega
theorem headP_size (kind : Int) {n : Nat} (h : n ≤ 1048576) : (headP kind n).size ≤ 6:=by
  unfold headP
  rw [ByteArray.size_append,str_len,str_len]
  have:=varB_lenB h
  simp only [List.length_singleton]
  omega

theorem sShT (s : ByteArray) (h : s.size ≤ 1048576) : Ev (fun k=>spec_l04Short.f k s) (shT s):=by
  unfold spec_l04Short.f
  refine (l01Var_ev s.size (by omega)).bind ?_
  have hl:=varB_lenB (n:=s.size) (by omega)
  exact Ev.ifp (by rw [str_len];omega) (Ev.same rfl)
theorem sItemSizeT (kind : Int) (x : S85) (hk : kind = 1 ∨ kind = 2) (h : OkIt x) : Ev (fun k=>spec_ItemSize.f k kind x.f0 x.f1 x.f2) (szT kind x):=by
  have b0:=shT_hi h.1
  have b1:=shT_hi h.2
  have b2:=pVar_size x.f2
  unfold spec_ItemSize.f szT
  rcases hk with rfl|rfl
  · refine Ev.ifp rfl ((sShT x.f0 h.1).bind ((sShT x.f1 h.2).bind (Ev.same ?_)))
    rw [wid (by omega) (by omega),if_pos rfl]
  · refine Ev.ifn (by decide) (Ev.ifp rfl ((sVarText x.f2).bind ?_))
    rw [if_neg (by decide)]
    by_cases hv : 0 ≤ x.f2 ∧ x.f2 ≤ 1000000000
    · have e : pVarText x.f2 = (strOfNums (varB x.f2.toNat),true):=by unfold pVarText;rw [if_pos hv]
      rw [e] at b2 ⊢
      refine Ev.ifp rfl ((sShT x.f0 h.1).bind (Ev.same ?_))
      simp only at b2 ⊢
      rw [wid (by omega) (by omega)]
    · have e : pVarText x.f2 = (⟨#[]⟩,false):=by unfold pVarText;rw [if_neg hv]
      rw [e]
      refine Ev.ifn (by decide) ((sShT x.f0 h.1).bind (Ev.same ?_))
      have : (⟨#[]⟩ : ByteArray).size = 0:=rfl
      simp only [this]
      simp
theorem sSumT_go (kind : Int) (hk : kind = 1 ∨ kind = 2) (L : List S85) (hL : L.length ≤ 1048576) (hO : ∀ x ∈ L,OkIt x) : ∀ (d i : Nat) (z : Int),i + d = L.length → 0 ≤ z → z ≤ 2097162 * i → Ev (fun k=>spec_l04Sum.l0 k kind L z (i : Int)) (z + sumT kind (L.drop i))
  | 0,i,z,hi,h0,h1=>by
    rw [List.drop_of_length_le (by omega)]
    exact (Ev.now _).to fun k=>by simp only [spec_l04Sum.l0];rw [if_neg (by omega)];simp [sumT]
  | d + 1,i,z,hi,h0,h1=>by
    have hlt : i < L.length:=by omega
    have hx:=hO L[i] (List.getElem_mem hlt)
    have lo:=szT_lo kind L[i]
    have hi':=szT_hi kind L[i] hx.1 hx.2
    have ih:=sSumT_go kind hk L hL hO d (i + 1) (z + szT kind L[i]) (by omega) (by omega) (by omega)
    have w : qn (wrap64 ((i : Int) + 1) = ((i + 1 : Nat) : Int)):=⟨by rw [wid (by omega) (by omega)];rfl⟩
    have wz : qn (wrap64 (z + szT kind L[i]) = z + szT kind L[i]):=⟨wid (by omega) (by omega)⟩
    rw [List.drop_eq_getElem_cons hlt,sumT_cons,← Int.add_assoc]
    refine Ev.to (f:=fun k=>(spec_ItemSize.f k kind L[i].f0 L[i].f1 L[i].f2).bind fun t=>spec_l04Sum.l0 k kind L (wrap64 (z + t)) ((i + 1 : Nat) : Int)) ((sItemSizeT kind L[i] hk hx).bind ?_) fun k=>?_
    · rw [wz.out];exact ih
    · simp only [spec_l04Sum.l0]
      rw [if_pos (by omega),if_pos (by omega),ri_Item hlt,w.out]
theorem sSumT (kind : Int) (hk : kind = 1 ∨ kind = 2) (L : List S85) (hL : L.length ≤ 1048576) (hO : ∀ x ∈ L,OkIt x) : Ev (fun k=>spec_l04Sum.f k kind L) (sumT kind L):=by
  unfold spec_l04Sum.f
  have:=sSumT_go kind hk L hL hO L.length 0 0 (by omega) (by omega) (by omega)
  rw [List.drop_zero,Int.zero_add] at this
  exact this
theorem sPage_t (kind : Int) (L : List S85) (acc : ByteArray) (i : Int) (a b : ByteArray) (c : Int) : Ev (fun k=>spec_PageText.j2 k acc i true kind L a b c) noText:=(Ev.now _).to fun k=>by simp only [spec_PageText.j2,if_true];rfl
theorem sPage_l1 (L : List S85) (hL : L.length ≤ 1048576) (acc : ByteArray) (i : Nat) (hlt : i < L.length) (k : Nat) : spec_PageText.l0 (k + 1) acc (i : Int) 1 L = spec_PageText.j2 k acc (i : Int) (!itG 1 (prevAt L i) L[i]) 1 L L[i].f0 L[i].f1 L[i].f2:=by
  simp only [spec_PageText.l0]
  rw [if_pos (by omega),if_pos (by omega),ri_Item hlt]
  by_cases e : L[i].f0.toList = []
  · rw [if_pos e,show itG 1 (prevAt L i) L[i] = false from by unfold itG;simp [e]];rfl
  · rw [if_neg e]
    by_cases hi : i = 0
    · rw [if_neg (by omega)]
      have hp : prevAt L i = none:=by unfold prevAt;rw [if_pos hi]
      rw [if_pos trivial]
      by_cases g : L[i].f2 = 0
      · rw [if_pos g,if_neg (by decide),show itG 1 (prevAt L i) L[i] = true from by unfold itG;rw [hp];simp [e,g]];rfl
      · rw [if_neg g,show itG 1 (prevAt L i) L[i] = false from by unfold itG;rw [hp];simp [g]];rfl
    · have hj : i - 1 < L.length:=by omega
      have w : wrap64 ((i : Int) - 1) = ((i - 1 : Nat) : Int):=by rw [wid (by omega) (by omega)];omega
      have hp : prevAt L i = some L[i - 1].f0:=by unfold prevAt;rw [if_neg hi,List.getElem?_eq_getElem hj];rfl
      rw [if_pos (by omega),w];clear w
      rw [if_pos (by omega),if_pos (by omega),ri_Item hj]
      by_cases b : Op.bytesLess L[i - 1].f0.toList L[i].f0.toList = true
      · rw [if_pos b,if_pos trivial]
        by_cases g : L[i].f2 = 0
        · rw [if_pos g,if_neg (by decide),show itG 1 (prevAt L i) L[i] = true from by unfold itG;rw [hp];simp [e,g,b]];rfl
        · rw [if_neg g,show itG 1 (prevAt L i) L[i] = false from by unfold itG;rw [hp];simp [g]];rfl
      · rw [if_neg b,show itG 1 (prevAt L i) L[i] = false from by unfold itG;rw [hp];simp [b]];rfl
theorem sPage_in (L : List S85) (acc : ByteArray) (i : Int) (x : S85) (k : Nat) : (if x.f1.toList = ([] : List UInt8) then ((spec_l01In.f x.f2 0 399).bind fun t=>(spec_PageText.j2 k acc i (!t) 2 L x.f0 x.f1 x.f2)) else (spec_PageText.j2 k acc i true 2 L x.f0 x.f1 x.f2)) = spec_PageText.j2 k acc i (!decide (x.f1.toList = [] ∧ 0 ≤ x.f2 ∧ x.f2 ≤ 399)) 2 L x.f0 x.f1 x.f2:=by
  by_cases e : x.f1.toList = []
  · rw [if_pos e,s_in];simp [e]
  · rw [if_neg e];simp [e]
theorem sPage_l2 (L : List S85) (hL : L.length ≤ 1048576) (acc : ByteArray) (i : Nat) (hlt : i < L.length) (k : Nat) : spec_PageText.l0 (k + 1) acc (i : Int) 2 L = spec_PageText.j2 k acc (i : Int) (!itG 2 (prevAt L i) L[i]) 2 L L[i].f0 L[i].f1 L[i].f2:=by
  simp only [spec_PageText.l0]
  rw [if_pos (by omega),if_pos (by omega),ri_Item hlt]
  by_cases e : L[i].f0.toList = []
  · rw [if_pos e,show itG 2 (prevAt L i) L[i] = false from by unfold itG;simp [e]];rfl
  · rw [if_neg e]
    by_cases hi : i = 0
    · rw [if_neg (by omega)]
      have hp : prevAt L i = none:=by unfold prevAt;rw [if_pos hi]
      rw [if_neg (by decide),if_pos trivial,sPage_in,show itG 2 (prevAt L i) L[i] = decide (L[i].f1.toList = [] ∧ 0 ≤ L[i].f2 ∧ L[i].f2 ≤ 399) from by unfold itG;rw [hp,decide_eq_true e,if_neg (by decide)];rfl]
    · have hj : i - 1 < L.length:=by omega
      have w : wrap64 ((i : Int) - 1) = ((i - 1 : Nat) : Int):=by rw [wid (by omega) (by omega)];omega
      have hp : prevAt L i = some L[i - 1].f0:=by unfold prevAt;rw [if_neg hi,List.getElem?_eq_getElem hj];rfl
      rw [if_pos (by omega),w];clear w
      rw [if_pos (by omega),if_pos (by omega),ri_Item hj]
      by_cases b : Op.bytesLess L[i - 1].f0.toList L[i].f0.toList = true
      · rw [if_pos b,if_neg (by decide),if_pos trivial,sPage_in,show itG 2 (prevAt L i) L[i] = decide (L[i].f1.toList = [] ∧ 0 ≤ L[i].f2 ∧ L[i].f2 ≤ 399) from by unfold itG;rw [hp,decide_eq_true e,if_neg (by decide)];simp only [b];rfl]
      · rw [if_neg b,show itG 2 (prevAt L i) L[i] = false from by unfold itG;rw [hp];simp [b]];rfl
theorem sPage_j (kind : Int) (hk : kind = 1 ∨ kind = 2) (L : List S85) (acc : ByteArray) (i : Int) (x : S85) (hx : OkIt x) (hg : kind = 1 ∨ 0 ≤ x.f2 ∧ x.f2 ≤ 399) (ha : acc.size ≤ 100000000000000) {r : ByteArray × Bool} (h : Ev (fun k=>spec_PageText.l0 k (acc ++ txI kind x) (wrap64 (i + 1)) kind L) r) : Ev (fun k=>spec_PageText.j2 k acc i false kind L x.f0 x.f1 x.f2) r:=by
  have b0:=shT_hi hx.1
  have b1:=shT_hi hx.2
  refine Ev.to (f:=fun k=>(spec_l04Short.f k x.f0).bind fun t149=>if acc.size + t149.size ≤ 9223372036854775807 then (if kind = 1 then (spec_l04Short.f k x.f1).bind fun t150=>if (acc ++ t149).size + t150.size ≤ 9223372036854775807 then spec_PageText.l0 k ((acc ++ t149) ++ t150) (wrap64 (i + 1)) kind L else none else (spec_l01Var.f k x.f2).bind fun t151=>if (acc ++ t149).size + t151.size ≤ 9223372036854775807 then spec_PageText.l0 k ((acc ++ t149) ++ t151) (wrap64 (i + 1)) kind L else none) else none) ?_ fun k=>by simp only [spec_PageText.j2];rw [if_neg (by decide)]
  refine (sShT x.f0 hx.1).bind (Ev.ifp (by omega) ?_)
  by_cases c : kind = 1
  · refine Ev.ifp c ((sShT x.f1 hx.2).bind (Ev.ifp (by rw [ByteArray.size_append];omega) ?_))
    have : txI kind x = shT x.f0 ++ shT x.f1:=by unfold txI;rw [if_pos c]
    rw [this,← ByteArray.append_assoc] at h
    exact h
  · have hr:=hg.resolve_left c
    have ev:=l01Var_ev x.f2.toNat (by omega)
    rw [Int.toNat_of_nonneg hr.1] at ev
    have hl:=varB_lenB (n:=x.f2.toNat) (by omega)
    refine Ev.ifn c (ev.bind (Ev.ifp (by rw [ByteArray.size_append,str_len];omega) ?_))
    have : txI kind x = shT x.f0 ++ strOfNums (varB x.f2.toNat):=by unfold txI;rw [if_neg c]
    rw [this,← ByteArray.append_assoc] at h
    exact h
theorem sPage_go (kind : Int) (hk : kind = 1 ∨ kind = 2) (L : List S85) (hL : L.length ≤ 1048576) (hO : ∀ x ∈ L,OkIt x) : ∀ (d i : Nat) (acc : ByteArray),i + d = L.length → acc.size ≤ 100 + 2097162 * i → Ev (fun k=>spec_PageText.l0 k acc (i : Int) kind L) (spL kind (prevAt L i) acc (L.drop i))
  | 0,i,acc,hi,ha=>by
    rw [List.drop_of_length_le (by omega),spL]
    refine Ev.to (f:=fun k=>(spec_Sealed.f k acc).bind fun bt140=>some (bt140.1,bt140.2)) ((sSealed acc (by omega)).bind (Ev.now _)) fun k=>?_
    simp only [spec_PageText.l0]
    rw [if_neg (by omega)]
  | d + 1,i,acc,hi,ha=>by
    have hlt : i < L.length:=by omega
    have hx:=hO L[i] (List.getElem_mem hlt)
    have w : wrap64 ((i : Int) + 1) = ((i + 1 : Nat) : Int):=by rw [wid (by omega) (by omega)];rfl
    rw [List.drop_eq_getElem_cons hlt,spL]
    refine Ev.to (f:=fun k=>spec_PageText.j2 k acc (i : Int) (!itG kind (prevAt L i) L[i]) kind L L[i].f0 L[i].f1 L[i].f2) ?_ fun k=>by
      rcases hk with rfl|rfl
      · exact sPage_l1 L hL acc i hlt k
      · exact sPage_l2 L hL acc i hlt k
    by_cases g : itG kind (prevAt L i) L[i] = true
    · rw [if_pos g,g]
      have hg : kind = 1 ∨ 0 ≤ L[i].f2 ∧ L[i].f2 ≤ 399:=by
        by_cases c : kind = 1
        · exact .inl c
        · exact .inr (itG_inner g c).2
      have hs:=txI_size kind L[i] hx hg
      have ih:=sPage_go kind hk L hL hO d (i + 1) (acc ++ txI kind L[i]) (by omega) (by rw [ByteArray.size_append];omega)
      rw [prevAt_succ hlt] at ih
      refine sPage_j kind hk L acc i L[i] hx hg (by omega) ?_
      rw [w]
      exact ih
    · rw [if_neg g,show itG kind (prevAt L i) L[i] = false from by simpa using g]
      exact sPage_t kind L acc i _ _ _
theorem sPageText (kind : Int) (L : List S85) (hL : L.length ≤ 1048576) (hO : ∀ x ∈ L,OkIt x) : Ev (fun k=>spec_PageText.f k kind L) (pPage kind L):=by
  have bad : Ev (fun k=>spec_PageText.j0 k true kind L) noText:=(Ev.now _).to fun k=>by simp only [spec_PageText.j0,if_true];rfl
  unfold spec_PageText.f
  by_cases hk : kind = 1 ∨ kind = 2
  · rw [s_in_t (by omega)]
    simp only [Option.bind_some,if_true]
    by_cases h0 : L = []
    · have : pPage kind L = noText:=by unfold pPage;rw [if_neg (fun h=>h.2.1 h0)]
      rw [this]
      exact Ev.ifp (by rw [h0];rfl) bad
    · have hp : L.length ≠ 0:=fun h=>h0 (List.length_eq_zero_iff.1 h)
      refine Ev.ifn (by omega) ?_
      have lo:=sumT_lo kind L
      by_cases h54 : (L.length : Int) > 54
      · have : pPage kind L = noText:=by unfold pPage;rw [if_neg (fun h=>h.2.2 (by omega))]
        rw [this]
        exact Ev.ifp h54 bad
      · refine Ev.ifn h54 ((sSumT kind hk L hL hO).bind ?_)
        by_cases hs : sumT kind L > 54
        · have : pPage kind L = noText:=by unfold pPage;rw [if_neg (fun h=>h.2.2 hs)]
          rw [this,decide_eq_true hs]
          exact bad
        · have : pPage kind L = spL kind none (headP kind L.length) L:=by unfold pPage;rw [if_pos ⟨hk,h0,hs⟩]
          rw [this,decide_eq_false hs]
          have hh:=headP_size kind hL
          have ih:=sPage_go kind hk L hL hO L.length 0 (headP kind L.length) (by omega) (by omega)
          rw [List.drop_zero,show prevAt L 0 = none from rfl] at ih
          have hv:=varB_lenB hL
          refine Ev.to (f:=fun k=>(spec_l01Var.f k (L.length : Int)).bind fun t139=>if (strOfNums [kind % 256]).size + t139.size ≤ 9223372036854775807 then spec_PageText.l0 k (strOfNums [kind % 256] ++ t139) 0 kind L else none) ((l01Var_ev L.length (by omega)).bind (Ev.ifp (by rw [str_len,str_len];simp only [List.length_singleton];omega) ih)) fun k=>?_
          simp only [spec_PageText.j0,Option.bind_some]
          rw [if_neg (by decide)]
  · rw [s_in_f (by omega)]
    have : pPage kind L = noText:=by unfold pPage;rw [if_neg (fun h=>hk h.1)]
    rw [this]
    simp only [Option.bind_some,Bool.false_eq_true,if_false]
    exact bad

def kgP (kind : Int) (x : S85) : Bool:=if kind = 1 then decide (x.f2 = 0) else decide (x.f1.toList = [] ∧ 0 ≤ x.f2 ∧ x.f2 ≤ 399)
theorem i_itemOk (kind : Int) (x : S85) : impl_itemOk.f kind x.f0 x.f1 x.f2 = some (decide (¬ x.f0.toList = []) && kgP kind x):=by
  unfold impl_itemOk.f kgP
  by_cases e : x.f0.toList = []
  · rw [if_pos e];simp [e]
  · rw [if_neg e,decide_eq_true e,Bool.true_and]
    by_cases c : kind = 1
    · rw [if_pos c,if_pos c]
      congr 1
    · rw [if_neg c,if_neg c]
      by_cases g : x.f1.toList = []
      · rw [if_pos g,i_in];simp [g]
      · rw [if_neg g];simp [g]
theorem iPage_t (kind : Int) (L M : List S85) (acc : ByteArray) (z n i : Int) (a b : ByteArray) (c : Int) : Ev (fun k=>impl_PageText.j2 k acc z L n i true kind M a b c) noText:=(Ev.now _).to fun k=>by simp only [impl_PageText.j2,if_true];rfl
def smI (x : S85) : Bool:=decide (x.f0.size ≤ 54 ∧ x.f1.size ≤ 54)
theorem iPage_sm (L : List S85) (kind : Int) (acc : ByteArray) (z n i : Int) (x : S85) (k : Nat) : (if (x.f0.size : Int) > 54 then (impl_PageText.j2 k acc z L n i true kind L x.f0 x.f1 x.f2) else (impl_PageText.j2 k acc z L n i (decide ((x.f1.size : Int) > 54)) kind L x.f0 x.f1 x.f2)) = impl_PageText.j2 k acc z L n i (!smI x) kind L x.f0 x.f1 x.f2:=by
  unfold smI
  by_cases e : (x.f0.size : Int) > 54
  · rw [if_pos e,decide_eq_false (by omega)];rfl
  · rw [if_neg e]
    congr 1
    by_cases g : (x.f1.size : Int) > 54
    · rw [decide_eq_true g,decide_eq_false (by omega)];rfl
    · rw [decide_eq_false g,decide_eq_true (by omega)];rfl
theorem iPage_l (kind : Int) (L : List S85) (hL : L.length ≤ 1048576) (acc : ByteArray) (z : Int) (i : Nat) (hlt : i < L.length) (k : Nat) : impl_PageText.l0 (k + 1) acc z L (L.length : Int) (i : Int) kind L = impl_PageText.j2 k acc z L (L.length : Int) (i : Int) (!(itG kind (prevAt L i) L[i] && smI L[i])) kind L L[i].f0 L[i].f1 L[i].f2:=by
  simp only [impl_PageText.l0]
  rw [if_pos (by omega),if_pos (by omega),if_pos (by omega),ri_Item hlt,i_itemOk]
  simp only [Option.bind_some]
  by_cases e : (decide (¬ L[i].f0.toList = []) && kgP kind L[i]) = true
  · rw [if_pos e]
    have e1 : decide (¬ L[i].f0.toList = []) = true:=(Bool.and_eq_true _ _ ▸ e).1
    have e2 : kgP kind L[i] = true:=(Bool.and_eq_true _ _ ▸ e).2
    by_cases hi : i = 0
    · have hp : prevAt L i = none:=by unfold prevAt;rw [if_pos hi]
      have g : itG kind (prevAt L i) L[i] = true:=by unfold itG;rw [hp,e1];unfold kgP at e2;rw [e2];rfl
      rw [if_neg (by omega),iPage_sm,g,Bool.true_and]
    · have hj : i - 1 < L.length:=by omega
      have w : wrap64 ((i : Int) - 1) = ((i - 1 : Nat) : Int):=by rw [wid (by omega) (by omega)];omega
      have hp : prevAt L i = some L[i - 1].f0:=by unfold prevAt;rw [if_neg hi,List.getElem?_eq_getElem hj];rfl
      rw [if_pos (by omega),w];clear w
      rw [if_pos (by omega),if_pos (by omega),ri_Item hj]
      by_cases b : Op.bytesLess L[i - 1].f0.toList L[i].f0.toList = true
      · have g : itG kind (prevAt L i) L[i] = true:=by unfold itG;rw [hp,e1];unfold kgP at e2;rw [e2];simp only [b];rfl
        rw [if_pos b,iPage_sm,g,Bool.true_and]
      · have g : itG kind (prevAt L i) L[i] = false:=by unfold itG;rw [hp];simp [b]
        rw [if_neg b,g];rfl
  · rw [if_neg e]
    have g : itG kind (prevAt L i) L[i] = false:=by
      unfold itG
      unfold kgP at e
      generalize (if kind = 1 then decide (L[i].f2 = 0) else decide (L[i].f1.toList = [] ∧ 0 ≤ L[i].f2 ∧ L[i].f2 ≤ 399)) = q at e ⊢
      generalize decide (¬ L[i].f0.toList = []) = p at e ⊢
      cases p <;> cases q <;> simp_all
    rw [g];rfl
theorem pShort_small {s : ByteArray} (h : s.size ≤ 54) : (pShort s).1 = shT s:=by unfold pShort shT;rw [if_neg (by omega)]
theorem szI_small {kind : Int} {x : S85} (hk : kind = 1 ∨ kind = 2) (h0 : x.f0.size ≤ 54) (h1 : x.f1.size ≤ 54) : szI kind x = szT kind x:=by
  unfold szI szT
  rw [pShort_small h0,pShort_small h1]
  rcases hk with rfl|rfl
  · rw [if_pos rfl,if_pos rfl]
  · rw [if_neg (by decide),if_pos rfl,if_neg (by decide)]
theorem iPage_j (kind : Int) (hk : kind = 1 ∨ kind = 2) (L : List S85) (acc : ByteArray) (z n i : Int) (x : S85) (h0 : x.f0.size ≤ 54) (h1 : x.f1.size ≤ 54) (hg : kind = 1 ∨ 0 ≤ x.f2 ∧ x.f2 ≤ 399) (ha : acc.size ≤ 100000000000000) (hz0 : 0 ≤ z) (hz1 : z ≤ 100000000000000) {r : ByteArray × Bool} (h : Ev (fun k=>impl_PageText.l0 k (acc ++ txI kind x) (z + szT kind x) L n (wrap64 (i + 1)) kind L) r) : Ev (fun k=>impl_PageText.j2 k acc z L n i false kind L x.f0 x.f1 x.f2) r:=by
  have b0:=shT_hi (s:=x.f0) (by omega)
  have b1:=shT_hi (s:=x.f1) (by omega)
  have bz:=szI_bd kind x
  rw [← szI_small hk h0 h1] at h
  have w : qn (wrap64 (z + szI kind x) = z + szI kind x):=⟨wid (by omega) (by omega)⟩
  refine Ev.to (f:=fun k=>(impl_ItemSize.f k kind x.f0 x.f1 x.f2).bind fun t204=>(impl_ShortText.f k x.f0).bind fun bt205=>(impl_ShortText.f k x.f1).bind fun bt207=>if kind = 2 then (impl_VarText.f k x.f2).bind fun bt209=>if bt205.1.size + bt209.1.size ≤ 9223372036854775807 then (if acc.size + (bt205.1 ++ bt209.1).size ≤ 9223372036854775807 then impl_PageText.l0 k (acc ++ (bt205.1 ++ bt209.1)) (wrap64 (z + t204)) L n (wrap64 (i + 1)) kind L else none) else none else if bt205.1.size + bt207.1.size ≤ 9223372036854775807 then (if acc.size + (bt205.1 ++ bt207.1).size ≤ 9223372036854775807 then impl_PageText.l0 k (acc ++ (bt205.1 ++ bt207.1)) (wrap64 (z + t204)) L n (wrap64 (i + 1)) kind L else none) else none) ?_ fun k=>by simp only [impl_PageText.j2];rw [if_neg (by decide)]
  refine (iItemSize kind x (by omega) (by omega)).bind ((iShortText x.f0 (by omega)).bind ((iShortText x.f1 (by omega)).bind ?_))
  rw [w.out,pShort_small h0,pShort_small h1]
  rcases hk with c|c
  · refine Ev.ifn (by omega) (Ev.ifp (by omega) (Ev.ifp (by rw [ByteArray.size_append];omega) ?_))
    have : txI kind x = shT x.f0 ++ shT x.f1:=by unfold txI;rw [if_pos c]
    rw [this] at h
    exact h
  · have hr:=hg.resolve_left (by omega)
    have hl:=varB_lenB (n:=x.f2.toNat) (by omega)
    have e : (pVarText x.f2).1 = strOfNums (varB x.f2.toNat):=by unfold pVarText;rw [if_pos (by omega)]
    refine Ev.ifp c ((iVarText x.f2).bind ?_)
    rw [e]
    refine Ev.ifp (by rw [str_len];omega) (Ev.ifp (by rw [ByteArray.size_append,str_len];omega) ?_)
    have : txI kind x = shT x.f0 ++ strOfNums (varB x.f2.toNat):=by unfold txI;rw [if_neg (by omega)]
    rw [this] at h
    exact h
theorem iPage_go (kind : Int) (hk : kind = 1 ∨ kind = 2) (L : List S85) (hL : L.length ≤ 1048576) (hO : ∀ x ∈ L,OkIt x) : ∀ (d i : Nat) (acc : ByteArray) (z : Int),i + d = L.length → acc.size ≤ 100 + 2097162 * i → 0 ≤ z → z ≤ 2097162 * i → Ev (fun k=>impl_PageText.l0 k acc z L (L.length : Int) (i : Int) kind L) (imL kind (prevAt L i) acc z (L.drop i))
  | 0,i,acc,z,hi,ha,h0,h1=>by
    rw [List.drop_of_length_le (by omega),imL]
    refine Ev.to (f:=fun k=>if z > 54 then some noText else (impl_Sealed.f k acc).bind fun bt140=>some (bt140.1,bt140.2)) ?_ fun k=>by
      simp only [impl_PageText.l0]
      rw [if_neg (by omega)]
      rfl
    by_cases c : z > 54
    · rw [if_pos c]
      exact Ev.ifp c (Ev.now _)
    · rw [if_neg c]
      exact Ev.ifn c ((iSealed acc (by omega)).bind (Ev.now _))
  | d + 1,i,acc,z,hi,ha,h0,h1=>by
    have hlt : i < L.length:=by omega
    have hx:=hO L[i] (List.getElem_mem hlt)
    have w : wrap64 ((i : Int) + 1) = ((i + 1 : Nat) : Int):=by rw [wid (by omega) (by omega)];rfl
    rw [List.drop_eq_getElem_cons hlt,imL]
    refine Ev.to (f:=fun k=>impl_PageText.j2 k acc z L (L.length : Int) (i : Int) (!(itG kind (prevAt L i) L[i] && smI L[i])) kind L L[i].f0 L[i].f1 L[i].f2) ?_ fun k=>iPage_l kind L hL acc z i hlt k
    by_cases g : itG kind (prevAt L i) L[i] = true ∧ L[i].f0.size ≤ 54 ∧ L[i].f1.size ≤ 54
    · rw [if_pos g,g.1,show smI L[i] = true from decide_eq_true g.2]
      have hg : kind = 1 ∨ 0 ≤ L[i].f2 ∧ L[i].f2 ≤ 399:=by
        by_cases c : kind = 1
        · exact .inl c
        · exact .inr (itG_inner g.1 c).2
      have hs:=txI_size kind L[i] hx hg
      have lo:=szT_lo kind L[i]
      have hi':=szT_hi kind L[i] hx.1 hx.2
      have ih:=iPage_go kind hk L hL hO d (i + 1) (acc ++ txI kind L[i]) (z + szT kind L[i]) (by omega) (by rw [ByteArray.size_append];omega) (by omega) (by omega)
      rw [prevAt_succ hlt] at ih
      refine iPage_j kind hk L acc z _ i L[i] g.2.1 g.2.2 hg (by omega) (by omega) (by omega) ?_
      rw [w]
      exact ih
    · rw [if_neg g,show (itG kind (prevAt L i) L[i] && smI L[i]) = false from by
        unfold smI
        cases hh : itG kind (prevAt L i) L[i] with
        | false=>rfl
        | true=>rw [decide_eq_false (fun h=>g ⟨hh,h⟩)];rfl]
      exact iPage_t kind L L acc z _ i _ _ _
theorem iPageText (kind : Int) (L : List S85) (hL : L.length ≤ 1048576) (hO : ∀ x ∈ L,OkIt x) : Ev (fun k=>impl_PageText.f k kind L) (pPage kind L):=by
  have bad : Ev (fun k=>impl_PageText.j0 k true kind L) noText:=(Ev.now _).to fun k=>by simp only [impl_PageText.j0,if_true];rfl
  have main : (kind = 1 ∨ kind = 2) → Ev (fun k=>impl_PageText.j0 k ((L.length : Int) == 0) kind L) (pPage kind L):=by
    intro hk
    by_cases h0 : L = []
    · have : pPage kind L = noText:=by unfold pPage;rw [if_neg (fun h=>h.2.1 h0)]
      rw [this,show ((L.length : Int) == 0) = true from by rw [h0];rfl]
      exact bad
    · have hp : L.length ≠ 0:=fun h=>h0 (List.length_eq_zero_iff.1 h)
      rw [show ((L.length : Int) == 0) = false from beq_eq_false_iff_ne.mpr (by omega)]
      have : pPage kind L = imL kind none (headP kind L.length) 0 L:=by
        rw [imL_eq kind L none _ 0 (by omega),Int.zero_add]
        unfold pPage
        by_cases hs : sumT kind L > 54
        · rw [if_neg (fun h=>h.2.2 hs),if_pos hs]
        · rw [if_pos ⟨hk,h0,hs⟩,if_neg hs]
      rw [this]
      have hh:=headP_size kind hL
      have ih:=iPage_go kind hk L hL hO L.length 0 (headP kind L.length) 0 (by omega) (by omega) (by omega) (by omega)
      rw [List.drop_zero,show prevAt L 0 = none from rfl] at ih
      have hv:=varB_lenB hL
      have e : (pVarText (L.length : Int)).1 = strOfNums (varB L.length):=by unfold pVarText;rw [if_pos (by omega),Int.toNat_natCast]
      refine Ev.to (f:=fun k=>(impl_VarText.f k (L.length : Int)).bind fun t139=>if (strOfNums [kind % 256]).size + t139.1.size ≤ 9223372036854775807 then impl_PageText.l0 k (strOfNums [kind % 256] ++ t139.1) 0 L (L.length : Int) 0 kind L else none) ((iVarText (L.length : Int)).bind ?_) fun k=>?_
      · rw [e]
        exact Ev.ifp (by rw [str_len,str_len];simp only [List.length_singleton];omega) ih
      · simp only [impl_PageText.j0,Option.bind_some]
        rw [if_neg (by decide)]
  unfold impl_PageText.f
  by_cases h1 : kind = 1
  · exact Ev.ifp h1 (main (.inl h1))
  · by_cases h2 : kind = 2
    · exact Ev.ifn h1 (Ev.ifp h2 (main (.inr h2)))
    · have : pPage kind L = noText:=by unfold pPage;rw [if_neg (fun h=>by omega)]
      rw [this]
      exact Ev.ifn h1 (Ev.ifn h2 bad)

theorem szPageT (kind : Int) (l : List S120) (hl : l.length ≤ 9223372036854775807) (hx : ∀ x ∈ l,okItem x) : ∃ r,Ev (fun k=>laws_szPage.f k kind l 1048576) r ∧ (r < 0 ∨ (l.length ≤ 1048576 ∧ ∀ x ∈ l,smallItem x)):=by
  obtain ⟨r,hr,hc⟩:=szItemS l hl hx 1048576 (by decide) (by decide)
  unfold laws_szPage.f
  by_cases h : r < 0
  · exact ⟨-1,hr.bind (Ev.ifp h (Ev.now _)),.inl (by decide)⟩
  · exact ⟨r,hr.bind (Ev.ifn h (Ev.now _)),(hc.imp_right fun g=>g.2)⟩
theorem toPageT (kind : Int) (l : List S120) (hl : l.length ≤ 1048576) : Ev (fun k=>laws_toPage.f k kind l) (kind,l.map cvItem):=by
  unfold laws_toPage.f
  exact (toItemS l hl).bind (Ev.now _)
theorem eqPageT (kind : Int) (l : List S85) (hl : l.length ≤ 1048576) : Ev (fun k=>laws_eqPage.f k kind l kind l) true:=by
  unfold laws_eqPage.f
  exact Ev.ifp rfl ((eqItemS l (by omega)).bind (Ev.ifp rfl (Ev.now _)))
theorem FnExactPageText : laws_FnExactPageText.Pure:=by
  intro kind l _ hl
  refine Ev.rounds (g:=fun k=>laws_FnExactPageText.f k kind l) ?_
  unfold laws_FnExactPageText.f
  obtain ⟨r,hr,hc⟩:=szPageT kind l hl.1 (fun x hx=>⟨(hl.2 x hx).1,(hl.2 x hx).2.1⟩)
  refine hr.bind ?_
  by_cases h : r < 0
  · exact Ev.ifp h (Ev.now _)
  · refine Ev.ifn h ?_
    obtain ⟨hll,hsm⟩:=hc.resolve_left h
    have hm : (l.map cvItem).length ≤ 1048576:=by rw [List.length_map];exact hll
    have hO : ∀ x ∈ l.map cvItem,OkIt x:=fun x hx=>by
      obtain ⟨y,hy,rfl⟩:=List.mem_map.1 hx
      exact hsm y hy
    refine (toPageT kind l hll).bind ((sPageText kind _ hm hO).bind ((toPageT kind l hll).bind ((iPageText kind _ hm hO).bind (Ev.ifp rfl ?_))))
    simp only [bne_rfl_bool]
    refine Ev.to (f:=fun k=>(laws_toPage.f k kind l).bind fun bt234=>(laws_eqPage.f k kind (l.map cvItem) bt234.1 bt234.2).bind fun t238=>if t238 = true then some true else some false) ((toPageT kind l hll).bind ((eqPageT kind _ hm).bind (Ev.ifp rfl (Ev.now _)))) fun k=>by simp only [laws_FnExactPageText.j0];rw [if_neg (by decide)]

end Go.Proofs.Ytcdofljgeiohgaa.Pure
