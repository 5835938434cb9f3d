/- The program's PlaceTree and the reference's PlaceTree put the same tree on the device, for every device, all free sectors and every map; the arguments stay as they were, the answer owns its memory. -/
import Derived.Test.YtcnoccefdejphaaZFnExactPlaceTreex28
import Derived.Laws.BitsAllLaws
namespace Go.Proofs.Ytcnoccefdejphaa.Pure
open Go.RowKit Go.Proofs.YtcnoccefdejphaaW.PrintWords Go.Proofs.Ytcnoccefdejphaa.QFnExactPlaceTree
set_option linter.unusedVariables false
set_option linter.unusedSimpArgs false
set_option maxHeartbeats 4000000

theorem wid {n : Int} (h0 : -9223372036854775808 ≤ n) (h1 : n < 9223372036854775808) : wrap64 n = n:=by unfold wrap64;omega
theorem _root_.Go.Proofs.YtcnoccefdejphaaW.PrintWords.Ev.ofEq {α : Type} {g : Nat → Option α} {r q : α} (h : Ev g r) (e : r = q) : Ev g q:=e ▸ h
theorem _root_.Go.Proofs.YtcnoccefdejphaaW.PrintWords.Ev.same {α : Type} {o : Option α} {r : α} (h : o = some r) : Ev (fun _=>o) r:=⟨0,fun _ _=>h⟩
theorem _root_.Go.Proofs.YtcnoccefdejphaaW.PrintWords.Ev.to {α : Type} {g f : Nat → Option α} {r : α} (k : Ev f r) (h : ∀ k,g (k + 1) = f k) : Ev g r:=Ev.step h k
theorem _root_.Go.Proofs.YtcnoccefdejphaaW.PrintWords.Ev.cg {α : Type} {g f : Nat → Option α} {r : α} (k : Ev f r) (h : ∀ k,g k = f k) : Ev g r:=Ev.congr h k
theorem _root_.Go.Proofs.YtcnoccefdejphaaW.PrintWords.Ev.ifp {α : Type} {c : Prop} [Decidable c] {g f : Nat → Option α} {r : α} (h : c) (e : Ev g r) : Ev (fun k=>if c then g k else f k) r:=by simp only [if_pos h];exact e
theorem _root_.Go.Proofs.YtcnoccefdejphaaW.PrintWords.Ev.ifn {α : Type} {c : Prop} [Decidable c] {g f : Nat → Option α} {r : α} (h : ¬ c) (e : Ev f r) : Ev (fun k=>if c then g k else f k) r:=by simp only [if_neg h];exact e
/-- The bytes of a string, as numbers. -/
def bl (s : ByteArray) : List Int:=s.data.toList.map fun b=>(b.toNat : Int)
theorem bl_len (s : ByteArray) : (bl s).length = s.size:=by unfold bl;rw [List.length_map];rfl
def Byt (xs : List Int) : Prop:=∀ x ∈ xs,0 ≤ x ∧ x < 256
theorem Byt.nil : Byt []:=fun _ h=>by simp at h
theorem Byt.cons {x : Int} {xs : List Int} (h : 0 ≤ x ∧ x < 256) (h' : Byt xs) : Byt (x :: xs):=fun y hy=>by
 rcases List.mem_cons.1 hy with rfl|hy
 ·exact h
 exact h' y hy
theorem Byt.app {xs ys : List Int} (h : Byt xs) (h' : Byt ys) : Byt (xs ++ ys):=fun y hy=>by
 rcases List.mem_append.1 hy with hy|hy
 ·exact h y hy
 exact h' y hy
theorem Byt.left {xs ys : List Int} (h : Byt (xs ++ ys)) : Byt xs:=fun y hy=>h y (List.mem_append_left _ hy)
theorem Byt.right {xs ys : List Int} (h : Byt (xs ++ ys)) : Byt ys:=fun y hy=>h y (List.mem_append_right _ hy)
theorem Byt.tail {x : Int} {xs : List Int} (h : Byt (x :: xs)) : Byt xs:=fun y hy=>h y (List.mem_cons_of_mem _ hy)
theorem Byt.head {x : Int} {xs : List Int} (h : Byt (x :: xs)) : 0 ≤ x ∧ x < 256:=h x (List.mem_cons_self ..)
theorem Byt.drop {xs : List Int} (h : Byt xs) (n : Nat) : Byt (xs.drop n):=fun y hy=>h y (List.mem_of_mem_drop hy)
theorem Byt.take {xs : List Int} (h : Byt xs) (n : Nat) : Byt (xs.take n):=fun y hy=>h y (List.mem_of_mem_take hy)
theorem str_bl (s : ByteArray) : strOfNums (bl s) = s:=by
 unfold strOfNums bl
 rw [List.map_map]
 have : ((fun n : Int=>UInt8.ofNat n.toNat) ∘ fun b : UInt8=>(b.toNat : Int)) = id:=by
  funext b
  simp
 rw [this,List.map_id]
theorem bl_inj {a b : ByteArray} (h : bl a = bl b) : a = b:=by rw [← str_bl a,← str_bl b,h]
theorem bt_bl (s : ByteArray) (i : Int) : bt s i = (bl s).getD i.toNat 0:=by
 unfold bt
 split
 ·rename_i h
  have hl : i.toNat < s.data.toList.length:=h
  simp only [bl,List.getD_eq_getElem?_getD,List.getElem?_map,List.getElem?_eq_getElem hl,Option.map_some,Option.getD_some]
  rfl
 rename_i h
 rw [List.getD_eq_getElem?_getD,List.getElem?_eq_none (by rw [bl_len];omega)]
 rfl
theorem bl_app (a b : ByteArray) : bl (a ++ b) = bl a ++ bl b:=by
 unfold bl
 rw [ByteArray.data_append,Array.toList_append,List.map_append]
theorem bl_emp : bl (⟨#[]⟩ : ByteArray) = []:=rfl
theorem bl_cons {s : ByteArray} {i : Nat} (h : i < s.size) : (bl s).drop i = bt s (i : Int) :: (bl s).drop (i + 1):=by
 have hl : i < (bl s).length:=by rw [bl_len];exact h
 rw [List.drop_eq_getElem_cons hl,bt_bl,List.getD_eq_getElem?_getD,Int.toNat_natCast,List.getElem?_eq_getElem hl]
 rfl
theorem bl_end {s : ByteArray} {i : Nat} (h : s.size ≤ i) : (bl s).drop i = []:=List.drop_of_length_le (by rw [bl_len];exact h)
theorem tdiv_pos {a b : Int} (h : 0 ≤ a) : Int.tdiv a b = a / b:=Int.tdiv_eq_ediv_of_nonneg h
theorem tmod_pos {a b : Int} (h : 0 ≤ a) : Int.tmod a b = a % b:=Int.tmod_eq_emod_of_nonneg h
theorem Byt.one {x : Int} (h : 0 ≤ x ∧ x < 256) : Byt [x]:=Byt.nil.cons h
theorem bl_size (s : ByteArray) : s.size = (bl s).length:=(bl_len s).symm
theorem str_len (xs : List Int) : (strOfNums xs).size = xs.length:=strOfNums_size xs

/-! Numbers in bytes -/
def varB (n : Nat) : List Int:=if h : n > 127 then (((n % 128 + 128 : Nat) : Int)) :: varB (n / 128) else [(n : Int)]
termination_by n
decreasing_by omega
theorem varB_big {n : Nat} (h : n > 127) : varB n = (((n % 128 + 128 : Nat) : Int)) :: varB (n / 128):=by rw [varB,dif_pos h]
theorem varB_small {n : Nat} (h : ¬ n > 127) : varB n = [(n : Int)]:=by rw [varB,dif_neg h]
theorem varB_pos (n : Nat) : 1 ≤ (varB n).length:=by
 by_cases h : n > 127
 ·rw [varB_big h];simp
 rw [varB_small h];simp
theorem varB_len (n : Nat) : (varB n).length ≤ n + 1:=by
 induction n using Nat.strongRecOn with
 | _ n ih =>
  by_cases h : n > 127
  ·rw [varB_big h];have:=ih (n / 128) (by omega);simp only [List.length_cons];omega
  rw [varB_small h];simp
theorem varB_len1 {n : Nat} (h : n < 128) : (varB n).length = 1:=by rw [varB_small (by omega)];rfl
theorem varB_len2 {n : Nat} (h : n < 16384) : (varB n).length ≤ 2:=by
 by_cases h1 : n > 127
 ·rw [varB_big h1,List.length_cons,varB_len1 (by omega)];omega
 rw [varB_small h1];simp
theorem varB_len5 {n : Nat} (h : n ≤ 1000000000) : (varB n).length ≤ 5:=by
 by_cases h1 : n > 127
 ·rw [varB_big h1,List.length_cons]
  by_cases h2 : n / 128 > 127
  ·rw [varB_big h2,List.length_cons]
   by_cases h3 : n / 128 / 128 > 127
   ·rw [varB_big h3,List.length_cons]
    have:=varB_len2 (n:=n / 128 / 128 / 128) (by omega)
    omega
   rw [varB_small h3];simp
  rw [varB_small h2];simp
 rw [varB_small h1];simp
theorem i_in (a b c : Int) : impl_in.f a b c = some (decide (b ≤ a ∧ a ≤ c)):=by
 unfold impl_in.f
 by_cases h : a ≥ b
 ·rw [if_pos h];simp [show b ≤ a from h]
 rw [if_neg h];simp [show ¬ b ≤ a from h]
theorem i_in_t {a b c : Int} (h : b ≤ a ∧ a ≤ c) : impl_in.f a b c = some true:=by rw [i_in,decide_eq_true h]
theorem i_in_f {a b c : Int} (h : ¬ (b ≤ a ∧ a ≤ c)) : impl_in.f a b c = some false:=by rw [i_in,decide_eq_false h]

theorem iVarText_go (n : Nat) : ∀ acc : List Int,acc.length + n ≤ 100000000000 → Ev (fun k=>impl_VarText.l0 k (n : Int) acc) (strOfNums (acc ++ varB n),true):=by
 induction n using Nat.strongRecOn with
 | _ n ih =>
  intro acc hacc
  by_cases h : n > 127
  ·have:=ih (n / 128) (by omega) (acc ++ [((n % 128 + 128 : Nat) : Int)]) (by simp;omega)
   rw [varB_big h]
   rw [List.append_assoc,List.singleton_append] at this
   refine this.to fun k=>?_
   simp only [impl_VarText.l0]
   rw [if_pos (by omega),if_pos (by omega),tdiv_pos (by omega),tmod_pos (by omega),wid (by omega) (by omega),wid (by omega) (by omega)]
   congr 3
   omega
  rw [varB_small h]
  refine (Ev.now _).to fun k=>?_
  simp only [impl_VarText.l0]
  rw [if_neg (by omega),if_pos (by omega),show (n : Int) % 256 = n by omega]
def pVarText (n : Int) : ByteArray × Bool:=if 0 ≤ n ∧ n ≤ 1000000000 then (strOfNums (varB n.toNat),true) else (⟨#[]⟩,false)
theorem iVarText (n : Int) : Ev (fun k=>impl_VarText.f k n) (pVarText n):=by
 unfold impl_VarText.f pVarText
 by_cases h : 0 ≤ n ∧ n ≤ 1000000000
 ·rw [i_in_t h,if_pos h]
  simp only [Option.bind_some,if_true]
  have:=iVarText_go n.toNat [] (by simp;omega)
  rw [Int.toNat_of_nonneg h.1] at this
  exact this
 rw [i_in_f h,if_neg h]
 simp only [Option.bind_some,Bool.false_eq_true,if_false]
 exact Ev.now _

def pShort (s : ByteArray) : ByteArray × Bool:=if s.size > 8000 then (⟨#[]⟩,false) else (strOfNums (varB s.size) ++ s,true)

theorem iShortText (s : ByteArray) (hs : s.size ≤ 140737488351232) : Ev (fun k=>impl_ShortText.f k s) (pShort s):=by
 unfold impl_ShortText.f pShort
 by_cases h : s.size > 8000
 ·rw [if_pos h]
  simp only [if_pos (show (s.size : Int) > 8000 by omega)]
  exact Ev.now _
 rw [if_neg h]
 simp only [if_neg (show ¬ (s.size : Int) > 8000 by omega)]
 have hl:=varB_len s.size
 refine (iVarText s.size).bind ?_
 have e : pVarText (s.size : Int) = (strOfNums (varB s.size),true):=by unfold pVarText;rw [if_pos (by omega),Int.toNat_natCast]
 rw [e]
 exact Ev.same (if_pos (by rw [str_len];omega))

theorem l01Var_go (n : Nat) : ∀ acc : List Int,acc.length + n ≤ 100000000000 → Ev (fun k=>spec_l01Var.l0 k (n : Int) acc) (strOfNums (acc ++ varB n)):=by
 induction n using Nat.strongRecOn with
 | _ n ih =>
  intro acc hacc
  by_cases h : n > 127
  ·have:=ih (n / 128) (by omega) (acc ++ [((n % 128 + 128 : Nat) : Int)]) (by simp;omega)
   rw [varB_big h]
   rw [List.append_assoc,List.singleton_append] at this
   refine this.to fun k=>?_
   simp only [spec_l01Var.l0]
   rw [if_pos (by omega),if_pos (by omega),tdiv_pos (by omega),tmod_pos (by omega),wid (by omega) (by omega),wid (by omega) (by omega)]
   congr 3
   omega
  rw [varB_small h]
  refine (Ev.now _).to fun k=>?_
  simp only [spec_l01Var.l0]
  rw [if_neg (by omega),if_pos (by omega),show (n : Int) % 256 = n by omega]
theorem l01Var_ev (n : Nat) (h : n ≤ 10000000000) : Ev (fun k=>spec_l01Var.f k (n : Int)) (strOfNums (varB n)):=l01Var_go n [] (by simp;omega)

theorem s_in (a b c : Int) : spec_l01In.f a b c = some (decide (b ≤ a ∧ a ≤ c)):=by
 unfold spec_l01In.f
 by_cases h : a ≥ b
 ·rw [if_pos h];simp [show b ≤ a from h]
 rw [if_neg h];simp [show ¬ b ≤ a from h]
theorem s_in_t {a b c : Int} (h : b ≤ a ∧ a ≤ c) : spec_l01In.f a b c = some true:=by rw [s_in,decide_eq_true h]
theorem s_in_f {a b c : Int} (h : ¬ (b ≤ a ∧ a ≤ c)) : spec_l01In.f a b c = some false:=by rw [s_in,decide_eq_false h]

theorem sVarText (n : Int) : Ev (fun k=>spec_VarText.f k n) (pVarText n):=by
 unfold spec_VarText.f pVarText
 by_cases h : 0 ≤ n ∧ n ≤ 1000000000
 ·rw [s_in_t h,if_pos h]
  simp only [Option.bind_some,if_true]
  have:=l01Var_ev n.toNat (by omega)
  rw [Int.toNat_of_nonneg h.1] at this
  exact this.bind (Ev.now _)
 rw [s_in_f h,if_neg h]
 simp only [Option.bind_some,Bool.false_eq_true,if_false]
 exact Ev.now _

def szI (kind : Int) (x : S71) : Int:=if kind = 1 then ((pShort x.f0).1.size : Int) + (pShort x.f1).1.size else if kind = 2 then ((pShort x.f0).1.size : Int) + (pVarText x.f2).1.size else 0
theorem pShort_size (s : ByteArray) : (pShort s).1.size ≤ 9000:=by
 unfold pShort
 split
 ·exact Nat.zero_le _
 rw [ByteArray.size_append,str_len]
 have:=varB_len5 (n:=s.size) (by omega)
 omega
theorem pVar_size (n : Int) : (pVarText n).1.size ≤ 5:=by
 unfold pVarText
 split
 ·rename_i h
  rw [str_len]
  exact varB_len5 (by omega)
 exact Nat.zero_le _
theorem szI_bd (kind : Int) (x : S71) : 0 ≤ szI kind x ∧ szI kind x ≤ 18000:=by
 have h0:=pShort_size x.f0
 have h1:=pShort_size x.f1
 have h2:=pVar_size x.f2
 unfold szI
 split
 ·omega
 split <;> omega
theorem iItemSize (kind : Int) (x : S71) (h0 : x.f0.size ≤ 140737488351232) (h1 : x.f1.size ≤ 140737488351232) : Ev (fun k=>impl_ItemSize.f k kind x.f0 x.f1 x.f2) (szI kind x):=by
 unfold impl_ItemSize.f szI
 have b0:=pShort_size x.f0
 have b1:=pShort_size x.f1
 have b2:=pVar_size x.f2
 refine (iShortText x.f0 h0).bind ?_
 by_cases c1 : kind = 1
 ·rw [if_pos c1]
  refine Ev.ifp c1 ((iShortText x.f1 h1).bind (Ev.same ?_))
  rw [wid (by omega) (by omega)]
 rw [if_neg c1]
 refine Ev.ifn c1 ?_
 by_cases c2 : kind = 2
 ·rw [if_pos c2]
  refine Ev.ifp c2 ((iVarText x.f2).bind (Ev.same ?_))
  rw [wid (by omega) (by omega)]
 rw [if_neg c2]
 exact Ev.ifn c2 (Ev.now _)
theorem set_take {α : Type} (xs : List α) {i : Nat} (v : α) (h : i < xs.length) : (xs.set i v).take (i + 1) = xs.take i ++ [v]:=by
 rw [List.take_succ_eq_append_getElem (by rw [List.length_set];exact h),List.getElem_set_self,List.take_set_of_le (Nat.le_refl _)]
theorem take_set_drop {α : Type} (xs : List α) {i : Nat} (v : α) (h : i < xs.length) : (xs.set i v).drop (i + 1) = xs.drop (i + 1):=by
 rw [List.drop_set_of_lt (by omega)]
theorem getD_at {α : Type} {xs : List α} {i : Nat} (z : α) (h : i < xs.length) : xs.getD ((i : Int)).toNat z = xs[i]:=by
 rw [Int.toNat_natCast,List.getD_eq_getElem?_getD,List.getElem?_eq_getElem h];rfl
theorem rdOf_at {α : Type} {xs : List α} {i : Nat} (z : α) (h : i < xs.length) : rdOf z xs (i : Int) = xs[i]:=getD_at z h
theorem rd_at {xs : List Int} {i : Nat} (h : i < xs.length) : rd xs (i : Int) = xs[i]:=getD_at 0 h
theorem ri_Item {xs : List S71} {i : Nat} (h : i < xs.length) : rd_T71 xs (i : Int) = xs[i]:=getD_at _ h

/-! Sums -/
def U32 (s : Int) : Prop:=0 ≤ s ∧ s < 4294967296
theorem xor_u32 {a b : Int} (h : U32 a) (h' : U32 b) : U32 (Go.bits .xor .u32 a b):=by
 rw [Go.u32_xor a b h.1 h.2 h'.1 h'.2]
 have : a.toNat ^^^ b.toNat < 2 ^ 32:=Nat.xor_lt_two_pow (by have:=h.2;have:=h.1;omega) (by have:=h'.2;have:=h'.1;omega)
 exact ⟨by omega,by omega⟩
theorem and1_u32 {a : Int} (h : U32 a) : Go.bits .and .u32 a 1 = a % 2:=by
 rw [Go.u32_and a 1 h.1 h.2 (by decide) (by decide)]
 have : (1 : Int).toNat = 1:=rfl
 rw [this,Nat.and_one_is_mod]
 have:=h.1
 omega
def crcBit (s : Int) : Int:=if s % 2 = 1 then Go.bits .xor .u32 (s / 2) 3558460437 else s / 2
def crcN : Nat → Int → Int
 | 0,s=>s
 | n + 1,s=>crcN n (crcBit s)
def crcByte (s b : Int) : Int:=crcN 8 (Go.bits .xor .u32 s b)
def crcL (s : Int) (l : List Int) : Int:=l.foldl crcByte s
theorem crcBit_u32 {s : Int} (h : U32 s) : U32 (crcBit s):=by
 unfold crcBit
 have : U32 (s / 2):=⟨by have:=h.1;omega,by have:=h.2;omega⟩
 split
 ·exact xor_u32 this ⟨by decide,by decide⟩
 exact this
theorem crcN_u32 : ∀ (n : Nat) {s : Int},U32 s → U32 (crcN n s)
 | 0,_,h=>h
 | n + 1,_,h=>crcN_u32 n (crcBit_u32 h)
theorem crcByte_u32 {s b : Int} (h : U32 s) (hb : 0 ≤ b ∧ b < 256) : U32 (crcByte s b):=crcN_u32 8 (xor_u32 h ⟨hb.1,by omega⟩)
theorem crcL_cons (s b : Int) (l : List Int) : crcL s (b :: l) = crcL (crcByte s b) l:=by unfold crcL;rw [List.foldl_cons]
theorem u32_top : U32 4294967295:=⟨by decide,by decide⟩
def sumB (s : ByteArray) : Int:=crcL 4294967295 (bl s)
def four (n : Int) : List Int:=[(n / 16777216) % 256,(n / 65536) % 256,(n / 256) % 256,n % 256]
theorem four_len (n : Int) : (four n).length = 4:=rfl
def pSealed (s : ByteArray) : ByteArray × Bool:=if s.size > 8000 then (⟨#[]⟩,false) else (s ++ strOfNums (four (sumB s)),true)

theorem impl_sm_l1 (s : ByteArray) (z i : Int) {r : Int} : ∀ (n : Nat) (x : Int),n ≤ 8 → U32 x → Ev (fun k=>impl_SumMore.l0 k (crcN n x) s z (wrap64 (i + 1))) r → Ev (fun k=>impl_SumMore.l1 k x s z i (8 - (n : Int))) r
 | 0,x,_,_,h=>h.to fun k=>by simp only [impl_SumMore.l1];rw [if_neg (by omega)];rfl
 | n + 1,x,hn,hx,h=>by
  have h1:=hx.1
  have h2:=hx.2
  refine (impl_sm_l1 s z i n (crcBit x) (by omega) (crcBit_u32 hx) h).to fun k=>?_
  simp only [impl_SumMore.l1]
  rw [if_pos (by omega),and1_u32 hx,wid (by omega) (by omega),show (8 - ((n + 1 : Nat) : Int) + 1) = 8 - (n : Int) by omega]
  unfold crcBit
  by_cases hb : x % 2 = 1
  ·rw [if_pos hb,if_pos hb]
  rw [if_neg hb,if_neg hb]
theorem impl_sm_l0 (s : ByteArray) (hs : s.size ≤ 140737488351232) : ∀ (d i : Nat) (x : Int),i + d = s.size → U32 x → Ev (fun k=>impl_SumMore.l0 k x s (s.size : Int) (i : Int)) (crcL x ((bl s).drop i))
 | 0,i,x,hi,_=>by
  refine (Ev.now _).to fun k=>?_
  simp only [impl_SumMore.l0]
  rw [if_neg (by omega),bl_end (by omega)]
  rfl
 | d + 1,i,x,hi,hx=>by
  have hb:=bt_range s (i : Int)
  rw [bl_cons (by omega),crcL_cons]
  have hx' : U32 (Go.bits .xor .u32 x (bt s i)):=xor_u32 hx ⟨hb.1,by omega⟩
  have:=impl_sm_l0 s hs d (i + 1) (crcByte x (bt s i)) (by omega) (crcByte_u32 hx ⟨hb.1,by omega⟩)
  refine (impl_sm_l1 s _ i 8 _ (Nat.le_refl _) hx' (by rw [wid (by omega) (by omega)];exact this)).to fun k=>?_
  simp only [impl_SumMore.l0]
  rw [if_pos (by omega),if_pos (by omega),if_pos (by omega),show bt s (i : Int) % 4294967296 = bt s i by omega]
  rfl
theorem impl_sm (x : Int) (s : ByteArray) (hs : s.size ≤ 140737488351232) (hx : U32 x) : Ev (fun k=>impl_SumMore.f k x s) (crcL x (bl s)):=impl_sm_l0 s hs s.size 0 x (by omega) hx

theorem iSumOf (s : ByteArray) (hs : s.size ≤ 140737488351232) : Ev (fun k=>impl_SumOf.f k s) (sumB s):=by
 unfold impl_SumOf.f
 exact (impl_sm _ s hs u32_top).bind (Ev.now _)

theorem iEndsPage (s : ByteArray) (hs : s.size ≤ 140737488351232) : Ev (fun k=>impl_EndsPage.f k s) (Int.tmod (sumB s) 4 == 0):=by
 unfold impl_EndsPage.f
 exact (iSumOf s hs).bind (Ev.now _)

/-! Items in groups -/
def endsI (kind : Int) (x : S71) : Bool:=decide (kind = 1) && (Int.tmod (sumB x.f0) 4 == 0)
def sumI (kind : Int) (l : List S71) : Int:=(l.map (szI kind)).sum
theorem sumI_app (kind : Int) (l m : List S71) : sumI kind (l ++ m) = sumI kind l + sumI kind m:=by unfold sumI;rw [List.map_append,List.sum_append]
theorem sumI_one (kind : Int) (x : S71) : sumI kind [x] = szI kind x:=by unfold sumI;simp
theorem sumI_bd (kind : Int) : ∀ l : List S71,0 ≤ sumI kind l ∧ sumI kind l ≤ 18000 * l.length
 | []=>by simp [sumI]
 | x :: l=>by
  have h:=szI_bd kind x
  have ih:=sumI_bd kind l
  have e : sumI kind (x :: l) = szI kind x + sumI kind l:=by unfold sumI;simp
  rw [e,List.length_cons]
  omega
def cutP (kind : Int) : List S71 → List S71 → List (List S71)
 | g,[]=>if g.length > 0 then [g] else []
 | g,x :: l=>if g.length > 0 ∧ sumI kind g + szI kind x > 54 then g :: (if endsI kind x = true then [x] :: cutP kind [] l else cutP kind [x] l) else (if endsI kind x = true then (g ++ [x]) :: cutP kind [] l else cutP kind (g ++ [x]) l)
def okG (kind : Int) (g : List S71) : Prop:=g.length > 0 ∧ (g.length > 1 → sumI kind g ≤ 54)
theorem cutP_ok (kind : Int) : ∀ (l g : List S71),(g.length > 1 → sumI kind g ≤ 54) → (cutP kind g l).flatten = g ++ l ∧ ∀ h ∈ cutP kind g l,okG kind h
 | [],g,hg=>by
  unfold cutP
  by_cases c : g.length > 0
  ·rw [if_pos c]
   exact ⟨by simp,fun h hh=>by rw [List.mem_singleton.1 hh];exact ⟨c,hg⟩⟩
  rw [if_neg c]
  have : g = []:=List.length_eq_zero_iff.1 (by omega)
  subst this
  exact ⟨rfl,fun h hh=>by simp at hh⟩
 | x :: l,g,hg=>by
  have i0:=cutP_ok kind l [] (fun h=>by simp at h)
  have i1:=cutP_ok kind l [x] (fun h=>by simp at h)
  unfold cutP
  by_cases c : g.length > 0 ∧ sumI kind g + szI kind x > 54
  ·rw [if_pos c]
   by_cases e : endsI kind x = true
   ·rw [if_pos e]
    refine ⟨by simp only [List.flatten_cons];rw [i0.1];simp,fun h hh=>?_⟩
    rcases List.mem_cons.1 hh with rfl|hh
    ·exact ⟨c.1,hg⟩
    rcases List.mem_cons.1 hh with rfl|hh
    ·exact ⟨by simp,fun h=>by simp at h⟩
    exact i0.2 h hh
   rw [if_neg e]
   refine ⟨by simp only [List.flatten_cons];rw [i1.1];simp,fun h hh=>?_⟩
   rcases List.mem_cons.1 hh with rfl|hh
   ·exact ⟨c.1,hg⟩
   exact i1.2 h hh
  rw [if_neg c]
  have hx : (g ++ [x]).length > 1 → sumI kind (g ++ [x]) ≤ 54:=fun h=>by
   rw [sumI_app,sumI_one]
   have : g.length > 0:=by rw [List.length_append] at h;simp at h;omega
   omega
  by_cases e : endsI kind x = true
  ·rw [if_pos e]
   refine ⟨by simp only [List.flatten_cons];rw [i0.1];simp,fun h hh=>?_⟩
   rcases List.mem_cons.1 hh with rfl|hh
   ·exact ⟨by rw [List.length_append];simp,hx⟩
   exact i0.2 h hh
  rw [if_neg e]
  have i2:=cutP_ok kind l (g ++ [x]) hx
  exact ⟨by rw [i2.1];simp,i2.2⟩
def OkI (x : S71) : Prop:=x.f0.size ≤ 8000 ∧ x.f1.size ≤ 8000
theorem iEnds (kind : Int) (x : S71) (hx : OkI x) {α : Type} {A B : Nat → Option α} {r : α} (hA : endsI kind x = true → Ev A r) (hB : ¬ endsI kind x = true → Ev B r) :
  Ev (fun k=>if kind = 1 then (impl_EndsPage.f k x.f0).bind fun t=>if t = true then A k else B k else B k) r:=by
 by_cases c : kind = 1
 ·refine Ev.ifp c ((iEndsPage x.f0 (by have:=hx.1;omega)).bind ?_)
  by_cases e : (Int.tmod (sumB x.f0) 4 == 0) = true
  ·exact Ev.ifp e (hA (by unfold endsI;rw [decide_eq_true c,e];rfl))
  exact Ev.ifn e (hB (by unfold endsI;rw [decide_eq_true c,Bool.true_and];exact e))
 exact Ev.ifn c (hB (by unfold endsI;rw [decide_eq_false c];simp))
theorem iCut_go (kind : Int) (L : List S71) (hL : L.length ≤ 1000000) (hO : ∀ x ∈ L,OkI x) : ∀ (d i : Nat) (out : List (List S71)) (g : List S71),i + d = L.length → out.length + g.length ≤ i →
  Ev (fun k=>impl_CutItems.l0 k kind out g (sumI kind g) L (L.length : Int) (i : Int)) (out ++ cutP kind g (L.drop i))
 | 0,i,out,g,hi,ho=>by
  rw [List.drop_of_length_le (by omega),cutP]
  by_cases c : g.length > 0
  ·rw [if_pos c]
   refine (Ev.now _).to fun k=>?_
   simp only [impl_CutItems.l0]
   rw [if_neg (by omega),if_pos (by omega),if_pos (by omega)]
  rw [if_neg c,List.append_nil]
  refine (Ev.now _).to fun k=>?_
  simp only [impl_CutItems.l0]
  rw [if_neg (by omega),if_neg (by omega)]
 | d + 1,i,out,g,hi,ho=>by
  have hlt : i < L.length:=by omega
  have hri:=ri_Item hlt
  have hx:=hO L[i] (List.getElem_mem hlt)
  have hsz:=szI_bd kind L[i]
  have hsg:=sumI_bd kind g
  have iz0:=fun o (h : o.length ≤ i + 1)=>iCut_go kind L hL hO d (i + 1) o [] (by omega) (by simpa using h)
  have e0 : sumI kind [] = 0:=rfl
  have i1:=fun o (h : o.length ≤ i)=>iCut_go kind L hL hO d (i + 1) o [L[i]] (by omega) (by simpa using h)
  have i2:=fun o (h : o.length + g.length ≤ i)=>iCut_go kind L hL hO d (i + 1) o (g ++ [L[i]]) (by omega) (by rw [List.length_append];simp;omega)
  have w : qo (wrap64 ((i : Int) + 1) = ((i + 1 : Nat) : Int)):=⟨by rw [wid (by omega) (by omega)];rfl⟩
  have wz : qo (wrap64 (sumI kind g + szI kind L[i]) = sumI kind g + szI kind L[i]):=⟨wid (by omega) (by omega)⟩
  have w0 : qo (wrap64 (0 + szI kind L[i]) = szI kind L[i]):=⟨by rw [Int.zero_add];exact wid (by omega) (by omega)⟩
  rw [e0] at iz0
  rw [sumI_one] at i1
  rw [sumI_app,sumI_one] at i2
  rw [List.drop_eq_getElem_cons hlt,cutP]
  have hj : Ev (fun k=>impl_CutItems.j1 k kind out g (sumI kind g) (szI kind L[i]) L (L.length : Int) (i : Int) (decide (g.length > 0 ∧ sumI kind g + szI kind L[i] > 54)) L[i].f0 L[i].f1 L[i].f2) (out ++ (if g.length > 0 ∧ sumI kind g + szI kind L[i] > 54 then g :: (if endsI kind L[i] = true then [L[i]] :: cutP kind [] (L.drop (i + 1)) else cutP kind [L[i]] (L.drop (i + 1))) else (if endsI kind L[i] = true then (g ++ [L[i]]) :: cutP kind [] (L.drop (i + 1)) else cutP kind (g ++ [L[i]]) (L.drop (i + 1))))):=by
   by_cases c : g.length > 0 ∧ sumI kind g + szI kind L[i] > 54
   ·rw [if_pos c,decide_eq_true c]
    refine Ev.to (f:=fun k=>if kind = 1 then (impl_EndsPage.f k L[i].f0).bind fun t=>if t = true then impl_CutItems.l0 k kind ((out ++ [g]) ++ [[L[i]]]) [] 0 L (L.length : Int) ((i + 1 : Nat) : Int) else impl_CutItems.l0 k kind (out ++ [g]) [L[i]] (szI kind L[i]) L (L.length : Int) ((i + 1 : Nat) : Int) else impl_CutItems.l0 k kind (out ++ [g]) [L[i]] (szI kind L[i]) L (L.length : Int) ((i + 1 : Nat) : Int)) (iEnds kind L[i] hx (fun e=>?_) (fun e=>?_)) fun k=>?_
    ·rw [if_pos e]
     exact Ev.ofEq (iz0 _ (by simp;omega)) (by simp)
    ·rw [if_neg e]
     exact Ev.ofEq (i1 _ (by simp;omega)) (by simp)
    simp only [impl_CutItems.j1,if_true,w.out,w0.out,Option.bind_some,List.nil_append]
    rw [if_pos (by omega),if_pos (by simp)]
    by_cases c1 : kind = 1
    ·simp only [if_pos c1]
     congr 1
     funext t
     split
     ·rw [if_pos (by simp;omega)]
     rfl
    simp only [if_neg c1]
   rw [if_neg c,decide_eq_false c]
   refine Ev.to (f:=fun k=>if kind = 1 then (impl_EndsPage.f k L[i].f0).bind fun t=>if t = true then impl_CutItems.l0 k kind (out ++ [g ++ [L[i]]]) [] 0 L (L.length : Int) ((i + 1 : Nat) : Int) else impl_CutItems.l0 k kind out (g ++ [L[i]]) (sumI kind g + szI kind L[i]) L (L.length : Int) ((i + 1 : Nat) : Int) else impl_CutItems.l0 k kind out (g ++ [L[i]]) (sumI kind g + szI kind L[i]) L (L.length : Int) ((i + 1 : Nat) : Int)) (iEnds kind L[i] hx (fun e=>?_) (fun e=>?_)) fun k=>?_
   ·rw [if_pos e]
    exact Ev.ofEq (iz0 _ (by simp;omega)) (by simp)
   ·rw [if_neg e]
    exact Ev.ofEq (i2 _ (by omega)) (by simp)
   simp only [impl_CutItems.j1,Bool.false_eq_true,if_false,w.out,wz.out,Option.bind_some]
   rw [if_pos (by omega)]
   by_cases c1 : kind = 1
   ·simp only [if_pos c1]
    congr 1
    funext t
    split
    ·rw [if_pos (by omega)]
    rfl
   simp only [if_neg c1]
  refine Ev.to (f:=fun k=>(impl_ItemSize.f k kind L[i].f0 L[i].f1 L[i].f2).bind fun t=>if (g.length : Int) > 0 then impl_CutItems.j1 k kind out g (sumI kind g) t L (L.length : Int) (i : Int) (decide (wrap64 (sumI kind g + t) > 54)) L[i].f0 L[i].f1 L[i].f2 else impl_CutItems.j1 k kind out g (sumI kind g) t L (L.length : Int) (i : Int) false L[i].f0 L[i].f1 L[i].f2) ((iItemSize kind L[i] (by have:=hx.1;omega) (by have:=hx.2;omega)).bind ?_) fun k=>?_
  ·by_cases c : g.length > 0
   ·refine Ev.ifp (by omega) ?_
    rw [show decide (g.length > 0 ∧ sumI kind g + szI kind L[i] > 54) = decide (sumI kind g + szI kind L[i] > 54) from by rw [decide_eq_decide];omega] at hj
    rw [wz.out]
    exact hj
   refine Ev.ifn (by omega) ?_
   rw [show decide (g.length > 0 ∧ sumI kind g + szI kind L[i] > 54) = false from decide_eq_false (by omega)] at hj
   exact hj
  simp only [impl_CutItems.l0]
  rw [if_pos (by omega),if_pos (by omega),if_pos (by omega),hri]
theorem iCutItems (kind : Int) (L : List S71) (hL : L.length ≤ 1000000) (hO : ∀ x ∈ L,OkI x) : Ev (fun k=>impl_CutItems.f k kind L) (cutP kind [] L):=by
 unfold impl_CutItems.f
 have:=iCut_go kind L hL hO L.length 0 [] [] (by omega) (by simp)
 rw [List.drop_zero,List.nil_append] at this
 exact this

theorem iSealed (s : ByteArray) (hs : s.size ≤ 140737488351232) : Ev (fun k=>impl_Sealed.f k s) (pSealed s):=by
 unfold impl_Sealed.f pSealed
 by_cases h : s.size > 8000
 ·rw [if_pos h]
  simp only [if_pos (show (s.size : Int) > 8000 by omega)]
  exact Ev.now _
 rw [if_neg h]
 simp only [if_neg (show ¬ (s.size : Int) > 8000 by omega)]
 refine (iSumOf s hs).bind ?_
 simp only [Option.bind_some]
 exact Ev.same (if_pos (by rw [str_len];show s.size + 4 ≤ _;omega))

theorem spec_sm_l1 (s : ByteArray) (i : Int) {r : Int} : ∀ (n : Nat) (x : Int),n ≤ 8 → U32 x → Ev (fun k=>spec_SumMore.l0 k (crcN n x) s (wrap64 (i + 1))) r → Ev (fun k=>spec_SumMore.l1 k x s i (8 - (n : Int))) r
 | 0,x,_,_,h=>h.to fun k=>by simp only [spec_SumMore.l1];rw [if_neg (by omega)];rfl
 | n + 1,x,hn,hx,h=>by
  have h1:=hx.1
  have h2:=hx.2
  refine (spec_sm_l1 s i n (crcBit x) (by omega) (crcBit_u32 hx) h).to fun k=>?_
  simp only [spec_SumMore.l1]
  rw [if_pos (by omega),tmod_pos h1,tdiv_pos h1,wid (by omega) (by omega),show (x / 2) % 4294967296 = x / 2 by omega,show (8 - ((n + 1 : Nat) : Int) + 1) = 8 - (n : Int) by omega]
  unfold crcBit
  by_cases hb : x % 2 = 1
  ·rw [if_pos hb,if_pos hb]
  rw [if_neg hb,if_neg hb]
theorem spec_sm_l0 (s : ByteArray) (hs : s.size ≤ 140737488351232) : ∀ (d i : Nat) (x : Int),i + d = s.size → U32 x → Ev (fun k=>spec_SumMore.l0 k x s (i : Int)) (crcL x ((bl s).drop i))
 | 0,i,x,hi,_=>by
  refine (Ev.now _).to fun k=>?_
  simp only [spec_SumMore.l0]
  rw [if_neg (by omega),bl_end (by omega)]
  rfl
 | d + 1,i,x,hi,hx=>by
  have hb:=bt_range s (i : Int)
  rw [bl_cons (by omega),crcL_cons]
  have hx' : U32 (Go.bits .xor .u32 x (bt s i)):=xor_u32 hx ⟨hb.1,by omega⟩
  have:=spec_sm_l0 s hs d (i + 1) (crcByte x (bt s i)) (by omega) (crcByte_u32 hx ⟨hb.1,by omega⟩)
  refine (spec_sm_l1 s i 8 _ (Nat.le_refl _) hx' (by rw [wid (by omega) (by omega)];exact this)).to fun k=>?_
  simp only [spec_SumMore.l0]
  rw [if_pos (by omega),if_pos (by omega),show bt s (i : Int) % 4294967296 = bt s i by omega]
  rfl
theorem spec_sm (x : Int) (s : ByteArray) (hs : s.size ≤ 140737488351232) (hx : U32 x) : Ev (fun k=>spec_SumMore.f k x s) (crcL x (bl s)):=spec_sm_l0 s hs s.size 0 x (by omega) hx

theorem sSumOf (s : ByteArray) (hs : s.size ≤ 140737488351232) : Ev (fun k=>spec_SumOf.f k s) (sumB s):=by
 unfold spec_SumOf.f
 exact (spec_sm _ s hs u32_top).bind (Ev.now _)

theorem sSealed (s : ByteArray) (hs : s.size ≤ 140737488351232) : Ev (fun k=>spec_Sealed.f k s) (pSealed s):=by
 unfold spec_Sealed.f pSealed
 by_cases h : s.size > 8000
 ·rw [if_pos h]
  simp only [if_pos (show (s.size : Int) > 8000 by omega)]
  exact Ev.now _
 rw [if_neg h]
 simp only [if_neg (show ¬ (s.size : Int) > 8000 by omega)]
 refine (sSumOf s hs).bind ?_
 simp only [spec_l02Four.f,Option.bind_some]
 exact Ev.same (if_pos (by rw [str_len];show s.size + 4 ≤ _;omega))

/-! A page's text -/
def shT (s : ByteArray) : ByteArray:=strOfNums (varB s.size) ++ s
def itG (kind : Int) (prev : Option ByteArray) (x : S71) : Bool :=
 decide (¬ x.f0.toList = []) && ((match prev with|none=>true|some p=>Op.bytesLess p.toList x.f0.toList) && (if kind = 1 then decide (x.f2 = 0) else decide (x.f1.toList = [] ∧ 0 ≤ x.f2 ∧ x.f2 ≤ 399)))
def txI (kind : Int) (x : S71) : ByteArray:=shT x.f0 ++ (if kind = 1 then shT x.f1 else strOfNums (varB x.f2.toNat))
def szT (kind : Int) (x : S71) : Int:=((shT x.f0).size : Int) + (if kind = 1 then ((shT x.f1).size : Int) else (pVarText x.f2).1.size)
def sumT (kind : Int) (l : List S71) : Int:=(l.map (szT kind)).sum
def noText : ByteArray × Bool:=(⟨#[]⟩,false)
def spL (kind : Int) : Option ByteArray → ByteArray → List S71 → ByteArray × Bool
 | _,acc,[]=>pSealed acc
 | prev,acc,x :: l=>if itG kind prev x = true then spL kind (some x.f0) (acc ++ txI kind x) l else noText
def imL (kind : Int) : Option ByteArray → ByteArray → Int → List S71 → ByteArray × Bool
 | _,acc,z,[]=>if z > 54 then noText else pSealed acc
 | prev,acc,z,x :: l=>if itG kind prev x = true ∧ x.f0.size ≤ 54 ∧ x.f1.size ≤ 54 then imL kind (some x.f0) (acc ++ txI kind x) (z + szT kind x) l else noText
theorem varB_lenB {n : Nat} (h : n ≤ 1048576) : (varB n).length ≤ 5:=varB_len5 (by omega)
theorem shT_size (s : ByteArray) : (shT s).size = (varB s.size).length + s.size:=by unfold shT;rw [ByteArray.size_append,str_len]
theorem shT_lo (s : ByteArray) : s.size + 1 ≤ (shT s).size:=by rw [shT_size];have:=varB_pos s.size;omega
theorem shT_hi {s : ByteArray} (h : s.size ≤ 1048576) : (shT s).size ≤ 1048581:=by rw [shT_size];have:=varB_lenB h;omega
theorem szT_lo (kind : Int) (x : S71) : (x.f0.size : Int) + 1 ≤ szT kind x:=by
 have:=shT_lo x.f0
 unfold szT
 split <;> omega
theorem szT_lo1 (x : S71) : (x.f1.size : Int) + 1 ≤ szT 1 x:=by
 have:=shT_lo x.f1
 unfold szT
 rw [if_pos rfl]
 omega
theorem szT_hi (kind : Int) (x : S71) (h0 : x.f0.size ≤ 1048576) (h1 : x.f1.size ≤ 1048576) : szT kind x ≤ 2097162:=by
 have a:=shT_hi h0
 have b:=shT_hi h1
 have c:=pVar_size x.f2
 unfold szT
 split <;> omega
theorem sumT_cons (kind : Int) (x : S71) (l : List S71) : sumT kind (x :: l) = szT kind x + sumT kind l:=by unfold sumT;simp
theorem sumT_lo (kind : Int) : ∀ l : List S71,(l.length : Int) ≤ sumT kind l
 | []=>by simp [sumT]
 | x :: l=>by
  have ih:=sumT_lo kind l
  have:=szT_lo kind x
  rw [sumT_cons,List.length_cons]
  omega
theorem tl_nil {s : ByteArray} (h : s.toList = []) : s.size = 0:=by
 rw [ByteArray.toList_eq] at h
 have : s.data.toList.length = 0:=by rw [h];rfl
 exact this
theorem itG_inner {kind : Int} {prev : Option ByteArray} {x : S71} (h : itG kind prev x = true) (hk : ¬ kind = 1) : x.f1.toList = [] ∧ 0 ≤ x.f2 ∧ x.f2 ≤ 399:=by
 unfold itG at h
 rw [if_neg hk] at h
 simp only [Bool.and_eq_true,decide_eq_true_eq] at h
 exact h.2.2
/-- Both ways to count come to the same. -/
theorem imL_eq (kind : Int) : ∀ (l : List S71) (prev : Option ByteArray) (acc : ByteArray) (z : Int),0 ≤ z → imL kind prev acc z l = if z + sumT kind l > 54 then noText else spL kind prev acc l
 | [],prev,acc,z,hz=>by unfold imL spL sumT;simp
 | x :: l,prev,acc,z,hz=>by
  have lo:=szT_lo kind x
  have hs:=sumT_lo kind l
  rw [imL,spL,sumT_cons]
  by_cases h : itG kind prev x = true ∧ x.f0.size ≤ 54 ∧ x.f1.size ≤ 54
  ·rw [if_pos h,if_pos h.1,imL_eq kind l (some x.f0) (acc ++ txI kind x) (z + szT kind x) (by omega),Int.add_assoc]
  rw [if_neg h]
  by_cases c : z + (szT kind x + sumT kind l) > 54
  ·rw [if_pos c]
  rw [if_neg c,if_neg]
  intro g
  apply h
  refine ⟨g,by omega,?_⟩
  by_cases hk : kind = 1
  ·subst hk
   have:=szT_lo1 x
   omega
  rw [tl_nil (itG_inner g hk).1]
  omega
def headP (kind : Int) (n : Nat) : ByteArray:=strOfNums [kind % 256] ++ strOfNums (varB n)
def pPage (kind : Int) (l : List S71) : ByteArray × Bool:=if (kind = 1 ∨ kind = 2) ∧ l ≠ [] ∧ ¬ sumT kind l > 54 then spL kind none (headP kind l.length) l else noText
def OkIt (x : S71) : Prop:=x.f0.size ≤ 1048576 ∧ x.f1.size ≤ 1048576
def prevAt (l : List S71) (i : Nat) : Option ByteArray:=if i = 0 then none else (l[i - 1]?).map fun x=>x.f0
theorem prevAt_succ {l : List S71} {i : Nat} (h : i < l.length) : prevAt l (i + 1) = some l[i].f0:=by
 unfold prevAt
 rw [if_neg (by omega),Nat.add_sub_cancel,List.getElem?_eq_getElem h]
 rfl
theorem txI_size (kind : Int) (x : S71) (h : OkIt x) (hk : kind = 1 ∨ 0 ≤ x.f2 ∧ x.f2 ≤ 399) : (txI kind x).size ≤ 2097162:=by
 have a:=shT_hi h.1
 have b:=shT_hi h.2
 unfold txI
 rw [ByteArray.size_append]
 split
 ·omega
 rename_i hn
 rw [str_len]
 have:=varB_lenB (n:=x.f2.toNat) (by omega)
 omega
theorem headP_size (kind : Int) {n : Nat} (h : n ≤ 1048576) : (headP kind n).size ≤ 6:=by
 unfold headP
 rw [ByteArray.size_append,str_len,str_len]
 have:=varB_lenB h
 simp only [List.length_singleton]
 omega

theorem sShT (s : ByteArray) (h : s.size ≤ 1048576) : Ev (fun k=>spec_l04Short.f k s) (shT s):=by
 unfold spec_l04Short.f
 refine (l01Var_ev s.size (by omega)).bind ?_
 have hl:=varB_lenB (n:=s.size) (by omega)
 exact Ev.ifp (by rw [str_len];omega) (Ev.same rfl)
theorem sItemSizeT (kind : Int) (x : S71) (hk : kind = 1 ∨ kind = 2) (h : OkIt x) : Ev (fun k=>spec_ItemSize.f k kind x.f0 x.f1 x.f2) (szT kind x):=by
 have b0:=shT_hi h.1
 have b1:=shT_hi h.2
 have b2:=pVar_size x.f2
 unfold spec_ItemSize.f szT
 rcases hk with rfl|rfl
 ·refine Ev.ifp rfl ((sShT x.f0 h.1).bind ((sShT x.f1 h.2).bind (Ev.same ?_)))
  rw [wid (by omega) (by omega),if_pos rfl]
 refine Ev.ifn (by decide) (Ev.ifp rfl ((sVarText x.f2).bind ?_))
 rw [if_neg (by decide)]
 by_cases hv : 0 ≤ x.f2 ∧ x.f2 ≤ 1000000000
 ·have e : pVarText x.f2 = (strOfNums (varB x.f2.toNat),true):=by unfold pVarText;rw [if_pos hv]
  rw [e] at b2 ⊢
  refine Ev.ifp rfl ((sShT x.f0 h.1).bind (Ev.same ?_))
  simp only at b2 ⊢
  rw [wid (by omega) (by omega)]
 have e : pVarText x.f2 = (⟨#[]⟩,false):=by unfold pVarText;rw [if_neg hv]
 rw [e]
 refine Ev.ifn (by decide) ((sShT x.f0 h.1).bind (Ev.same ?_))
 have : (⟨#[]⟩ : ByteArray).size = 0:=rfl
 simp only [this]
 simp
theorem sSumT_go (kind : Int) (hk : kind = 1 ∨ kind = 2) (L : List S71) (hL : L.length ≤ 1048576) (hO : ∀ x ∈ L,OkIt x) : ∀ (d i : Nat) (z : Int),i + d = L.length → 0 ≤ z → z ≤ 2097162 * i → Ev (fun k=>spec_l04Sum.l0 k kind L z (i : Int)) (z + sumT kind (L.drop i))
 | 0,i,z,hi,h0,h1=>by
  rw [List.drop_of_length_le (by omega)]
  exact (Ev.now _).to fun k=>by simp only [spec_l04Sum.l0];rw [if_neg (by omega)];simp [sumT]
 | d + 1,i,z,hi,h0,h1=>by
  have hlt : i < L.length:=by omega
  have hx:=hO L[i] (List.getElem_mem hlt)
  have lo:=szT_lo kind L[i]
  have hi':=szT_hi kind L[i] hx.1 hx.2
  have ih:=sSumT_go kind hk L hL hO d (i + 1) (z + szT kind L[i]) (by omega) (by omega) (by omega)
  have w : qo (wrap64 ((i : Int) + 1) = ((i + 1 : Nat) : Int)):=⟨by rw [wid (by omega) (by omega)];rfl⟩
  have wz : qo (wrap64 (z + szT kind L[i]) = z + szT kind L[i]):=⟨wid (by omega) (by omega)⟩
  rw [List.drop_eq_getElem_cons hlt,sumT_cons,← Int.add_assoc]
  refine Ev.to (f:=fun k=>(spec_ItemSize.f k kind L[i].f0 L[i].f1 L[i].f2).bind fun t=>spec_l04Sum.l0 k kind L (wrap64 (z + t)) ((i + 1 : Nat) : Int)) ((sItemSizeT kind L[i] hk hx).bind ?_) fun k=>?_
  ·rw [wz.out];exact ih
  simp only [spec_l04Sum.l0]
  rw [if_pos (by omega),if_pos (by omega),ri_Item hlt,w.out]
theorem sSumT (kind : Int) (hk : kind = 1 ∨ kind = 2) (L : List S71) (hL : L.length ≤ 1048576) (hO : ∀ x ∈ L,OkIt x) : Ev (fun k=>spec_l04Sum.f k kind L) (sumT kind L):=by
 unfold spec_l04Sum.f
 have:=sSumT_go kind hk L hL hO L.length 0 0 (by omega) (by omega) (by omega)
 rw [List.drop_zero,Int.zero_add] at this
 exact this
theorem sPage_t (kind : Int) (L : List S71) (acc : ByteArray) (i : Int) (a b : ByteArray) (c : Int) : Ev (fun k=>spec_PageText.j2 k acc i true kind L a b c) noText:=(Ev.now _).to fun k=>by simp only [spec_PageText.j2,if_true];rfl
theorem sPage_l1 (L : List S71) (hL : L.length ≤ 1048576) (acc : ByteArray) (i : Nat) (hlt : i < L.length) (k : Nat) : spec_PageText.l0 (k + 1) acc (i : Int) 1 L = spec_PageText.j2 k acc (i : Int) (!itG 1 (prevAt L i) L[i]) 1 L L[i].f0 L[i].f1 L[i].f2:=by
 simp only [spec_PageText.l0]
 rw [if_pos (by omega),if_pos (by omega),ri_Item hlt]
 by_cases e : L[i].f0.toList = []
 ·rw [if_pos e,show itG 1 (prevAt L i) L[i] = false from by unfold itG;simp [e]];rfl
 rw [if_neg e]
 by_cases hi : i = 0
 ·rw [if_neg (by omega)]
  have hp : prevAt L i = none:=by unfold prevAt;rw [if_pos hi]
  rw [if_pos trivial]
  by_cases g : L[i].f2 = 0
  ·rw [if_pos g,if_neg (by decide),show itG 1 (prevAt L i) L[i] = true from by unfold itG;rw [hp];simp [e,g]];rfl
  rw [if_neg g,show itG 1 (prevAt L i) L[i] = false from by unfold itG;rw [hp];simp [g]];rfl
 have hj : i - 1 < L.length:=by omega
 have w : wrap64 ((i : Int) - 1) = ((i - 1 : Nat) : Int):=by rw [wid (by omega) (by omega)];omega
 have hp : prevAt L i = some L[i - 1].f0:=by unfold prevAt;rw [if_neg hi,List.getElem?_eq_getElem hj];rfl
 rw [if_pos (by omega),w];clear w
 rw [if_pos (by omega),if_pos (by omega),ri_Item hj]
 by_cases b : Op.bytesLess L[i - 1].f0.toList L[i].f0.toList = true
 ·rw [if_pos b,if_pos trivial]
  by_cases g : L[i].f2 = 0
  ·rw [if_pos g,if_neg (by decide),show itG 1 (prevAt L i) L[i] = true from by unfold itG;rw [hp];simp [e,g,b]];rfl
  rw [if_neg g,show itG 1 (prevAt L i) L[i] = false from by unfold itG;rw [hp];simp [g]];rfl
 rw [if_neg b,show itG 1 (prevAt L i) L[i] = false from by unfold itG;rw [hp];simp [b]];rfl
theorem sPage_in (L : List S71) (acc : ByteArray) (i : Int) (x : S71) (k : Nat) : (if x.f1.toList = ([] : List UInt8) then ((spec_l01In.f x.f2 0 399).bind fun t=>(spec_PageText.j2 k acc i (!t) 2 L x.f0 x.f1 x.f2)) else (spec_PageText.j2 k acc i true 2 L x.f0 x.f1 x.f2)) = spec_PageText.j2 k acc i (!decide (x.f1.toList = [] ∧ 0 ≤ x.f2 ∧ x.f2 ≤ 399)) 2 L x.f0 x.f1 x.f2:=by
 by_cases e : x.f1.toList = []
 ·rw [if_pos e,s_in];simp [e]
 rw [if_neg e];simp [e]
theorem sPage_l2 (L : List S71) (hL : L.length ≤ 1048576) (acc : ByteArray) (i : Nat) (hlt : i < L.length) (k : Nat) : spec_PageText.l0 (k + 1) acc (i : Int) 2 L = spec_PageText.j2 k acc (i : Int) (!itG 2 (prevAt L i) L[i]) 2 L L[i].f0 L[i].f1 L[i].f2:=by
 simp only [spec_PageText.l0]
 rw [if_pos (by omega),if_pos (by omega),ri_Item hlt]
 by_cases e : L[i].f0.toList = []
 ·rw [if_pos e,show itG 2 (prevAt L i) L[i] = false from by unfold itG;simp [e]];rfl
 rw [if_neg e]
 by_cases hi : i = 0
 ·rw [if_neg (by omega)]
  have hp : prevAt L i = none:=by unfold prevAt;rw [if_pos hi]
  rw [if_neg (by decide),if_pos trivial,sPage_in,show itG 2 (prevAt L i) L[i] = decide (L[i].f1.toList = [] ∧ 0 ≤ L[i].f2 ∧ L[i].f2 ≤ 399) from by unfold itG;rw [hp,decide_eq_true e,if_neg (by decide)];rfl]
 have hj : i - 1 < L.length:=by omega
 have w : wrap64 ((i : Int) - 1) = ((i - 1 : Nat) : Int):=by rw [wid (by omega) (by omega)];omega
 have hp : prevAt L i = some L[i - 1].f0:=by unfold prevAt;rw [if_neg hi,List.getElem?_eq_getElem hj];rfl
 rw [if_pos (by omega),w];clear w
 rw [if_pos (by omega),if_pos (by omega),ri_Item hj]
 by_cases b : Op.bytesLess L[i - 1].f0.toList L[i].f0.toList = true
 ·rw [if_pos b,if_neg (by decide),if_pos trivial,sPage_in,show itG 2 (prevAt L i) L[i] = decide (L[i].f1.toList = [] ∧ 0 ≤ L[i].f2 ∧ L[i].f2 ≤ 399) from by unfold itG;rw [hp,decide_eq_true e,if_neg (by decide)];simp only [b];rfl]
 rw [if_neg b,show itG 2 (prevAt L i) L[i] = false from by unfold itG;rw [hp];simp [b]];rfl
theorem sPage_j (kind : Int) (hk : kind = 1 ∨ kind = 2) (L : List S71) (acc : ByteArray) (i : Int) (x : S71) (hx : OkIt x) (hg : kind = 1 ∨ 0 ≤ x.f2 ∧ x.f2 ≤ 399) (ha : acc.size ≤ 100000000000000) {r : ByteArray × Bool} (h : Ev (fun k=>spec_PageText.l0 k (acc ++ txI kind x) (wrap64 (i + 1)) kind L) r) : Ev (fun k=>spec_PageText.j2 k acc i false kind L x.f0 x.f1 x.f2) r:=by
 have b0:=shT_hi hx.1
 have b1:=shT_hi hx.2
 refine Ev.to (f:=fun k=>(spec_l04Short.f k x.f0).bind fun t149=>if acc.size + t149.size ≤ 9223372036854775807 then (if kind = 1 then (spec_l04Short.f k x.f1).bind fun t150=>if (acc ++ t149).size + t150.size ≤ 9223372036854775807 then spec_PageText.l0 k ((acc ++ t149) ++ t150) (wrap64 (i + 1)) kind L else none else (spec_l01Var.f k x.f2).bind fun t151=>if (acc ++ t149).size + t151.size ≤ 9223372036854775807 then spec_PageText.l0 k ((acc ++ t149) ++ t151) (wrap64 (i + 1)) kind L else none) else none) ?_ fun k=>by simp only [spec_PageText.j2];rw [if_neg (by decide)]
 refine (sShT x.f0 hx.1).bind (Ev.ifp (by omega) ?_)
 by_cases c : kind = 1
 ·refine Ev.ifp c ((sShT x.f1 hx.2).bind (Ev.ifp (by rw [ByteArray.size_append];omega) ?_))
  have : txI kind x = shT x.f0 ++ shT x.f1:=by unfold txI;rw [if_pos c]
  rw [this,← ByteArray.append_assoc] at h
  exact h
 have hr:=hg.resolve_left c
 have ev:=l01Var_ev x.f2.toNat (by omega)
 rw [Int.toNat_of_nonneg hr.1] at ev
 have hl:=varB_lenB (n:=x.f2.toNat) (by omega)
 refine Ev.ifn c (ev.bind (Ev.ifp (by rw [ByteArray.size_append,str_len];omega) ?_))
 have : txI kind x = shT x.f0 ++ strOfNums (varB x.f2.toNat):=by unfold txI;rw [if_neg c]
 rw [this,← ByteArray.append_assoc] at h
 exact h
theorem sPage_go (kind : Int) (hk : kind = 1 ∨ kind = 2) (L : List S71) (hL : L.length ≤ 1048576) (hO : ∀ x ∈ L,OkIt x) : ∀ (d i : Nat) (acc : ByteArray),i + d = L.length → acc.size ≤ 100 + 2097162 * i → Ev (fun k=>spec_PageText.l0 k acc (i : Int) kind L) (spL kind (prevAt L i) acc (L.drop i))
 | 0,i,acc,hi,ha=>by
  rw [List.drop_of_length_le (by omega),spL]
  refine Ev.to (f:=fun k=>(spec_Sealed.f k acc).bind fun bt140=>some (bt140.1,bt140.2)) ((sSealed acc (by omega)).bind (Ev.now _)) fun k=>?_
  simp only [spec_PageText.l0]
  rw [if_neg (by omega)]
 | d + 1,i,acc,hi,ha=>by
  have hlt : i < L.length:=by omega
  have hx:=hO L[i] (List.getElem_mem hlt)
  have w : wrap64 ((i : Int) + 1) = ((i + 1 : Nat) : Int):=by rw [wid (by omega) (by omega)];rfl
  rw [List.drop_eq_getElem_cons hlt,spL]
  refine Ev.to (f:=fun k=>spec_PageText.j2 k acc (i : Int) (!itG kind (prevAt L i) L[i]) kind L L[i].f0 L[i].f1 L[i].f2) ?_ fun k=>by
   rcases hk with rfl|rfl
   ·exact sPage_l1 L hL acc i hlt k
   exact sPage_l2 L hL acc i hlt k
  by_cases g : itG kind (prevAt L i) L[i] = true
  ·rw [if_pos g,g]
   have hg : kind = 1 ∨ 0 ≤ L[i].f2 ∧ L[i].f2 ≤ 399:=by
    by_cases c : kind = 1
    ·exact .inl c
    exact .inr (itG_inner g c).2
   have hs:=txI_size kind L[i] hx hg
   have ih:=sPage_go kind hk L hL hO d (i + 1) (acc ++ txI kind L[i]) (by omega) (by rw [ByteArray.size_append];omega)
   rw [prevAt_succ hlt] at ih
   refine sPage_j kind hk L acc i L[i] hx hg (by omega) ?_
   rw [w]
   exact ih
  rw [if_neg g,show itG kind (prevAt L i) L[i] = false from by simpa using g]
  exact sPage_t kind L acc i _ _ _
theorem sPageText (kind : Int) (L : List S71) (hL : L.length ≤ 1048576) (hO : ∀ x ∈ L,OkIt x) : Ev (fun k=>spec_PageText.f k kind L) (pPage kind L):=by
 have bad : Ev (fun k=>spec_PageText.j0 k true kind L) noText:=(Ev.now _).to fun k=>by simp only [spec_PageText.j0,if_true];rfl
 unfold spec_PageText.f
 by_cases hk : kind = 1 ∨ kind = 2
 ·rw [s_in_t (by omega)]
  simp only [Option.bind_some,if_true]
  by_cases h0 : L = []
  ·have : pPage kind L = noText:=by unfold pPage;rw [if_neg (fun h=>h.2.1 h0)]
   rw [this]
   exact Ev.ifp (by rw [h0];rfl) bad
  have hp : L.length ≠ 0:=fun h=>h0 (List.length_eq_zero_iff.1 h)
  refine Ev.ifn (by omega) ?_
  have lo:=sumT_lo kind L
  by_cases h54 : (L.length : Int) > 54
  ·have : pPage kind L = noText:=by unfold pPage;rw [if_neg (fun h=>h.2.2 (by omega))]
   rw [this]
   exact Ev.ifp h54 bad
  refine Ev.ifn h54 ((sSumT kind hk L hL hO).bind ?_)
  by_cases hs : sumT kind L > 54
  ·have : pPage kind L = noText:=by unfold pPage;rw [if_neg (fun h=>h.2.2 hs)]
   rw [this,decide_eq_true hs]
   exact bad
  have : pPage kind L = spL kind none (headP kind L.length) L:=by unfold pPage;rw [if_pos ⟨hk,h0,hs⟩]
  rw [this,decide_eq_false hs]
  have hh:=headP_size kind hL
  have ih:=sPage_go kind hk L hL hO L.length 0 (headP kind L.length) (by omega) (by omega)
  rw [List.drop_zero,show prevAt L 0 = none from rfl] at ih
  have hv:=varB_lenB hL
  refine Ev.to (f:=fun k=>(spec_l01Var.f k (L.length : Int)).bind fun t139=>if (strOfNums [kind % 256]).size + t139.size ≤ 9223372036854775807 then spec_PageText.l0 k (strOfNums [kind % 256] ++ t139) 0 kind L else none) ((l01Var_ev L.length (by omega)).bind (Ev.ifp (by rw [str_len,str_len];simp only [List.length_singleton];omega) ih)) fun k=>?_
  simp only [spec_PageText.j0,Option.bind_some]
  rw [if_neg (by decide)]
 rw [s_in_f (by omega)]
 have : pPage kind L = noText:=by unfold pPage;rw [if_neg (fun h=>hk h.1)]
 rw [this]
 simp only [Option.bind_some,Bool.false_eq_true,if_false]
 exact bad

def kgP (kind : Int) (x : S71) : Bool:=if kind = 1 then decide (x.f2 = 0) else decide (x.f1.toList = [] ∧ 0 ≤ x.f2 ∧ x.f2 ≤ 399)
theorem i_itemOk (kind : Int) (x : S71) : impl_itemOk.f kind x.f0 x.f1 x.f2 = some (decide (¬ x.f0.toList = []) && kgP kind x):=by
 unfold impl_itemOk.f kgP
 by_cases e : x.f0.toList = []
 ·rw [if_pos e];simp [e]
 rw [if_neg e,decide_eq_true e,Bool.true_and]
 by_cases c : kind = 1
 ·rw [if_pos c,if_pos c]
  congr 1
 rw [if_neg c,if_neg c]
 by_cases g : x.f1.toList = []
 ·rw [if_pos g,i_in];simp [g]
 rw [if_neg g];simp [g]
theorem iPage_t (kind : Int) (L M : List S71) (acc : ByteArray) (z n i : Int) (a b : ByteArray) (c : Int) : Ev (fun k=>impl_PageText.j2 k acc z L n i true kind M a b c) noText:=(Ev.now _).to fun k=>by simp only [impl_PageText.j2,if_true];rfl
def smI (x : S71) : Bool:=decide (x.f0.size ≤ 54 ∧ x.f1.size ≤ 54)
theorem iPage_sm (L : List S71) (kind : Int) (acc : ByteArray) (z n i : Int) (x : S71) (k : Nat) : (if (x.f0.size : Int) > 54 then (impl_PageText.j2 k acc z L n i true kind L x.f0 x.f1 x.f2) else (impl_PageText.j2 k acc z L n i (decide ((x.f1.size : Int) > 54)) kind L x.f0 x.f1 x.f2)) = impl_PageText.j2 k acc z L n i (!smI x) kind L x.f0 x.f1 x.f2:=by
 unfold smI
 by_cases e : (x.f0.size : Int) > 54
 ·rw [if_pos e,decide_eq_false (by omega)];rfl
 rw [if_neg e]
 congr 1
 by_cases g : (x.f1.size : Int) > 54
 ·rw [decide_eq_true g,decide_eq_false (by omega)];rfl
 rw [decide_eq_false g,decide_eq_true (by omega)];rfl
theorem iPage_l (kind : Int) (L : List S71) (hL : L.length ≤ 1048576) (acc : ByteArray) (z : Int) (i : Nat) (hlt : i < L.length) (k : Nat) : impl_PageText.l0 (k + 1) acc z L (L.length : Int) (i : Int) kind L = impl_PageText.j2 k acc z L (L.length : Int) (i : Int) (!(itG kind (prevAt L i) L[i] && smI L[i])) kind L L[i].f0 L[i].f1 L[i].f2:=by
 simp only [impl_PageText.l0]
 rw [if_pos (by omega),if_pos (by omega),if_pos (by omega),ri_Item hlt,i_itemOk]
 simp only [Option.bind_some]
 by_cases e : (decide (¬ L[i].f0.toList = []) && kgP kind L[i]) = true
 ·rw [if_pos e]
  have e1 : decide (¬ L[i].f0.toList = []) = true:=(Bool.and_eq_true _ _ ▸ e).1
  have e2 : kgP kind L[i] = true:=(Bool.and_eq_true _ _ ▸ e).2
  by_cases hi : i = 0
  ·have hp : prevAt L i = none:=by unfold prevAt;rw [if_pos hi]
   have g : itG kind (prevAt L i) L[i] = true:=by unfold itG;rw [hp,e1];unfold kgP at e2;rw [e2];rfl
   rw [if_neg (by omega),iPage_sm,g,Bool.true_and]
  have hj : i - 1 < L.length:=by omega
  have w : wrap64 ((i : Int) - 1) = ((i - 1 : Nat) : Int):=by rw [wid (by omega) (by omega)];omega
  have hp : prevAt L i = some L[i - 1].f0:=by unfold prevAt;rw [if_neg hi,List.getElem?_eq_getElem hj];rfl
  rw [if_pos (by omega),w];clear w
  rw [if_pos (by omega),if_pos (by omega),ri_Item hj]
  by_cases b : Op.bytesLess L[i - 1].f0.toList L[i].f0.toList = true
  ·have g : itG kind (prevAt L i) L[i] = true:=by unfold itG;rw [hp,e1];unfold kgP at e2;rw [e2];simp only [b];rfl
   rw [if_pos b,iPage_sm,g,Bool.true_and]
  have g : itG kind (prevAt L i) L[i] = false:=by unfold itG;rw [hp];simp [b]
  rw [if_neg b,g];rfl
 rw [if_neg e]
 have g : itG kind (prevAt L i) L[i] = false:=by
  unfold itG
  unfold kgP at e
  generalize (if kind = 1 then decide (L[i].f2 = 0) else decide (L[i].f1.toList = [] ∧ 0 ≤ L[i].f2 ∧ L[i].f2 ≤ 399)) = q at e ⊢
  generalize decide (¬ L[i].f0.toList = []) = p at e ⊢
  cases p <;> cases q <;> simp_all
 rw [g];rfl
theorem pShort_small {s : ByteArray} (h : s.size ≤ 54) : (pShort s).1 = shT s:=by unfold pShort shT;rw [if_neg (by omega)]
theorem szI_small {kind : Int} {x : S71} (hk : kind = 1 ∨ kind = 2) (h0 : x.f0.size ≤ 54) (h1 : x.f1.size ≤ 54) : szI kind x = szT kind x:=by
 unfold szI szT
 rw [pShort_small h0,pShort_small h1]
 rcases hk with rfl|rfl
 ·rw [if_pos rfl,if_pos rfl]
 rw [if_neg (by decide),if_pos rfl,if_neg (by decide)]
theorem iPage_j (kind : Int) (hk : kind = 1 ∨ kind = 2) (L : List S71) (acc : ByteArray) (z n i : Int) (x : S71) (h0 : x.f0.size ≤ 54) (h1 : x.f1.size ≤ 54) (hg : kind = 1 ∨ 0 ≤ x.f2 ∧ x.f2 ≤ 399) (ha : acc.size ≤ 100000000000000) (hz0 : 0 ≤ z) (hz1 : z ≤ 100000000000000) {r : ByteArray × Bool} (h : Ev (fun k=>impl_PageText.l0 k (acc ++ txI kind x) (z + szT kind x) L n (wrap64 (i + 1)) kind L) r) : Ev (fun k=>impl_PageText.j2 k acc z L n i false kind L x.f0 x.f1 x.f2) r:=by
 have b0:=shT_hi (s:=x.f0) (by omega)
 have b1:=shT_hi (s:=x.f1) (by omega)
 have bz:=szI_bd kind x
 rw [← szI_small hk h0 h1] at h
 have w : qo (wrap64 (z + szI kind x) = z + szI kind x):=⟨wid (by omega) (by omega)⟩
 refine Ev.to (f:=fun k=>(impl_ItemSize.f k kind x.f0 x.f1 x.f2).bind fun t204=>(impl_ShortText.f k x.f0).bind fun bt205=>(impl_ShortText.f k x.f1).bind fun bt207=>if kind = 2 then (impl_VarText.f k x.f2).bind fun bt209=>if bt205.1.size + bt209.1.size ≤ 9223372036854775807 then (if acc.size + (bt205.1 ++ bt209.1).size ≤ 9223372036854775807 then impl_PageText.l0 k (acc ++ (bt205.1 ++ bt209.1)) (wrap64 (z + t204)) L n (wrap64 (i + 1)) kind L else none) else none else if bt205.1.size + bt207.1.size ≤ 9223372036854775807 then (if acc.size + (bt205.1 ++ bt207.1).size ≤ 9223372036854775807 then impl_PageText.l0 k (acc ++ (bt205.1 ++ bt207.1)) (wrap64 (z + t204)) L n (wrap64 (i + 1)) kind L else none) else none) ?_ fun k=>by simp only [impl_PageText.j2];rw [if_neg (by decide)]
 refine (iItemSize kind x (by omega) (by omega)).bind ((iShortText x.f0 (by omega)).bind ((iShortText x.f1 (by omega)).bind ?_))
 rw [w.out,pShort_small h0,pShort_small h1]
 rcases hk with c|c
 ·refine Ev.ifn (by omega) (Ev.ifp (by omega) (Ev.ifp (by rw [ByteArray.size_append];omega) ?_))
  have : txI kind x = shT x.f0 ++ shT x.f1:=by unfold txI;rw [if_pos c]
  rw [this] at h
  exact h
 have hr:=hg.resolve_left (by omega)
 have hl:=varB_lenB (n:=x.f2.toNat) (by omega)
 have e : (pVarText x.f2).1 = strOfNums (varB x.f2.toNat):=by unfold pVarText;rw [if_pos (by omega)]
 refine Ev.ifp c ((iVarText x.f2).bind ?_)
 rw [e]
 refine Ev.ifp (by rw [str_len];omega) (Ev.ifp (by rw [ByteArray.size_append,str_len];omega) ?_)
 have : txI kind x = shT x.f0 ++ strOfNums (varB x.f2.toNat):=by unfold txI;rw [if_neg (by omega)]
 rw [this] at h
 exact h
theorem iPage_go (kind : Int) (hk : kind = 1 ∨ kind = 2) (L : List S71) (hL : L.length ≤ 1048576) (hO : ∀ x ∈ L,OkIt x) : ∀ (d i : Nat) (acc : ByteArray) (z : Int),i + d = L.length → acc.size ≤ 100 + 2097162 * i → 0 ≤ z → z ≤ 2097162 * i → Ev (fun k=>impl_PageText.l0 k acc z L (L.length : Int) (i : Int) kind L) (imL kind (prevAt L i) acc z (L.drop i))
 | 0,i,acc,z,hi,ha,h0,h1=>by
  rw [List.drop_of_length_le (by omega),imL]
  refine Ev.to (f:=fun k=>if z > 54 then some noText else (impl_Sealed.f k acc).bind fun bt140=>some (bt140.1,bt140.2)) ?_ fun k=>by
   simp only [impl_PageText.l0]
   rw [if_neg (by omega)]
   rfl
  by_cases c : z > 54
  ·rw [if_pos c]
   exact Ev.ifp c (Ev.now _)
  rw [if_neg c]
  exact Ev.ifn c ((iSealed acc (by omega)).bind (Ev.now _))
 | d + 1,i,acc,z,hi,ha,h0,h1=>by
  have hlt : i < L.length:=by omega
  have hx:=hO L[i] (List.getElem_mem hlt)
  have w : wrap64 ((i : Int) + 1) = ((i + 1 : Nat) : Int):=by rw [wid (by omega) (by omega)];rfl
  rw [List.drop_eq_getElem_cons hlt,imL]
  refine Ev.to (f:=fun k=>impl_PageText.j2 k acc z L (L.length : Int) (i : Int) (!(itG kind (prevAt L i) L[i] && smI L[i])) kind L L[i].f0 L[i].f1 L[i].f2) ?_ fun k=>iPage_l kind L hL acc z i hlt k
  by_cases g : itG kind (prevAt L i) L[i] = true ∧ L[i].f0.size ≤ 54 ∧ L[i].f1.size ≤ 54
  ·rw [if_pos g,g.1,show smI L[i] = true from decide_eq_true g.2]
   have hg : kind = 1 ∨ 0 ≤ L[i].f2 ∧ L[i].f2 ≤ 399:=by
    by_cases c : kind = 1
    ·exact .inl c
    exact .inr (itG_inner g.1 c).2
   have hs:=txI_size kind L[i] hx hg
   have lo:=szT_lo kind L[i]
   have hi':=szT_hi kind L[i] hx.1 hx.2
   have ih:=iPage_go kind hk L hL hO d (i + 1) (acc ++ txI kind L[i]) (z + szT kind L[i]) (by omega) (by rw [ByteArray.size_append];omega) (by omega) (by omega)
   rw [prevAt_succ hlt] at ih
   refine iPage_j kind hk L acc z _ i L[i] g.2.1 g.2.2 hg (by omega) (by omega) (by omega) ?_
   rw [w]
   exact ih
  rw [if_neg g,show (itG kind (prevAt L i) L[i] && smI L[i]) = false from by
   unfold smI
   cases hh : itG kind (prevAt L i) L[i] with
   | false=>rfl
   | true=>rw [decide_eq_false (fun h=>g ⟨hh,h⟩)];rfl]
  exact iPage_t kind L L acc z _ i _ _ _
theorem iPageText (kind : Int) (L : List S71) (hL : L.length ≤ 1048576) (hO : ∀ x ∈ L,OkIt x) : Ev (fun k=>impl_PageText.f k kind L) (pPage kind L):=by
 have bad : Ev (fun k=>impl_PageText.j0 k true kind L) noText:=(Ev.now _).to fun k=>by simp only [impl_PageText.j0,if_true];rfl
 have main : (kind = 1 ∨ kind = 2) → Ev (fun k=>impl_PageText.j0 k ((L.length : Int) == 0) kind L) (pPage kind L):=by
  intro hk
  by_cases h0 : L = []
  ·have : pPage kind L = noText:=by unfold pPage;rw [if_neg (fun h=>h.2.1 h0)]
   rw [this,show ((L.length : Int) == 0) = true from by rw [h0];rfl]
   exact bad
  have hp : L.length ≠ 0:=fun h=>h0 (List.length_eq_zero_iff.1 h)
  rw [show ((L.length : Int) == 0) = false from beq_eq_false_iff_ne.mpr (by omega)]
  have : pPage kind L = imL kind none (headP kind L.length) 0 L:=by
   rw [imL_eq kind L none _ 0 (by omega),Int.zero_add]
   unfold pPage
   by_cases hs : sumT kind L > 54
   ·rw [if_neg (fun h=>h.2.2 hs),if_pos hs]
   rw [if_pos ⟨hk,h0,hs⟩,if_neg hs]
  rw [this]
  have hh:=headP_size kind hL
  have ih:=iPage_go kind hk L hL hO L.length 0 (headP kind L.length) 0 (by omega) (by omega) (by omega) (by omega)
  rw [List.drop_zero,show prevAt L 0 = none from rfl] at ih
  have hv:=varB_lenB hL
  have e : (pVarText (L.length : Int)).1 = strOfNums (varB L.length):=by unfold pVarText;rw [if_pos (by omega),Int.toNat_natCast]
  refine Ev.to (f:=fun k=>(impl_VarText.f k (L.length : Int)).bind fun t139=>if (strOfNums [kind % 256]).size + t139.1.size ≤ 9223372036854775807 then impl_PageText.l0 k (strOfNums [kind % 256] ++ t139.1) 0 L (L.length : Int) 0 kind L else none) ((iVarText (L.length : Int)).bind ?_) fun k=>?_
  ·rw [e]
   exact Ev.ifp (by rw [str_len,str_len];simp only [List.length_singleton];omega) ih
  simp only [impl_PageText.j0,Option.bind_some]
  rw [if_neg (by decide)]
 unfold impl_PageText.f
 by_cases h1 : kind = 1
 ·exact Ev.ifp h1 (main (.inl h1))
 by_cases h2 : kind = 2
 ·exact Ev.ifn h1 (Ev.ifp h2 (main (.inr h2)))
 have : pPage kind L = noText:=by unfold pPage;rw [if_neg (fun h=>by omega)]
 rw [this]
 exact Ev.ifn h1 (Ev.ifn h2 bad)

theorem sEndsPage (s : ByteArray) (hs : s.size ≤ 140737488351232) : Ev (fun k=>spec_EndsPage.f k s) (Int.tmod (sumB s) 4 == 0):=by
 unfold spec_EndsPage.f
 exact (sSumOf s hs).bind (Ev.now _)

def Sm (x : S71) : Prop:=x.f0.size ≤ 54 ∧ x.f1.size ≤ 54
theorem sEnds (kind : Int) (x : S71) (hx : Sm x) {α : Type} {A B : Nat → Option α} {r : α} (hA : endsI kind x = true → Ev A r) (hB : ¬ endsI kind x = true → Ev B r) :
  Ev (fun k=>if kind = 1 then (spec_EndsPage.f k x.f0).bind fun t=>if t = true then A k else B k else B k) r:=by
 by_cases c : kind = 1
 ·refine Ev.ifp c ((sEndsPage x.f0 (by have:=hx.1;omega)).bind ?_)
  by_cases e : (Int.tmod (sumB x.f0) 4 == 0) = true
  ·exact Ev.ifp e (hA (by unfold endsI;rw [decide_eq_true c,e];rfl))
  exact Ev.ifn e (hB (by unfold endsI;rw [decide_eq_true c,Bool.true_and];exact e))
 exact Ev.ifn c (hB (by unfold endsI;rw [decide_eq_false c];simp))
theorem sCut_go (kind : Int) (hk : kind = 1 ∨ kind = 2) (L : List S71) (hL : L.length ≤ 1000000) (hO : ∀ x ∈ L,Sm x) : ∀ (d i : Nat) (out : List (List S71)) (g : List S71),i + d = L.length → out.length + g.length ≤ i →
  Ev (fun k=>spec_CutItems.l0 k kind L out g (sumI kind g) (i : Int)) (out ++ cutP kind g (L.drop i))
 | 0,i,out,g,hi,ho=>by
  rw [List.drop_of_length_le (by omega),cutP]
  by_cases c : g.length > 0
  ·rw [if_pos c]
   refine (Ev.now _).to fun k=>?_
   simp only [spec_CutItems.l0]
   rw [if_neg (by omega),if_pos (by omega),if_pos (by omega)]
  rw [if_neg c,List.append_nil]
  refine (Ev.now _).to fun k=>?_
  simp only [spec_CutItems.l0]
  rw [if_neg (by omega),if_neg (by omega)]
 | d + 1,i,out,g,hi,ho=>by
  have hlt : i < L.length:=by omega
  have hri:=ri_Item hlt
  have hx:=hO L[i] (List.getElem_mem hlt)
  have hsz:=szI_bd kind L[i]
  have hsg:=sumI_bd kind g
  have iz0:=fun o (h : o.length ≤ i + 1)=>sCut_go kind hk L hL hO d (i + 1) o [] (by omega) (by simpa using h)
  have e0 : sumI kind [] = 0:=rfl
  have i1:=fun o (h : o.length ≤ i)=>sCut_go kind hk L hL hO d (i + 1) o [L[i]] (by omega) (by simpa using h)
  have i2:=fun o (h : o.length + g.length ≤ i)=>sCut_go kind hk L hL hO d (i + 1) o (g ++ [L[i]]) (by omega) (by rw [List.length_append];simp;omega)
  have w : qo (wrap64 ((i : Int) + 1) = ((i + 1 : Nat) : Int)):=⟨by rw [wid (by omega) (by omega)];rfl⟩
  have wz : qo (wrap64 (sumI kind g + szI kind L[i]) = sumI kind g + szI kind L[i]):=⟨wid (by omega) (by omega)⟩
  have w0 : qo (wrap64 (0 + szI kind L[i]) = szI kind L[i]):=⟨by rw [Int.zero_add];exact wid (by omega) (by omega)⟩
  rw [e0] at iz0
  rw [sumI_one] at i1
  rw [sumI_app,sumI_one] at i2
  rw [List.drop_eq_getElem_cons hlt,cutP]
  have hj : Ev (fun k=>spec_CutItems.j1 k kind L out g (sumI kind g) (i : Int) (szI kind L[i]) (decide (g.length > 0 ∧ sumI kind g + szI kind L[i] > 54))) (out ++ (if g.length > 0 ∧ sumI kind g + szI kind L[i] > 54 then g :: (if endsI kind L[i] = true then [L[i]] :: cutP kind [] (L.drop (i + 1)) else cutP kind [L[i]] (L.drop (i + 1))) else (if endsI kind L[i] = true then (g ++ [L[i]]) :: cutP kind [] (L.drop (i + 1)) else cutP kind (g ++ [L[i]]) (L.drop (i + 1))))):=by
   by_cases c : g.length > 0 ∧ sumI kind g + szI kind L[i] > 54
   ·rw [if_pos c,decide_eq_true c]
    refine Ev.to (f:=fun k=>if kind = 1 then (spec_EndsPage.f k L[i].f0).bind fun t=>if t = true then spec_CutItems.l0 k kind L ((out ++ [g]) ++ [[L[i]]]) [] 0 ((i + 1 : Nat) : Int) else spec_CutItems.l0 k kind L (out ++ [g]) [L[i]] (szI kind L[i]) ((i + 1 : Nat) : Int) else spec_CutItems.l0 k kind L (out ++ [g]) [L[i]] (szI kind L[i]) ((i + 1 : Nat) : Int)) (sEnds kind L[i] hx (fun e=>?_) (fun e=>?_)) fun k=>?_
    ·rw [if_pos e]
     exact Ev.ofEq (iz0 _ (by simp;omega)) (by simp)
    ·rw [if_neg e]
     exact Ev.ofEq (i1 _ (by simp;omega)) (by simp)
    simp only [spec_CutItems.j1,if_true,w.out,w0.out,Option.bind_some,List.nil_append,hri]
    rw [if_pos (by omega),if_pos (by omega),if_pos (by omega),if_pos (by simp)]
    by_cases c1 : kind = 1
    ·simp only [if_pos c1]
     congr 1
     funext t
     split
     ·rw [if_pos (by simp;omega)]
     rfl
    simp only [if_neg c1]
   rw [if_neg c,decide_eq_false c]
   refine Ev.to (f:=fun k=>if kind = 1 then (spec_EndsPage.f k L[i].f0).bind fun t=>if t = true then spec_CutItems.l0 k kind L (out ++ [g ++ [L[i]]]) [] 0 ((i + 1 : Nat) : Int) else spec_CutItems.l0 k kind L out (g ++ [L[i]]) (sumI kind g + szI kind L[i]) ((i + 1 : Nat) : Int) else spec_CutItems.l0 k kind L out (g ++ [L[i]]) (sumI kind g + szI kind L[i]) ((i + 1 : Nat) : Int)) (sEnds kind L[i] hx (fun e=>?_) (fun e=>?_)) fun k=>?_
   ·rw [if_pos e]
    exact Ev.ofEq (iz0 _ (by simp;omega)) (by simp)
   ·rw [if_neg e]
    exact Ev.ofEq (i2 _ (by omega)) (by simp)
   simp only [spec_CutItems.j1,Bool.false_eq_true,if_false,w.out,wz.out,Option.bind_some,hri]
   rw [if_pos (by omega),if_pos (by omega),if_pos (by omega)]
   by_cases c1 : kind = 1
   ·simp only [if_pos c1]
    congr 1
    funext t
    split
    ·rw [if_pos (by omega)]
    rfl
   simp only [if_neg c1]
  have hsz' : Ev (fun k=>spec_ItemSize.f k kind L[i].f0 L[i].f1 L[i].f2) (szI kind L[i]):=by
   rw [szI_small hk hx.1 hx.2]
   exact sItemSizeT kind L[i] hk ⟨by have:=hx.1;omega,by have:=hx.2;omega⟩
  refine Ev.to (f:=fun k=>(spec_ItemSize.f k kind L[i].f0 L[i].f1 L[i].f2).bind fun t=>if (g.length : Int) > 0 then spec_CutItems.j1 k kind L out g (sumI kind g) (i : Int) t (decide (wrap64 (sumI kind g + t) > 54)) else spec_CutItems.j1 k kind L out g (sumI kind g) (i : Int) t false) (hsz'.bind ?_) fun k=>?_
  ·by_cases c : g.length > 0
   ·refine Ev.ifp (by omega) ?_
    rw [show decide (g.length > 0 ∧ sumI kind g + szI kind L[i] > 54) = decide (sumI kind g + szI kind L[i] > 54) from by rw [decide_eq_decide];omega] at hj
    rw [wz.out]
    exact hj
   refine Ev.ifn (by omega) ?_
   rw [show decide (g.length > 0 ∧ sumI kind g + szI kind L[i] > 54) = false from decide_eq_false (by omega)] at hj
   exact hj
  simp only [spec_CutItems.l0]
  rw [if_pos (by omega),if_pos (by omega),hri]
theorem sCutItems (kind : Int) (hk : kind = 1 ∨ kind = 2) (L : List S71) (hL : L.length ≤ 1000000) (hO : ∀ x ∈ L,Sm x) : Ev (fun k=>spec_CutItems.f k kind L) (cutP kind [] L):=by
 unfold spec_CutItems.f
 have:=sCut_go kind hk L hL hO L.length 0 [] [] (by omega) (by simp)
 rw [List.drop_zero,List.nil_append] at this
 exact this

def inL (l : List Int) (x : Int) : Bool:=decide (x ∈ l)
theorem inL_cons (y : Int) (l : List Int) (x : Int) : inL (y :: l) x = if y = x then true else inL l x:=by
 unfold inL
 by_cases h : y = x
 ·rw [if_pos h];simp [h]
 rw [if_neg h,decide_eq_decide];simp [show ¬ x = y from fun e=>h e.symm]

/-- Numbers with one more, ascending where they were. -/
def insW (U : List Int) (x : Int) : List Int:=(U.filter (fun y=>decide (y < x)) ++ [x]) ++ U.filter (fun y=>decide (y > x))
theorem sWith_1 (U : List Int) (x : Int) (hU : U.length ≤ 1000000) : ∀ (d i : Nat) (acc : List Int),i + d = U.length → acc.length ≤ 2000000 + i → Ev (fun k=>spec_l05With.l1 k U x acc (i : Int)) (acc ++ (U.drop i).filter (fun y=>decide (y > x)))
 | 0,i,acc,hi,ha=>by
  rw [List.drop_of_length_le (by omega)]
  refine (Ev.now _).to fun k=>?_
  simp only [spec_l05With.l1]
  rw [if_neg (by omega)]
  simp
 | d + 1,i,acc,hi,ha=>by
  have hlt : i < U.length:=by omega
  have hr : rd U (i : Int) = U[i]:=by unfold rd;rw [Int.toNat_natCast,List.getD_eq_getElem?_getD,List.getElem?_eq_getElem hlt];rfl
  have w : wrap64 ((i : Int) + 1) = ((i + 1 : Nat) : Int):=by unfold wrap64;omega
  rw [List.drop_eq_getElem_cons hlt,List.filter_cons]
  by_cases c : U[i] > x
  ·rw [if_pos (decide_eq_true c)]
   refine Ev.ofEq ((sWith_1 U x hU d (i + 1) (acc ++ [U[i]]) (by omega) (by simp;omega)).to fun k=>?_) (by simp)
   simp only [spec_l05With.l1]
   rw [if_pos (by omega),if_pos (by omega),hr,if_pos c,if_pos (by omega),w]
  rw [if_neg (by simpa using c)]
  refine (sWith_1 U x hU d (i + 1) acc (by omega) (by omega)).to fun k=>?_
  simp only [spec_l05With.l1]
  rw [if_pos (by omega),if_pos (by omega),hr,if_neg c,w]
theorem sWith_0 (U : List Int) (x : Int) (hU : U.length ≤ 1000000) : ∀ (d i : Nat) (acc : List Int),i + d = U.length → acc.length ≤ i → Ev (fun k=>spec_l05With.l0 k U x acc (i : Int)) ((acc ++ (U.drop i).filter (fun y=>decide (y < x)) ++ [x]) ++ U.filter (fun y=>decide (y > x)))
 | 0,i,acc,hi,ha=>by
  rw [List.drop_of_length_le (by omega)]
  have h1:=sWith_1 U x hU U.length 0 (acc ++ [x]) (by omega) (by simp;omega)
  rw [List.drop_zero] at h1
  refine Ev.ofEq (h1.to fun k=>?_) (by simp)
  simp only [spec_l05With.l0]
  rw [if_neg (by omega),if_pos (by omega)]
  rfl
 | d + 1,i,acc,hi,ha=>by
  have hlt : i < U.length:=by omega
  have hr : rd U (i : Int) = U[i]:=by unfold rd;rw [Int.toNat_natCast,List.getD_eq_getElem?_getD,List.getElem?_eq_getElem hlt];rfl
  have w : wrap64 ((i : Int) + 1) = ((i + 1 : Nat) : Int):=by unfold wrap64;omega
  rw [List.drop_eq_getElem_cons hlt,List.filter_cons]
  by_cases c : U[i] < x
  ·rw [if_pos (decide_eq_true c)]
   refine Ev.ofEq ((sWith_0 U x hU d (i + 1) (acc ++ [U[i]]) (by omega) (by simp;omega)).to fun k=>?_) (by simp)
   simp only [spec_l05With.l0]
   rw [if_pos (by omega),if_pos (by omega),hr,if_pos c,if_pos (by omega),w]
  rw [if_neg (by simpa using c)]
  refine (sWith_0 U x hU d (i + 1) acc (by omega) (by omega)).to fun k=>?_
  simp only [spec_l05With.l0]
  rw [if_pos (by omega),if_pos (by omega),hr,if_neg c,w]
theorem sWith (U : List Int) (x : Int) (hU : U.length ≤ 1000000) : Ev (fun k=>spec_l05With.f k U x) (insW U x):=by
 unfold spec_l05With.f
 have:=sWith_0 U x hU U.length 0 [] (by omega) (by simp)
 rw [List.drop_zero,List.nil_append] at this
 exact this
/-- Ascending. -/
def Asc (U : List Int) : Prop:=U.Pairwise (· < ·)
theorem asc_filter {U : List Int} (h : Asc U) (p : Int → Bool) : Asc (U.filter p):=List.Pairwise.filter p h
theorem insW_asc {U : List Int} (h : Asc U) (x : Int) : Asc (insW U x):=by
 unfold insW Asc
 rw [List.pairwise_append]
 refine ⟨?_,asc_filter h _,?_⟩
 ·rw [List.pairwise_append]
  refine ⟨asc_filter h _,List.pairwise_singleton _ _,?_⟩
  intro a ha b hb
  have:=(List.mem_filter.1 ha).2
  rw [List.mem_singleton.1 hb]
  simpa using this
 intro a ha b hb
 have hb2 : x < b:=by simpa using (List.mem_filter.1 hb).2
 rcases List.mem_append.1 ha with ha|ha
 ·have : a < x:=by simpa using (List.mem_filter.1 ha).2
  omega
 rw [List.mem_singleton.1 ha];exact hb2
theorem insW_mem {U : List Int} {x y : Int} (h : y ∈ insW U x) : y = x ∨ y ∈ U:=by
 unfold insW at h
 rcases List.mem_append.1 h with h|h
 ·rcases List.mem_append.1 h with h|h
  ·exact .inr (List.mem_filter.1 h).1
  exact .inl (List.mem_singleton.1 h)
 exact .inr (List.mem_filter.1 h).1
/-- Ascending numbers of a .. b-1 are at most b - a. -/
theorem asc_len : ∀ (U : List Int) (a b : Int),Asc U → (∀ y ∈ U,a ≤ y ∧ y < b) → (U.length : Int) ≤ if a ≤ b then b - a else 0
 | [],a,b,_,_=>by split <;> simp <;> omega
 | y :: U,a,b,h,hm=>by
  have hy:=hm y List.mem_cons_self
  unfold Asc at h
  rw [List.pairwise_cons] at h
  have:=asc_len U (y + 1) b h.2 (fun z hz=>⟨by have:=h.1 z hz;omega,(hm z (List.mem_cons_of_mem _ hz)).2⟩)
  rw [if_pos (by omega)] at this
  rw [if_pos (by omega),List.length_cons]
  omega
theorem with_lo {U : List Int} (h : Asc U) (x : Int) : U.take (impl_with.at U x) = U.filter (fun y=>decide (y < x)) ∧ U.drop (impl_with.at U x) = U.filter (fun y=>decide (¬ y < x)):=by
 induction U with
 | nil=>exact ⟨rfl,rfl⟩
 | cons y U ih =>
  unfold Asc at h
  rw [List.pairwise_cons] at h
  have ih:=ih h.2
  unfold impl_with.at at ih ⊢
  by_cases c : y < x
  ·rw [List.takeWhile_cons_of_pos (by simpa using c),List.length_cons,List.take_succ_cons,List.drop_succ_cons,List.filter_cons_of_pos (by simpa using c),List.filter_cons_of_neg (by simpa using c),ih.1,ih.2]
   exact ⟨rfl,rfl⟩
  rw [List.takeWhile_cons_of_neg (by simpa using c),List.filter_cons_of_neg (by simpa using c),List.filter_cons_of_pos (by simpa using c)]
  have h1 : U.filter (fun y=>decide (y < x)) = []:=by
   rw [List.filter_eq_nil_iff]
   intro z hz
   have:=h.1 z hz
   simp only [decide_eq_true_eq]
   omega
  have h2 : U.filter (fun y=>decide (¬ y < x)) = U:=by
   rw [List.filter_eq_self]
   intro z hz
   have:=h.1 z hz
   simp only [decide_eq_true_eq]
   omega
  rw [h1,h2]
  exact ⟨rfl,rfl⟩
theorem with_eq {U : List Int} (h : Asc U) (x : Int) : impl_with.f U x = insW U x:=by
 have hl:=with_lo h x
 have hs : U = U.filter (fun y=>decide (y < x)) ++ U.filter (fun y=>decide (¬ y < x)):=by
  conv=>lhs;rw [← List.take_append_drop (impl_with.at U x) U,hl.1,hl.2]
 unfold impl_with.f insW
 by_cases c : impl_with.at U x < U.length ∧ rd U (impl_with.at U x : Int) = x
 ·rw [if_pos c]
  have hd : U.drop (impl_with.at U x) = x :: U.drop (impl_with.at U x + 1):=by
   rw [List.drop_eq_getElem_cons c.1]
   congr 1
   have:=c.2
   unfold rd at this
   rw [Int.toNat_natCast,List.getD_eq_getElem?_getD,List.getElem?_eq_getElem c.1] at this
   exact this
  rw [hl.2] at hd
  have ha : Asc (x :: U.drop (impl_with.at U x + 1)):=by rw [← hd];exact asc_filter h _
  unfold Asc at ha
  rw [List.pairwise_cons] at ha
  have hg : U.filter (fun y=>decide (y > x)) = U.drop (impl_with.at U x + 1):=by
   have h3 : U.filter (fun y=>decide (y > x)) = (U.filter (fun y=>decide (¬ y < x))).filter (fun y=>decide (y > x)):=by
    rw [List.filter_filter]
    congr 1
    funext y
    by_cases q : y > x
    ·rw [decide_eq_true q,decide_eq_true (by omega : ¬ y < x)];rfl
    rw [decide_eq_false q];rfl
   rw [h3,hd,List.filter_cons_of_neg (by simp),List.filter_eq_self]
   intro z hz
   exact decide_eq_true (ha.1 z hz)
  conv=>lhs;rw [hs,hd]
  rw [hg]
  simp
 rw [if_neg c,hl.1,hl.2]
 congr 1
 refine List.filter_congr ?_
 intro y hy
 rw [decide_eq_decide]
 constructor
 ·intro hyx
  rcases Int.lt_or_eq_of_le (Int.not_lt.1 hyx) with q|q
  ·exact q
  exfalso
  apply c
  have hm : y ∈ U.drop (impl_with.at U x):=by rw [hl.2];exact List.mem_filter.2 ⟨hy,decide_eq_true hyx⟩
  have hlt : impl_with.at U x < U.length:=by
   rcases Nat.lt_or_ge (impl_with.at U x) U.length with q|q
   ·exact q
   rw [List.drop_of_length_le q] at hm;cases hm
  refine ⟨hlt,?_⟩
  rw [List.drop_eq_getElem_cons hlt] at hm
  have hrd : rd U (impl_with.at U x : Int) = U[impl_with.at U x]:=by unfold rd;rw [Int.toNat_natCast,List.getD_eq_getElem?_getD,List.getElem?_eq_getElem hlt];rfl
  rw [hrd]
  have hge:=impl_with.at_ge hlt
  rw [hrd] at hge
  rcases List.mem_cons.1 hm with e|e
  ·omega
  have h4 : Asc (U.drop (impl_with.at U x)):=List.Pairwise.sublist (List.drop_sublist _ _) h
  rw [List.drop_eq_getElem_cons hlt] at h4
  unfold Asc at h4
  rw [List.pairwise_cons] at h4
  have:=h4.1 y e
  omega
 intro q;omega

theorem ri_Pair {xs : List S69} {i : Nat} (h : i < xs.length) : rd_T69 xs (i : Int) = xs[i]:=getD_at _ h

/-! Right maps -/
def pairOk (x : S69) : Bool:=decide (1 ≤ x.f0.size ∧ x.f0.size ≤ 8 ∧ x.f1.size ≤ 40)
def keyLt (a b : ByteArray) : Bool:=Op.bytesLess a.toList b.toList
def pairsOk : Option S69 → List S69 → Bool
 | _,[]=>true
 | none,x :: l=>pairOk x && pairsOk (some x) l
 | some p,x :: l=>pairOk x && (keyLt p.f0 x.f0 && pairsOk (some x) l)
def mapOk (l : List S69) : Bool:=decide (l.length ≤ 120) && pairsOk none l
def prevP (l : List S69) : Nat → Option S69
 | 0=>none
 | i + 1=>l[i]?
theorem prevP_succ {l : List S69} {i : Nat} (h : i < l.length) : prevP l (i + 1) = some l[i]:=List.getElem?_eq_getElem h

theorem iMO_go (l : List S69) (hl : l.length ≤ 1048576) : ∀ (d i : Nat),i + d = l.length → Ev (fun k=>impl_MapOk.l0 k l l (l.length : Int) (i : Int)) (decide (l.length ≤ 120) && pairsOk (prevP l i) (l.drop i))
 | 0,i,hi=>by
  rw [List.drop_of_length_le (by omega)]
  refine Ev.ofEq ((Ev.now (decide ((l.length : Int) ≤ 120))).to fun k=>?_) (by cases prevP l i <;> simp only [pairsOk,Bool.and_true] <;> rw [decide_eq_decide] <;> omega)
  simp only [impl_MapOk.l0]
  rw [if_neg (by omega)]
 | d + 1,i,hi=>by
  have hlt : i < l.length:=by omega
  have ih:=iMO_go l hl d (i + 1) (by omega)
  rw [List.drop_eq_getElem_cons hlt]
  have w2 : qo (wrap64 ((i : Int) + 1) = ((i + 1 : Nat) : Int)):=⟨by rw [wid (by omega) (by omega)];rfl⟩
  cases hb : pairOk l[i] with
  | false =>
   have e : pairsOk (prevP l i) (l[i] :: l.drop (i + 1)) = false:=by cases prevP l i <;> simp [pairsOk,hb]
   rw [e,Bool.and_false]
   unfold pairOk at hb
   rw [decide_eq_false_iff_not] at hb
   refine (Ev.now _).to fun k=>?_
   simp only [impl_MapOk.l0]
   rw [if_pos (by omega),if_pos (by omega),if_pos (by omega),ri_Pair hlt,i_in]
   simp only [Option.bind_some]
   by_cases h1 : 1 ≤ (l[i].f0.size : Int) ∧ (l[i].f0.size : Int) ≤ 8
   ·rw [if_pos (decide_eq_true h1),if_pos (by omega)]
   rw [if_neg (by simpa using h1)]
  | true =>
   have hb':=hb
   unfold pairOk at hb'
   rw [decide_eq_true_eq] at hb'
   rcases i with _|i
   ·have e : pairsOk (prevP l 0) (l[0] :: l.drop (0 + 1)) = pairsOk (prevP l (0 + 1)) (l.drop (0 + 1)):=by rw [prevP_succ hlt];simp [pairsOk,hb,prevP]
    rw [e]
    refine ih.to fun k=>?_
    simp only [impl_MapOk.l0]
    rw [if_pos (by omega),if_pos (by omega),if_pos (by omega),ri_Pair hlt,i_in_t (by omega)]
    simp only [Option.bind_some,if_true]
    rw [if_neg (by omega),if_neg (by omega),w2.out]
   have hlt' : i < l.length:=by omega
   have e : pairsOk (prevP l (i + 1)) (l[i + 1] :: l.drop (i + 1 + 1)) = (keyLt l[i].f0 l[i + 1].f0 && pairsOk (prevP l (i + 1 + 1)) (l.drop (i + 1 + 1))):=by rw [prevP_succ hlt',prevP_succ hlt];simp [pairsOk,hb]
   rw [e]
   have w1 : qo (wrap64 (((i + 1 : Nat) : Int) - 1) = (i : Int)):=⟨by rw [wid (by omega) (by omega)];omega⟩
   cases hk : keyLt l[i].f0 l[i + 1].f0 with
   | false =>
    rw [Bool.false_and,Bool.and_false]
    refine (Ev.now _).to fun k=>?_
    simp only [impl_MapOk.l0]
    rw [if_pos (by omega),if_pos (by omega),if_pos (by omega),ri_Pair hlt,i_in_t (by omega)]
    simp only [Option.bind_some,if_true]
    rw [if_neg (by omega),if_pos (by omega),w1.out,if_pos (by omega),if_pos (by omega),ri_Pair hlt',if_neg (by unfold keyLt at hk;rw [hk];decide)]
   | true =>
    rw [Bool.true_and]
    refine ih.to fun k=>?_
    simp only [impl_MapOk.l0]
    rw [if_pos (by omega),if_pos (by omega),if_pos (by omega),ri_Pair hlt,i_in_t (by omega)]
    simp only [Option.bind_some,if_true]
    rw [if_neg (by omega),if_pos (by omega),w1.out,if_pos (by omega),if_pos (by omega),ri_Pair hlt',if_pos (show Op.bytesLess l[i].f0.toList l[i + 1].f0.toList = true from hk),w2.out]
theorem iMapOk (l : List S69) (hl : l.length ≤ 1048576) : Ev (fun k=>impl_MapOk.f k l) (mapOk l):=by
 unfold impl_MapOk.f mapOk
 exact iMO_go l hl l.length 0 (by omega)

theorem sMO_go (l : List S69) (hl : l.length ≤ 1048576) : ∀ (d i : Nat),i + d = l.length → Ev (fun k=>spec_MapOk.l0 k l (i : Int)) (pairsOk (prevP l i) (l.drop i))
 | 0,i,hi=>by
  rw [List.drop_of_length_le (by omega)]
  refine Ev.ofEq ((Ev.now true).to fun k=>?_) (by cases prevP l i <;> rfl)
  simp only [spec_MapOk.l0]
  rw [if_neg (by omega)]
 | d + 1,i,hi=>by
  have hlt : i < l.length:=by omega
  have ih:=sMO_go l hl d (i + 1) (by omega)
  rw [List.drop_eq_getElem_cons hlt]
  have w2 : qo (wrap64 ((i : Int) + 1) = ((i + 1 : Nat) : Int)):=⟨by rw [wid (by omega) (by omega)];rfl⟩
  cases hb : pairOk l[i] with
  | false =>
   have e : pairsOk (prevP l i) (l[i] :: l.drop (i + 1)) = false:=by cases prevP l i <;> simp [pairsOk,hb]
   rw [e]
   unfold pairOk at hb
   rw [decide_eq_false_iff_not] at hb
   refine (Ev.now _).to fun k=>?_
   simp only [spec_MapOk.l0]
   rw [if_pos (by omega),if_pos (by omega),ri_Pair hlt,s_in]
   simp only [Option.bind_some]
   by_cases h1 : 1 ≤ (l[i].f0.size : Int) ∧ (l[i].f0.size : Int) ≤ 8
   ·rw [if_pos (decide_eq_true h1),if_pos (by omega)]
   rw [if_neg (by simpa using h1)]
  | true =>
   have hb':=hb
   unfold pairOk at hb'
   rw [decide_eq_true_eq] at hb'
   rcases i with _|i
   ·have e : pairsOk (prevP l 0) (l[0] :: l.drop (0 + 1)) = pairsOk (prevP l (0 + 1)) (l.drop (0 + 1)):=by rw [prevP_succ hlt];simp [pairsOk,hb,prevP]
    rw [e]
    refine ih.to fun k=>?_
    simp only [spec_MapOk.l0]
    rw [if_pos (by omega),if_pos (by omega),ri_Pair hlt,s_in_t (by omega)]
    simp only [Option.bind_some,if_true]
    rw [if_neg (by omega),if_neg (by omega),w2.out]
   have hlt' : i < l.length:=by omega
   have e : pairsOk (prevP l (i + 1)) (l[i + 1] :: l.drop (i + 1 + 1)) = (keyLt l[i].f0 l[i + 1].f0 && pairsOk (prevP l (i + 1 + 1)) (l.drop (i + 1 + 1))):=by rw [prevP_succ hlt',prevP_succ hlt];simp [pairsOk,hb]
   rw [e]
   have w1 : qo (wrap64 (((i + 1 : Nat) : Int) - 1) = (i : Int)):=⟨by rw [wid (by omega) (by omega)];omega⟩
   cases hk : keyLt l[i].f0 l[i + 1].f0 with
   | false =>
    rw [Bool.false_and]
    refine (Ev.now _).to fun k=>?_
    simp only [spec_MapOk.l0]
    rw [if_pos (by omega),if_pos (by omega),ri_Pair hlt,s_in_t (by omega)]
    simp only [Option.bind_some,if_true]
    rw [if_neg (by omega),if_pos (by omega),w1.out,if_pos (by omega),if_pos (by omega),ri_Pair hlt',if_neg (by unfold keyLt at hk;rw [hk];decide)]
   | true =>
    rw [Bool.true_and]
    refine ih.to fun k=>?_
    simp only [spec_MapOk.l0]
    rw [if_pos (by omega),if_pos (by omega),ri_Pair hlt,s_in_t (by omega)]
    simp only [Option.bind_some,if_true]
    rw [if_neg (by omega),if_pos (by omega),w1.out,if_pos (by omega),if_pos (by omega),ri_Pair hlt',if_pos (show Op.bytesLess l[i].f0.toList l[i + 1].f0.toList = true from hk),w2.out]
theorem sMapOk (l : List S69) (hl : l.length ≤ 1048576) : Ev (fun k=>spec_MapOk.f k l) (mapOk l):=by
 unfold spec_MapOk.f mapOk
 by_cases h : l.length ≤ 120
 ·rw [decide_eq_true h,Bool.true_and]
  exact Ev.ifn (by omega) (sMO_go l hl l.length 0 (by omega))
 rw [decide_eq_false h,Bool.false_and]
 exact Ev.ifp (by omega) (Ev.now _)

theorem ri_Put {xs : List S96} {i : Nat} (h : i < xs.length) : rd_T96 xs (i : Int) = xs[i]:=getD_at _ h

/-! Right devices -/
def putOk (n : Nat) (p : S96) : Bool:=decide (0 ≤ p.f0 ∧ p.f0 < (n : Int) ∧ p.f1.size ≤ 64)
def devOk (s : List ByteArray) (p : List S96) : Bool:=decide (1 ≤ s.length ∧ s.length ≤ 400 ∧ p.length ≤ 400) && ((s.all fun x=>decide (x.size ≤ 64)) && (p.all fun x=>putOk s.length x))
theorem devOk_t {s : List ByteArray} {p : List S96} (h : devOk s p = true) : (1 ≤ s.length ∧ s.length ≤ 400 ∧ p.length ≤ 400) ∧ (∀ x ∈ s,x.size ≤ 64) ∧ ∀ x ∈ p,0 ≤ x.f0 ∧ x.f0 < (s.length : Int) ∧ x.f1.size ≤ 64:=by
 unfold devOk putOk at h
 simp only [Bool.and_eq_true,decide_eq_true_eq,List.all_eq_true] at h
 exact h
theorem devOk_mk {s : List ByteArray} {p : List S96} (h : (1 ≤ s.length ∧ s.length ≤ 400 ∧ p.length ≤ 400) ∧ (∀ x ∈ s,x.size ≤ 64) ∧ ∀ x ∈ p,0 ≤ x.f0 ∧ x.f0 < (s.length : Int) ∧ x.f1.size ≤ 64) : devOk s p = true:=by
 unfold devOk putOk
 simp only [Bool.and_eq_true,decide_eq_true_eq,List.all_eq_true]
 exact h

theorem iDO_l1 (s : List ByteArray) (p : List S96) (hs : s.length ≤ 400) (hp : p.length ≤ 1048576) : ∀ (d i : Nat),i + d = p.length → Ev (fun k=>impl_DeviceOk.l1 k p (p.length : Int) (i : Int) s p) ((p.drop i).all fun x=>putOk s.length x)
 | 0,i,hi=>by
  rw [List.drop_of_length_le (by omega)]
  exact (Ev.now _).to fun k=>by simp only [impl_DeviceOk.l1];rw [if_neg (by omega)];rfl
 | d + 1,i,hi=>by
  have hlt : i < p.length:=by omega
  have ih:=iDO_l1 s p hs hp d (i + 1) (by omega)
  rw [List.drop_eq_getElem_cons hlt,List.all_cons]
  have w : qo (wrap64 ((s.length : Int) - 1) = (s.length : Int) - 1):=⟨wid (by omega) (by omega)⟩
  cases hb : putOk s.length p[i] with
  | false =>
   rw [Bool.false_and]
   refine (Ev.now _).to fun k=>?_
   simp only [impl_DeviceOk.l1]
   rw [if_pos (by omega),if_pos (by omega),if_pos (by omega),ri_Put hlt,w.out,i_in]
   simp only [Option.bind_some]
   unfold putOk at hb
   rw [decide_eq_false_iff_not] at hb
   by_cases h : 0 ≤ p[i].f0 ∧ p[i].f0 ≤ (s.length : Int) - 1
   ·rw [if_pos (decide_eq_true h),if_pos (by omega)]
   rw [if_neg (by simpa using h)]
  | true =>
   rw [Bool.true_and]
   refine ih.to fun k=>?_
   simp only [impl_DeviceOk.l1]
   rw [if_pos (by omega),if_pos (by omega),if_pos (by omega),ri_Put hlt,w.out,i_in]
   simp only [Option.bind_some]
   unfold putOk at hb
   rw [decide_eq_true_eq] at hb
   rw [if_pos (decide_eq_true ⟨hb.1,by omega⟩),if_neg (by omega),wid (by omega) (by omega)]
   rfl
theorem iDO_l0 (s : List ByteArray) (p : List S96) (hs : s.length ≤ 400) (hp : p.length ≤ 1048576) : ∀ (d i : Nat),i + d = s.length → Ev (fun k=>impl_DeviceOk.l0 k s (s.length : Int) (i : Int) s p) (((s.drop i).all fun x=>decide (x.size ≤ 64)) && (p.all fun x=>putOk s.length x))
 | 0,i,hi=>by
  rw [List.drop_of_length_le (by omega)]
  refine Ev.to (iDO_l1 s p hs hp p.length 0 (by omega)) fun k=>?_
  simp only [impl_DeviceOk.l0];rw [if_neg (by omega)];rfl
 | d + 1,i,hi=>by
  have hlt : i < s.length:=by omega
  have ih:=iDO_l0 s p hs hp d (i + 1) (by omega)
  rw [List.drop_eq_getElem_cons hlt,List.all_cons]
  by_cases hb : s[i].size ≤ 64
  ·rw [decide_eq_true hb,Bool.true_and]
   refine ih.to fun k=>?_
   simp only [impl_DeviceOk.l0]
   rw [if_pos (by omega),if_pos (by omega),if_pos (by omega),rdOf_at _ hlt,if_neg (by omega),wid (by omega) (by omega)]
   rfl
  rw [decide_eq_false hb,Bool.false_and,Bool.false_and]
  refine (Ev.now _).to fun k=>?_
  simp only [impl_DeviceOk.l0]
  rw [if_pos (by omega),if_pos (by omega),if_pos (by omega),rdOf_at _ hlt,if_pos (by omega)]
theorem iDeviceOk (s : List ByteArray) (p : List S96) (hs : s.length ≤ 1048576) (hp : p.length ≤ 1048576) : Ev (fun k=>impl_DeviceOk.f k s p) (devOk s p):=by
 unfold impl_DeviceOk.f devOk
 by_cases h : 1 ≤ (s.length : Int) ∧ (s.length : Int) ≤ 400
 ·rw [i_in_t h]
  simp only [Option.bind_some,if_true]
  by_cases h2 : p.length ≤ 400
  ·rw [decide_eq_false (show ¬ (p.length : Int) > 400 by omega),decide_eq_true (show 1 ≤ s.length ∧ s.length ≤ 400 ∧ p.length ≤ 400 by omega),Bool.true_and]
   exact (iDO_l0 s p (by omega) hp s.length 0 (by omega)).to fun k=>by simp only [impl_DeviceOk.j0];rw [if_neg (by decide)];rfl
  rw [decide_eq_true (show (p.length : Int) > 400 by omega),decide_eq_false (show ¬ (1 ≤ s.length ∧ s.length ≤ 400 ∧ p.length ≤ 400) by omega),Bool.false_and]
  exact (Ev.now _).to fun k=>by simp only [impl_DeviceOk.j0,if_true]
 rw [i_in_f h,decide_eq_false (show ¬ (1 ≤ s.length ∧ s.length ≤ 400 ∧ p.length ≤ 400) by omega),Bool.false_and]
 simp only [Option.bind_some,Bool.false_eq_true,if_false]
 exact (Ev.now _).to fun k=>by simp only [impl_DeviceOk.j0,if_true]

theorem s_l03Put (s : List ByteArray) (p : List S96) (x : S96) (hs : s.length ≤ 400) : spec_l03Put.f s p x.f0 x.f1 = some (putOk s.length x):=by
 unfold spec_l03Put.f putOk
 rw [wid (by omega) (by omega),s_in]
 simp only [Option.bind_some]
 by_cases h : 0 ≤ x.f0 ∧ x.f0 ≤ (s.length : Int) - 1
 ·rw [if_pos (decide_eq_true h)];congr 1;rw [decide_eq_decide];omega
 rw [if_neg (by simpa using h)];congr 1;symm;rw [decide_eq_false_iff_not];omega
theorem sDO_l1 (s : List ByteArray) (p : List S96) (hs : s.length ≤ 400) (hp : p.length ≤ 1048576) : ∀ (d i : Nat),i + d = p.length → Ev (fun k=>spec_DeviceOk.l1 k (i : Int) s p) ((p.drop i).all fun x=>putOk s.length x)
 | 0,i,hi=>by
  rw [List.drop_of_length_le (by omega)]
  exact (Ev.now _).to fun k=>by simp only [spec_DeviceOk.l1];rw [if_neg (by omega)];rfl
 | d + 1,i,hi=>by
  have hlt : i < p.length:=by omega
  have ih:=sDO_l1 s p hs hp d (i + 1) (by omega)
  rw [List.drop_eq_getElem_cons hlt,List.all_cons]
  cases hb : putOk s.length p[i] with
  | false =>
   rw [Bool.false_and]
   refine (Ev.now _).to fun k=>?_
   simp only [spec_DeviceOk.l1]
   rw [if_pos (by omega),if_pos (by omega),ri_Put hlt,s_l03Put _ _ _ hs,hb]
   rfl
  | true =>
   rw [Bool.true_and]
   refine ih.to fun k=>?_
   simp only [spec_DeviceOk.l1]
   rw [if_pos (by omega),if_pos (by omega),ri_Put hlt,s_l03Put _ _ _ hs,hb,wid (by omega) (by omega)]
   rfl
theorem sDO_l0 (s : List ByteArray) (p : List S96) (hs : s.length ≤ 400) (hp : p.length ≤ 1048576) : ∀ (d i : Nat),i + d = s.length → Ev (fun k=>spec_DeviceOk.l0 k (i : Int) s p) (((s.drop i).all fun x=>decide (x.size ≤ 64)) && (p.all fun x=>putOk s.length x))
 | 0,i,hi=>by
  rw [List.drop_of_length_le (by omega)]
  refine Ev.to (sDO_l1 s p hs hp p.length 0 (by omega)) fun k=>?_
  simp only [spec_DeviceOk.l0];rw [if_neg (by omega)];rfl
 | d + 1,i,hi=>by
  have hlt : i < s.length:=by omega
  have ih:=sDO_l0 s p hs hp d (i + 1) (by omega)
  rw [List.drop_eq_getElem_cons hlt,List.all_cons]
  by_cases hb : s[i].size ≤ 64
  ·rw [decide_eq_true hb,Bool.true_and]
   refine ih.to fun k=>?_
   simp only [spec_DeviceOk.l0]
   rw [if_pos (by omega),if_pos (by omega),rdOf_at _ hlt,if_neg (by omega),wid (by omega) (by omega)]
   rfl
  rw [decide_eq_false hb,Bool.false_and,Bool.false_and]
  refine (Ev.now _).to fun k=>?_
  simp only [spec_DeviceOk.l0]
  rw [if_pos (by omega),if_pos (by omega),rdOf_at _ hlt,if_pos (by omega)]
theorem sDeviceOk (s : List ByteArray) (p : List S96) (hs : s.length ≤ 1048576) (hp : p.length ≤ 1048576) : Ev (fun k=>spec_DeviceOk.f k s p) (devOk s p):=by
 unfold spec_DeviceOk.f devOk
 by_cases h : 1 ≤ (s.length : Int) ∧ (s.length : Int) ≤ 400
 ·rw [s_in_t h]
  simp only [Option.bind_some,if_true]
  by_cases h2 : p.length ≤ 400
  ·rw [decide_eq_false (show ¬ (p.length : Int) > 400 by omega),decide_eq_true (show 1 ≤ s.length ∧ s.length ≤ 400 ∧ p.length ≤ 400 by omega),Bool.true_and]
   exact (sDO_l0 s p (by omega) hp s.length 0 (by omega)).to fun k=>by simp only [spec_DeviceOk.j0];rw [if_neg (by decide)];rfl
  rw [decide_eq_true (show (p.length : Int) > 400 by omega),decide_eq_false (show ¬ (1 ≤ s.length ∧ s.length ≤ 400 ∧ p.length ≤ 400) by omega),Bool.false_and]
  exact (Ev.now _).to fun k=>by simp only [spec_DeviceOk.j0,if_true]
 rw [s_in_f h,decide_eq_false (show ¬ (1 ≤ s.length ∧ s.length ≤ 400 ∧ p.length ≤ 400) by omega),Bool.false_and]
 simp only [Option.bind_some,Bool.false_eq_true,if_false]
 exact (Ev.now _).to fun k=>by simp only [spec_DeviceOk.j0,if_true]

def pWrite (s : List ByteArray) (p : List S96) (a : Int) (t : ByteArray) : List ByteArray × List S96 × Bool:=if devOk s p = true ∧ putOk s.length ⟨a,t⟩ = true ∧ p.length < 400 then (s,p ++ [⟨a,t⟩],true) else ([],[],false)
theorem pWrite_t {s : List ByteArray} {p : List S96} {a : Int} {t : ByteArray} (h : devOk s p = true ∧ putOk s.length ⟨a,t⟩ = true ∧ p.length < 400) : pWrite s p a t = (s,p ++ [⟨a,t⟩],true):=by unfold pWrite;exact if_pos h
theorem pWrite_f {s : List ByteArray} {p : List S96} {a : Int} {t : ByteArray} (h : ¬ (devOk s p = true ∧ putOk s.length ⟨a,t⟩ = true ∧ p.length < 400)) : pWrite s p a t = ([],[],false):=by unfold pWrite;exact if_neg h
theorem devOk_put (s : List ByteArray) (p : List S96) (x : S96) (h : devOk s p = true) : devOk s (p ++ [x]) = true ↔ putOk s.length x = true ∧ p.length < 400:=by
 obtain ⟨h1,h2,h3⟩:=devOk_t h
 unfold putOk
 rw [decide_eq_true_eq]
 constructor
 ·intro g
  obtain ⟨g1,_,g3⟩:=devOk_t g
  rw [List.length_append] at g1
  have:=g3 x (by simp)
  exact ⟨this,by simp at g1;omega⟩
 rintro ⟨g1,g2⟩
 refine devOk_mk ⟨⟨h1.1,h1.2.1,by rw [List.length_append];simp;omega⟩,h2,fun y hy=>?_⟩
 rcases List.mem_append.1 hy with hy|hy
 ·exact h3 y hy
 rw [List.mem_singleton.1 hy];exact g1

theorem icopyDevice (s : List ByteArray) (p : List S96) (hs : s.length ≤ 10000000) (hp : p.length ≤ 10000000) : impl_copyDevice.f s p = some (s,p):=by
 unfold impl_copyDevice.f
 simp only [List.length_nil,List.nil_append]
 rw [if_pos (by omega),if_pos (by omega)]

theorem iWriteSector (s : List ByteArray) (p : List S96) (a : Int) (t : ByteArray) (hs : s.length ≤ 1048576) (hp : p.length ≤ 1048576) : Ev (fun k=>impl_WriteSector.f k s p a t) (pWrite s p a t):=by
 unfold impl_WriteSector.f
 rw [icopyDevice s p (by omega) (by omega)]
 simp only [Option.bind_some]
 refine Ev.ifp (by omega) ((iDeviceOk s p hs hp).bind ?_)
 by_cases h : devOk s p = true
 ·refine Ev.ifp h ((iDeviceOk s _ hs (by rw [List.length_append];have:=(devOk_t h).1;simp;omega)).bind ?_)
  by_cases h4 : devOk s (p ++ [⟨a,t⟩]) = true
  ·rw [pWrite_t ⟨h,(devOk_put s p _ h).1 h4⟩]
   exact Ev.ifp h4 (Ev.now _)
  rw [pWrite_f (fun g=>h4 ((devOk_put s p _ h).2 g.2))]
  exact Ev.ifn h4 (Ev.now _)
 rw [pWrite_f (fun g=>h g.1)]
 exact Ev.ifn h (Ev.now _)

def readF (a : Int) (acc : ByteArray) (p : List S96) : ByteArray:=p.foldl (fun acc x=>if x.f0 = a then x.f1 else acc) acc
theorem readF_snoc (a : Int) (acc : ByteArray) (p : List S96) (x : S96) : readF a acc (p ++ [x]) = if x.f0 = a then x.f1 else readF a acc p:=by unfold readF;rw [List.foldl_append];rfl
theorem readF_cons (a : Int) (acc : ByteArray) (p : List S96) (x : S96) : readF a acc (x :: p) = readF a (if x.f0 = a then x.f1 else acc) p:=rfl
def secAt (s : List ByteArray) (a : Int) : ByteArray:=rdOf ByteArray.empty s a
theorem sl03R_go (s : List ByteArray) (p : List S96) (a : Int) (hp : p.length ≤ 1048576) : ∀ (d i : Nat) (acc : ByteArray),i + d = p.length → Ev (fun k=>spec_l03Read.l0 k a acc (i : Int) s p) (readF a acc (p.drop i))
 | 0,i,acc,hi=>by
  rw [List.drop_of_length_le (by omega)]
  exact (Ev.now _).to fun k=>by simp only [spec_l03Read.l0];rw [if_neg (by omega)];rfl
 | d + 1,i,acc,hi=>by
  have hlt : i < p.length:=by omega
  have w2 : qo (wrap64 ((i : Int) + 1) = ((i + 1 : Nat) : Int)):=⟨by rw [wid (by omega) (by omega)];rfl⟩
  rw [List.drop_eq_getElem_cons hlt,readF_cons]
  by_cases h : p[i].f0 = a
  ·rw [if_pos h]
   refine (sl03R_go s p a hp d (i + 1) _ (by omega)).to fun k=>?_
   simp only [spec_l03Read.l0]
   rw [if_pos (by omega),if_pos (by omega),ri_Put hlt,if_pos h,w2.out]
  rw [if_neg h]
  refine (sl03R_go s p a hp d (i + 1) _ (by omega)).to fun k=>?_
  simp only [spec_l03Read.l0]
  rw [if_pos (by omega),if_pos (by omega),ri_Put hlt,if_neg h,w2.out]
theorem sl03Read (s : List ByteArray) (p : List S96) (a : Int) (hp : p.length ≤ 1048576) (h0 : 0 ≤ a) (h1 : a < s.length) : Ev (fun k=>spec_l03Read.f k s p a) (readF a (secAt s a) p):=by
 unfold spec_l03Read.f
 exact Ev.ifp h0 (Ev.ifp h1 (sl03R_go s p a hp p.length 0 _ (by omega)))

theorem iRS_go (s : List ByteArray) (p : List S96) (a : Int) (hp : p.length ≤ 1048576) (h0 : 0 ≤ a) (h1 : a < s.length) : ∀ (i : Nat),i ≤ p.length → Ev (fun k=>impl_readSector.l0 k a ((i : Int) - 1) s p) (readF a (secAt s a) (p.take i))
 | 0,hi=>by
  refine (Ev.now _).to fun k=>?_
  simp only [impl_readSector.l0]
  rw [if_neg (by omega),if_pos h0,if_pos h1]
  rfl
 | i + 1,hi=>by
  have hlt : i < p.length:=by omega
  have e : ((i + 1 : Nat) : Int) - 1 = (i : Int):=by omega
  have w : qo (wrap64 ((i : Int) - 1) = (i : Int) - 1):=⟨wid (by omega) (by omega)⟩
  rw [e,List.take_succ_eq_append_getElem hlt,readF_snoc]
  by_cases h : p[i].f0 = a
  ·rw [if_pos h]
   refine (Ev.now _).to fun k=>?_
   simp only [impl_readSector.l0]
   rw [if_pos (by omega),if_pos (by omega),if_pos (by omega),ri_Put hlt,if_pos h]
  rw [if_neg h]
  refine (iRS_go s p a hp h0 h1 i (by omega)).to fun k=>?_
  simp only [impl_readSector.l0]
  rw [if_pos (by omega),if_pos (by omega),if_pos (by omega),ri_Put hlt,if_neg h,w.out]
theorem ireadSector (s : List ByteArray) (p : List S96) (a : Int) (hp : p.length ≤ 1048576) (h0 : 0 ≤ a) (h1 : a < s.length) : Ev (fun k=>impl_readSector.f k s p a) (readF a (secAt s a) p):=by
 unfold impl_readSector.f
 rw [wid (by omega) (by omega)]
 have:=iRS_go s p a hp h0 h1 p.length (by omega)
 rwa [List.take_length] at this

theorem sl03In_go (l : List Int) (x : Int) (hl : l.length ≤ 100000000) : ∀ (d i : Nat),i + d = l.length → Ev (fun k=>spec_l03In.l0 k l x (i : Int)) (inL (l.drop i) x)
 | 0,i,hi=>by
  rw [List.drop_of_length_le (by omega)]
  exact (Ev.now _).to fun k=>by simp only [spec_l03In.l0];rw [if_neg (by omega)];rfl
 | d + 1,i,hi=>by
  have hlt : i < l.length:=by omega
  have w2 : qo (wrap64 ((i : Int) + 1) = ((i + 1 : Nat) : Int)):=⟨by rw [wid (by omega) (by omega)];rfl⟩
  rw [List.drop_eq_getElem_cons hlt,inL_cons]
  by_cases h : l[i] = x
  ·rw [if_pos h]
   refine (Ev.now _).to fun k=>?_
   simp only [spec_l03In.l0]
   rw [if_pos (by omega),if_pos (by omega),rd_at hlt,if_pos h]
  rw [if_neg h]
  refine (sl03In_go l x hl d (i + 1) (by omega)).to fun k=>?_
  simp only [spec_l03In.l0]
  rw [if_pos (by omega),if_pos (by omega),rd_at hlt,if_neg h,w2.out]
theorem sl03In (l : List Int) (x : Int) (hl : l.length ≤ 100000000) : Ev (fun k=>spec_l03In.f k l x) (inL l x):=by
 unfold spec_l03In.f
 exact sl03In_go l x hl l.length 0 (by omega)

theorem ihasInt_go (l : List Int) (x : Int) (hl : l.length ≤ 100000000) : ∀ (d i : Nat),i + d = l.length → Ev (fun k=>impl_hasInt.l0 k x l (l.length : Int) (i : Int)) (inL (l.drop i) x)
 | 0,i,hi=>by
  rw [List.drop_of_length_le (by omega)]
  exact (Ev.now _).to fun k=>by simp only [impl_hasInt.l0];rw [if_neg (by omega)];rfl
 | d + 1,i,hi=>by
  have hlt : i < l.length:=by omega
  have w2 : qo (wrap64 ((i : Int) + 1) = ((i + 1 : Nat) : Int)):=⟨by rw [wid (by omega) (by omega)];rfl⟩
  rw [List.drop_eq_getElem_cons hlt,inL_cons]
  by_cases h : l[i] = x
  ·rw [if_pos h]
   refine (Ev.now _).to fun k=>?_
   simp only [impl_hasInt.l0]
   rw [if_pos (by omega),if_pos (by omega),if_pos (by omega),rd_at hlt,if_pos h]
  rw [if_neg h]
  refine (ihasInt_go l x hl d (i + 1) (by omega)).to fun k=>?_
  simp only [impl_hasInt.l0]
  rw [if_pos (by omega),if_pos (by omega),if_pos (by omega),rd_at hlt,if_neg h,w2.out]
theorem ihasInt (l : List Int) (x : Int) (hl : l.length ≤ 100000000) : Ev (fun k=>impl_hasInt.f k l x) (inL l x):=by
 unfold impl_hasInt.f
 exact ihasInt_go l x hl l.length 0 (by omega)

theorem txI_sz {kind : Int} (hk : kind = 1 ∨ kind = 2) {prev : Option ByteArray} {x : S71} (h : itG kind prev x = true) : ((txI kind x).size : Int) = szT kind x:=by
 unfold txI szT
 rw [ByteArray.size_append]
 by_cases c : kind = 1
 ·rw [if_pos c,if_pos c];omega
 have:=itG_inner h c
 rw [if_neg c,if_neg c]
 unfold pVarText
 rw [if_pos (by omega)]
 simp only
 omega
theorem spL_sz {kind : Int} (hk : kind = 1 ∨ kind = 2) {s : ByteArray} : ∀ (l : List S71) (prev : Option ByteArray) (acc : ByteArray),spL kind prev acc l = (s,true) → (s.size : Int) ≤ acc.size + sumT kind l + 4
 | [],prev,acc,h=>by
  unfold spL pSealed at h
  split at h
  ·cases h
  injection h with h _
  rw [← h,ByteArray.size_append,str_len,four_len]
  unfold sumT
  simp
 | x :: l,prev,acc,h=>by
  unfold spL at h
  by_cases c : itG kind prev x = true
  ·rw [if_pos c] at h
   have ih:=spL_sz hk l _ _ h
   rw [ByteArray.size_append] at ih
   have:=txI_sz hk c
   rw [sumT_cons]
   omega
  rw [if_neg c] at h
  unfold noText at h
  cases h
theorem pPage_sz {kind : Int} {l : List S71} {s : ByteArray} (h : pPage kind l = (s,true)) : s.size ≤ 64:=by
 unfold pPage at h
 split at h
 ·rename_i c
  obtain ⟨hk,hl,hs⟩:=c
  have h1:=spL_sz hk l _ _ h
  have h2:=sumT_lo kind l
  have h3:=headP_size kind (n:=l.length) (by omega)
  omega
 unfold noText at h
 cases h
/-- The first sector from i on that isn't free and reads as the text. -/
def fnd (S : List ByteArray) (P : List S96) (F : List Int) (t : ByteArray) : Nat → Nat → Option Nat
 | 0,_=>none
 | d + 1,i=>if inL F (i : Int) = true then fnd S P F t d (i + 1) else if (readF (i : Int) (secAt S (i : Int)) P).toList = t.toList then some i else fnd S P F t d (i + 1)
theorem fnd_lt {S : List ByteArray} {P : List S96} {F : List Int} {t : ByteArray} : ∀ (d i j : Nat),fnd S P F t d i = some j → i ≤ j ∧ j < i + d
 | 0,i,j,h=>by cases h
 | d + 1,i,j,h=>by
  unfold fnd at h
  split at h
  ·have:=fnd_lt d (i + 1) j h;omega
  split at h
  ·injection h with h;omega
  have:=fnd_lt d (i + 1) j h;omega
theorem sFind (S : List ByteArray) (P : List S96) (F : List Int) (t : ByteArray) (hP : P.length ≤ 400) (hF : F.length ≤ 1048576) : ∀ (d i : Nat),i + d = S.length → spec_l05Place.find S P F t d i = some (fnd S P F t d i)
 | 0,i,hi=>by unfold spec_l05Place.find fnd;rfl
 | d + 1,i,hi=>by
  have ih:=sFind S P F t hP hF d (i + 1) (by omega)
  unfold spec_l05Place.find fnd
  rw [ev_lim (sl03In F (i : Int) (by omega)),Option.bind_some]
  split
  ·exact ih
  rw [ev_lim (sl03Read S P (i : Int) (by omega) (by omega) (by omega)),Option.bind_some]
  split
  ·rfl
  exact ih
theorem iFind (S : List ByteArray) (P : List S96) (F : List Int) (t : ByteArray) (hP : P.length ≤ 400) (hF : F.length ≤ 1048576) : ∀ (d i : Nat),i + d = S.length → impl_page.find S P F t d i = some (fnd S P F t d i)
 | 0,i,hi=>by unfold impl_page.find fnd;rfl
 | d + 1,i,hi=>by
  have ih:=iFind S P F t hP hF d (i + 1) (by omega)
  unfold impl_page.find fnd
  rw [ev_lim (ihasInt F (i : Int) (by omega)),Option.bind_some]
  split
  ·exact ih
  rw [ev_lim (ireadSector S P (i : Int) (by omega) (by omega) (by omega)),Option.bind_some]
  split
  ·rfl
  exact ih
/-- Where a page is put, and the builder behind it; none: nowhere. -/
def pgF (S : List ByteArray) (P : List S96) (F L U : List Int) (kind : Int) (it : List S71) : Option (Int × List S96 × List Int × List Int) :=
 if (pPage kind it).2 = false then none else match fnd S P F (pPage kind it).1 S.length 0 with
  | some i=>some ((i : Int),P,L,insW U (i : Int))
  | none=>if L.length = 0 ∨ ¬ P.length < 400 then none else some (rd L 0,P ++ [⟨rd L 0,(pPage kind it).1⟩],L.drop 1,insW U (rd L 0))
structure Inv (S : List ByteArray) (P : List S96) (L U : List Int) : Prop where
 dev : devOk S P = true
 left : ∀ x ∈ L,0 ≤ x ∧ x < (S.length : Int)
 asc : Asc U
 used : ∀ x ∈ U,0 ≤ x ∧ x < (S.length : Int)
theorem Inv.ul {S : List ByteArray} {P : List S96} {L U : List Int} (h : Inv S P L U) : U.length ≤ 400:=by
 have h1:=asc_len U 0 S.length h.asc h.used
 have h2:=(devOk_t h.dev).1
 rw [if_pos (by omega)] at h1
 omega
theorem rd_0 {L : List Int} (h : ¬ L.length = 0) : rd L 0 ∈ L:=by
 have:=List.getElem_mem (l:=L) (n:=0) (by omega)
 unfold rd
 rw [Int.toNat_zero,List.getD_eq_getElem?_getD,List.getElem?_eq_getElem (by omega)]
 exact this
theorem ins_in {S : List ByteArray} {P : List S96} {L U : List Int} (h : Inv S P L U) {x : Int} (hx : 0 ≤ x ∧ x < (S.length : Int)) : ∀ y ∈ insW U x,0 ≤ y ∧ y < (S.length : Int):=by
 intro y hy
 rcases insW_mem hy with rfl|hy
 ·exact hx
 exact h.used y hy
theorem pgF_inv {S : List ByteArray} {P P' : List S96} {F L L' U U' : List Int} {kind r : Int} {it : List S71} (h : Inv S P L U) (hp : pgF S P F L U kind it = some (r,P',L',U')) : Inv S P' L' U' ∧ 0 ≤ r ∧ r < (S.length : Int):=by
 unfold pgF at hp
 split at hp
 ·cases hp
 rename_i hok
 split at hp
 ·rename_i i hi
  injection hp with hp
  simp only [Prod.mk.injEq] at hp
  obtain ⟨rfl,rfl,rfl,rfl⟩:=hp
  have hlt:=fnd_lt _ _ _ hi
  exact ⟨⟨h.dev,h.left,insW_asc h.asc _,ins_in h (by omega)⟩,by omega,by omega⟩
 split at hp
 ·cases hp
 rename_i hc
 injection hp with hp
 simp only [Prod.mk.injEq] at hp
 obtain ⟨rfl,rfl,rfl,rfl⟩:=hp
 have hr:=h.left _ (rd_0 (L:=L) (by omega))
 have hz : (pPage kind it).1.size ≤ 64:=pPage_sz (kind:=kind) (l:=it) (s:=(pPage kind it).1) (by
  cases hpp : pPage kind it with
  | mk a b=>rw [hpp] at hok;simp only at hok ⊢;rw [show b = true by simpa using hok])
 refine ⟨⟨(devOk_put S P _ h.dev).2 ⟨?_,by omega⟩,fun x hx=>h.left x (List.mem_of_mem_drop hx),insW_asc h.asc _,ins_in h hr⟩,hr.1,hr.2⟩
 unfold putOk
 exact decide_eq_true ⟨hr.1,hr.2,hz⟩
theorem sPlace {S : List ByteArray} {P : List S96} {F L U : List Int} {kind : Int} {it : List S71} (h : Inv S P L U) (hF : F.length ≤ 1048576) (hl : it.length ≤ 1048576) (ho : ∀ x ∈ it,OkIt x) :
  spec_l05Place.f S P L U false F kind it = some (match pgF S P F L U kind it with|none=>(0,P,L,U,true)|some q=>(q.1,q.2.1,q.2.2.1,q.2.2.2,false)):=by
 have hd:=(devOk_t h.dev).1
 have hul:=h.ul
 unfold spec_l05Place.f pgF
 rw [ev_lim (sPageText kind it hl ho),Option.bind_some]
 by_cases c : (pPage kind it).2 = false
 ·rw [if_pos (.inr c),if_pos c]
 rw [if_neg (by simpa using c),if_neg c,sFind S P F _ (by omega) hF S.length 0 (by omega),Option.bind_some]
 cases fnd S P F (pPage kind it).1 S.length 0 with
 | some i =>
  simp only
  rw [ev_lim (sWith U (i : Int) (by omega)),Option.bind_some]
 | none =>
  simp only
  by_cases c1 : L.length = 0 ∨ P.length = 400
  ·rw [if_pos c1,if_pos (by omega)]
  rw [if_neg c1,if_pos (show P.length < 400 by omega),if_neg (show ¬ (L.length = 0 ∨ ¬ P.length < 400) by omega),ev_lim (sWith U (rd L 0) (by omega)),Option.bind_some]
theorem iPlace {S : List ByteArray} {P : List S96} {F L U : List Int} {kind : Int} {it : List S71} (h : Inv S P L U) (hF : F.length ≤ 1048576) (hl : it.length ≤ 1048576) (ho : ∀ x ∈ it,OkIt x) :
  impl_page.f S P F L U kind it = some (match pgF S P F L U kind it with|none=>(-1,S,P,L,U)|some q=>(q.1,S,q.2.1,q.2.2.1,q.2.2.2)):=by
 have hd:=(devOk_t h.dev).1
 have hul:=h.ul
 unfold impl_page.f pgF
 rw [ev_lim (iPageText kind it hl ho),Option.bind_some,if_pos (by omega)]
 by_cases c : (pPage kind it).2 = false
 ·rw [if_pos c,if_pos c]
 rw [if_neg c,if_neg c,iFind S P F _ (by omega) hF S.length 0 (by omega),Option.bind_some]
 cases fnd S P F (pPage kind it).1 S.length 0 with
 | some i =>
  simp only
  rw [with_eq h.asc]
 | none =>
  simp only
  by_cases c1 : L.length = 0
  ·rw [if_pos c1,if_pos (.inl c1)]
  have hr:=h.left _ (rd_0 c1)
  have hz : (pPage kind it).1.size ≤ 64:=pPage_sz (kind:=kind) (l:=it) (s:=(pPage kind it).1) (by
   cases hpp : pPage kind it with
   | mk a b=>rw [hpp] at c;simp only at c ⊢;rw [show b = true by simpa using c])
  have hpo : putOk S.length ⟨rd L 0,(pPage kind it).1⟩ = true:=by unfold putOk;exact decide_eq_true ⟨hr.1,hr.2,hz⟩
  rw [if_neg c1,ev_lim (iWriteSector S P (rd L 0) (pPage kind it).1 (by omega) (by omega)),Option.bind_some]
  by_cases c2 : P.length < 400
  ·rw [pWrite_t ⟨h.dev,hpo,c2⟩,if_neg (by simp),if_neg (by omega)]
   simp only
   rw [with_eq h.asc]
  rw [pWrite_f (fun g=>c2 g.2.2),if_pos rfl,if_pos (.inr c2)]
/-- The groups of a level placed one behind another: the builder, the last place, the next level's items; none: one couldn't be placed. -/
def gsF (S : List ByteArray) (F : List Int) (kind : Int) : List (List S71) → List S96 → List Int → List Int → Int → List S71 → Option (List S96 × List Int × List Int × Int × List S71)
 | [],P,L,U,r,n=>some (P,L,U,r,n)
 | it :: gs,P,L,U,_,n=>match pgF S P F L U kind it with
  | none=>none
  | some q=>gsF S F kind gs q.2.1 q.2.2.1 q.2.2.2 q.1 (n ++ [⟨(rd_T71 it 0).f0,⟨#[]⟩,q.1⟩])
/-- An item of an inner level. -/
def InnI (n : Nat) (x : S71) : Prop:=x.f0.size ≤ 8 ∧ x.f1.size = 0 ∧ 0 ≤ x.f2 ∧ x.f2 < (n : Int)
theorem gs_main {S : List ByteArray} {F : List Int} {kind : Int} (hF : F.length ≤ 1048576) : ∀ (gs : List (List S71)) (P : List S96) (L U : List Int) (r : Int) (n : List S71),Inv S P L U → (∀ it ∈ gs,it.length > 0 ∧ it.length ≤ 1048576 ∧ ∀ x ∈ it,OkIt x ∧ x.f0.size ≤ 8) → n.length + gs.length < 1000000 → (∀ x ∈ n,InnI S.length x) →
  (gsF S F kind gs P L U r n = none ∧ (∃ P' L' U' r' n',spec_tree.groups F S kind gs P L U false r n = some (P',L',U',true,r',n')) ∧ (∃ P' L' U' r' n',impl_tree.groups F kind gs S P L U r n = some (false,S,P',L',U',r',n'))) ∨
  (∃ P' L' U' r' n',gsF S F kind gs P L U r n = some (P',L',U',r',n') ∧ spec_tree.groups F S kind gs P L U false r n = some (P',L',U',false,r',n') ∧ impl_tree.groups F kind gs S P L U r n = some (true,S,P',L',U',r',n') ∧ Inv S P' L' U' ∧ n'.length = n.length + gs.length ∧ (∀ x ∈ n',InnI S.length x))
 | [],P,L,U,r,n,hI,hg,hn,hx=>.inr ⟨P,L,U,r,n,rfl,by rw [spec_tree.groups],by rw [impl_tree.groups],hI,rfl,hx⟩
 | it :: gs,P,L,U,r,n,hI,hg,hn,hx=>by
  obtain ⟨g1,g2,g3⟩:=hg it List.mem_cons_self
  have hs:=sPlace (F:=F) (kind:=kind) hI hF g2 (fun x hx=>(g3 x hx).1)
  have hi:=iPlace (F:=F) (kind:=kind) hI hF g2 (fun x hx=>(g3 x hx).1)
  rw [List.length_cons] at hn
  rw [gsF,spec_tree.groups,impl_tree.groups,if_neg (by simp),hs,hi,Option.bind_some,Option.bind_some]
  cases hp : pgF S P F L U kind it with
  | none =>
   left
   refine ⟨rfl,?_,?_⟩
   ·simp only
    rw [if_neg (by omega),if_pos (by omega)]
    cases gs with
    | nil=>exact ⟨_,_,_,_,_,by rw [spec_tree.groups]⟩
    | cons a b=>exact ⟨_,_,_,_,_,by rw [spec_tree.groups,if_pos rfl]⟩
   simp only
   exact ⟨_,_,_,_,_,by rw [if_pos (by omega)]⟩
  | some q =>
   obtain ⟨r1,P1,L1,U1⟩:=q
   obtain ⟨hI1,hr0,hr1⟩:=pgF_inv hI hp
   simp only
   rw [if_neg (by omega),if_pos (by omega),if_neg (by omega),if_neg (by omega),if_pos (by omega)]
   have hx0 : (rd_T71 it 0).f0.size ≤ 8:=by
    have:=List.getElem_mem (l:=it) (n:=0) (by omega)
    unfold rd_T71
    rw [Int.toNat_zero,List.getD_eq_getElem?_getD,List.getElem?_eq_getElem (by omega)]
    exact (g3 _ this).2
   have ih:=gs_main (kind:=kind) hF gs P1 L1 U1 r1 (n ++ [⟨(rd_T71 it 0).f0,⟨#[]⟩,r1⟩]) hI1 (fun x hx=>hg x (List.mem_cons_of_mem _ hx)) (by rw [List.length_append,List.length_singleton];omega) (fun x hm=>by
    rcases List.mem_append.1 hm with hm|hm
    ·exact hx x hm
    rw [List.mem_singleton.1 hm];exact ⟨hx0,rfl,hr0,hr1⟩)
   rcases ih with ih|⟨P',L',U',r',n',h1,h2,h3,h4,h5,h6⟩
   ·exact .inl ih
   exact .inr ⟨P',L',U',r',n',h1,h2,h3,h4,by rw [h5,List.length_append,List.length_singleton,List.length_cons];omega,h6⟩
theorem cut_len (kind : Int) : ∀ (l g : List S71),(cutP kind g l).length ≤ (if g.length > 0 then 1 else 0) + l.length
 | [],g=>by
  unfold cutP
  split <;> simp
 | x :: l,g=>by
  have h0:=cut_len kind l []
  have h1:=cut_len kind l [x]
  have h2:=cut_len kind l (g ++ [x])
  simp only [List.length_nil,List.length_singleton,List.length_append] at h0 h1 h2
  rw [if_neg (by omega)] at h0
  rw [if_pos (by omega)] at h1 h2
  unfold cutP
  rw [List.length_cons]
  split
  ·rename_i c
   rw [if_pos c.1]
   split
   ·simp only [List.length_cons];omega
   simp only [List.length_cons];omega
  split
  ·simp only [List.length_cons];omega
  omega
theorem cut_two {l : List S71} {x y : S71} (h : szI 2 x + szI 2 y ≤ 54) : (cutP 2 [] (x :: y :: l)).length ≤ 1 + l.length:=by
 have e : ∀ z,¬ endsI 2 z = true:=fun z=>by unfold endsI;simp
 have h1:=cut_len 2 l [x,y]
 simp only [List.length_cons,List.length_nil] at h1
 rw [if_pos (by omega)] at h1
 unfold cutP
 rw [if_neg (by simp),if_neg (e x)]
 unfold cutP
 rw [if_neg (by rw [List.nil_append,sumI_one];omega),if_neg (e y)]
 exact h1
theorem cut_ne {kind : Int} {l : List S71} (h : ¬ l.length = 0) : 0 < (cutP kind [] l).length:=by
 have:=(cutP_ok kind l [] (fun h=>by simp at h)).1
 rcases Nat.eq_zero_or_pos (cutP kind [] l).length with e|e
 ·rw [List.length_eq_zero_iff.1 e] at this
  have e2 : l = []:=by simpa using this.symm
  rw [e2] at h
  simp at h
 exact e
theorem inn_sz {n : Nat} {x : S71} (h : InnI n x) : szI 2 x ≤ 27:=by
 have h1:=pVar_size x.f2
 unfold szI pShort
 rw [if_neg (by decide),if_pos rfl,if_neg (by have:=h.1;omega)]
 simp only
 rw [ByteArray.size_append,str_len]
 have:=varB_len5 (n:=x.f0.size) (by have:=h.1;omega)
 have:=h.1
 omega
/-- What a level's items are like. -/
def LvI (kind : Int) (n : Nat) (its : List S71) : Prop:=(kind = 1 ∧ ∀ x ∈ its,x.f0.size ≤ 8 ∧ x.f1.size ≤ 40) ∨ (kind = 2 ∧ ∀ x ∈ its,InnI n x)
theorem LvI.sm {kind : Int} {n : Nat} {its : List S71} (h : LvI kind n its) : (kind = 1 ∨ kind = 2) ∧ ∀ x ∈ its,x.f0.size ≤ 8 ∧ x.f1.size ≤ 40:=by
 rcases h with ⟨rfl,h⟩|⟨rfl,h⟩
 ·exact ⟨.inl rfl,h⟩
 exact ⟨.inr rfl,fun x hx=>⟨(h x hx).1,by rw [(h x hx).2.1];omega⟩⟩
theorem flat_len {α : Type} {it : List α} : ∀ (gs : List (List α)),it ∈ gs → it.length ≤ gs.flatten.length
 | g :: gs,h=>by
  rw [List.flatten_cons,List.length_append]
  rcases List.mem_cons.1 h with rfl|h
  ·omega
  have:=flat_len gs h;omega
theorem lv_main {S : List ByteArray} {F : List Int} (hF : F.length ≤ 1048576) : ∀ (n : Nat) (kind : Int) (its : List S71) (P : List S96) (L U : List Int) (root : Int),Inv S P L U → LvI kind S.length its → its.length ≤ 1000 → (kind = 1 → its.length + 1 < n) → (kind = 2 → 2 ≤ its.length ∧ its.length < n) → 0 < n →
  (∃ P' U' r,spec_tree.levels F S (n + 1) kind its P L U false root = some (P',U',true,r) ∧ ∃ P' U' r,impl_tree.levels F n kind its S P L U root = some (false,S,P',U',r)) ∨
  (∃ P' L' U' r,spec_tree.levels F S (n + 1) kind its P L U false root = some (P',U',false,r) ∧ impl_tree.levels F n kind its S P L U root = some (true,S,P',U',r) ∧ Inv S P' L' U')
 | 0,_,_,_,_,_,_,_,_,_,_,_,h0=>by omega
 | n + 1,kind,its,P,L,U,root,hI,hl,hL,hk1,hk2,h0=>by
  rw [spec_tree.levels,impl_tree.levels]
  by_cases c0 : its.length = 0
  ·rw [if_pos c0,if_pos c0]
   exact .inr ⟨P,L,U,root,rfl,rfl,hI⟩
  obtain ⟨hk,hsm⟩:=hl.sm
  have hcut:=cutP_ok kind its [] (fun h=>by simp at h)
  have hlen:=cut_len kind its []
  have hne:=cut_ne (kind:=kind) c0
  simp only [List.length_nil] at hlen
  rw [if_neg (by omega)] at hlen
  rw [if_neg c0,if_neg c0,if_neg (by simp),ev_lim (sCutItems kind hk its (by omega) (fun x hx=>by have:=hsm x hx;exact ⟨by omega,by omega⟩)),ev_lim (iCutItems kind its (by omega) (fun x hx=>by have:=hsm x hx;exact ⟨by omega,by omega⟩)),Option.bind_some,Option.bind_some]
  have hmem : ∀ it ∈ cutP kind [] its,it.length > 0 ∧ it.length ≤ 1048576 ∧ ∀ x ∈ it,OkIt x ∧ x.f0.size ≤ 8:=by
   intro it hit
   have hsub : ∀ x ∈ it,x ∈ its:=fun x hx=>by
    have : x ∈ (cutP kind [] its).flatten:=List.mem_flatten.2 ⟨it,hit,hx⟩
    rw [hcut.1] at this
    simpa using this
   refine ⟨(hcut.2 it hit).1,?_,fun x hx=>by have:=hsm x (hsub x hx);exact ⟨⟨by omega,by omega⟩,this.1⟩⟩
   have : it.length ≤ (cutP kind [] its).flatten.length:=by
    exact flat_len _ hit
   rw [hcut.1,List.nil_append] at this
   omega
  rcases gs_main (S:=S) (kind:=kind) hF (cutP kind [] its) P L U root [] hI hmem (by rw [List.length_nil];omega) (fun x hx=>by cases hx) with ⟨_,⟨P1,L1,U1,r1,n1,hs⟩,⟨P2,L2,U2,r2,n2,hi⟩⟩|⟨P1,L1,U1,r1,n1,_,hs,hi,hI1,hn1,hx1⟩
  ·left
   rw [hs,hi,Option.bind_some,Option.bind_some]
   simp only
   rw [if_pos trivial]
   refine ⟨P1,U1,r1,?_,P,U,0,rfl⟩
   rw [spec_tree.levels]
   by_cases c1 : n1.length = 1
   ·rw [if_pos c1,if_pos (by simp)]
   rw [if_neg c1]
   by_cases c2 : n1.length = 0
   ·rw [if_pos c2]
   rw [if_neg c2,if_pos rfl]
  rw [hs,hi,Option.bind_some,Option.bind_some]
  simp only
  rw [if_neg (show ¬ (true = false) by simp)]
  rw [List.length_nil,Nat.zero_add] at hn1
  by_cases c1 : n1.length = 1
  ·right
   rw [if_pos c1,if_pos c1]
   refine ⟨P1,L1,U1,r1,?_,rfl,hI1⟩
   rw [spec_tree.levels,if_pos (by simp)]
  rw [if_neg c1,if_neg c1]
  have hn : n1.length < n:=by
   rcases hk with e|e
   ·have:=hk1 e;omega
   subst e
   obtain ⟨h2,h3⟩:=hk2 rfl
   have hin : ∀ x ∈ its,InnI S.length x:=by
    rcases hl with ⟨e,_⟩|⟨_,h⟩
    ·cases e
    exact h
   match its,h2,hin with
   | x :: y :: l,_,hin =>
    have:=cut_two (l:=l) (x:=x) (y:=y) (by have:=inn_sz (hin x (by simp));have:=inn_sz (hin y (by simp));omega)
    simp only [List.length_cons] at h3
    omega
  exact lv_main hF n 2 n1 P1 L1 U1 r1 hI1 (.inr ⟨rfl,hx1⟩) (by omega) (fun h=>by cases h) (fun _=>⟨by omega,hn⟩) (by omega)

theorem pairs_small : ∀ (l : List S69) (p : Option S69),pairsOk p l = true → ∀ x ∈ l,x.f0.size ≤ 8 ∧ x.f1.size ≤ 40
 | [],_,_,x,hx=>by cases hx
 | y :: l,p,h,x,hx=>by
  have h2 : pairOk y = true ∧ pairsOk (some y) l = true:=by
   cases p with
   | none =>
    unfold pairsOk at h
    simpa using h
   | some q =>
    unfold pairsOk at h
    simp only [Bool.and_eq_true] at h
    exact ⟨h.1,h.2.2⟩
  rcases List.mem_cons.1 hx with rfl|hx
  ·have:=h2.1
   unfold pairOk at this
   have:=of_decide_eq_true this
   exact ⟨this.2.1,this.2.2⟩
  exact pairs_small l _ h2.2 x hx
theorem chk_t (n : Int) : ∀ F : List Int,spec_tree.chk n true F = decide (∀ x ∈ F,0 ≤ x ∧ x ≤ n)
 | []=>by unfold spec_tree.chk;simp
 | x :: F=>by
  unfold spec_tree.chk
  rw [if_pos rfl,s_in]
  by_cases c : 0 ≤ x ∧ x ≤ n
  ·rw [decide_eq_true c,decide_eq_true rfl,chk_t n F,decide_eq_decide]
   simp [c]
  rw [decide_eq_false c,show decide ((some false : Option Bool) = some true) = false from rfl]
  rw [decide_eq_false (fun h=>c (h x List.mem_cons_self))]
  cases F with
  | nil=>unfold spec_tree.chk;rfl
  | cons y F=>unfold spec_tree.chk;rfl
theorem chk_f (n : Int) : ∀ F : List Int,spec_tree.chk n false F = false
 | []=>by unfold spec_tree.chk;rfl
 | x :: F=>by unfold spec_tree.chk;rfl
theorem sl03Copy (s : List ByteArray) (p : List S96) (hs : s.length ≤ 10000000) (hp : p.length ≤ 10000000) : spec_l03Copy.f s p = some (s,p):=by
 unfold spec_l03Copy.f
 simp only [Option.bind_some,List.length_nil,List.nil_append]
 rw [if_pos (by omega),if_pos (by omega)]
/-- Both place the tree alike. -/
theorem tree_eq (S : List ByteArray) (P : List S96) (F : List Int) (m : List S69) (hS : S.length ≤ 1048576) (hP : P.length ≤ 1048576) (hF : F.length ≤ 1048576) (hm : m.length ≤ 1048576) :
  ∃ r1 r2 r3 r4 r5,spec_tree.f S P F m = some (r1,r2,r3,r4,r5) ∧ impl_tree.f S P F m = some (r1,r2,r3,r4,r5) ∧ r1.length ≤ 400 ∧ r2.length ≤ 400 ∧ r4.length ≤ 400:=by
 have hno : ∃ (r1 : List ByteArray) (r2 : List S96) (r3 : Int) (r4 : List Int) (r5 : Bool),(some (([] : List ByteArray),([] : List S96),(0 : Int),([] : List Int),false) : Option _) = some (r1,r2,r3,r4,r5) ∧ (some (([] : List ByteArray),([] : List S96),(0 : Int),([] : List Int),false) : Option _) = some (r1,r2,r3,r4,r5) ∧ r1.length ≤ 400 ∧ r2.length ≤ 400 ∧ r4.length ≤ 400:=⟨_,_,_,_,_,rfl,rfl,by simp,by simp,by simp⟩
 unfold spec_tree.f impl_tree.f
 rw [ev_lim (sDeviceOk S P hS hP),ev_lim (iDeviceOk S P hS hP),Option.bind_some,Option.bind_some]
 by_cases cd : devOk S P = true
 ·obtain ⟨hd,_,_⟩:=devOk_t cd
  rw [if_pos cd,if_neg (by rw [cd];simp),ev_lim (sMapOk m hm),ev_lim (iMapOk m hm),Option.bind_some,Option.bind_some]
  by_cases cm : mapOk m = true
  ·rw [if_neg (show ¬ mapOk m = false by rw [cm];simp),cm,chk_t]
   have hw : wrap64 ((S.length : Int) - 1) = (S.length : Int) - 1:=by unfold wrap64;omega
   rw [hw]
   by_cases cr : ∀ x ∈ F,0 ≤ x ∧ x ≤ (S.length : Int) - 1
   ·rw [if_neg (by rw [decide_eq_true cr];simp),if_pos (fun x hx=>by rw [i_in,decide_eq_true (cr x hx)]),sl03Copy S P (by omega) (by omega),icopyDevice S P (by omega) (by omega),Option.bind_some,Option.bind_some]
    have hml : m.length ≤ 120 ∧ ∀ x ∈ m,x.f0.size ≤ 8 ∧ x.f1.size ≤ 40:=by
     unfold mapOk at cm
     rw [Bool.and_eq_true,decide_eq_true_eq] at cm
     exact ⟨cm.1,pairs_small m none cm.2⟩
    rw [if_pos ⟨by omega,hF⟩,if_pos (by omega)]
    have hI : Inv S P F []:=⟨cd,fun x hx=>by have:=cr x hx;omega,List.Pairwise.nil,fun x hx=>by cases hx⟩
    rcases lv_main hF 1000 1 (m.map itemOf) P F [] (-1) hI (.inl ⟨rfl,fun x hx=>by
     obtain ⟨y,hy,rfl⟩:=List.mem_map.1 hx
     exact hml.2 y hy⟩) (by rw [List.length_map];omega) (fun _=>by rw [List.length_map];omega) (fun h=>by cases h) (by omega) with ⟨P1,U1,r1,hs,P2,U2,r2,hi⟩|⟨P1,L1,U1,r1,hs,hi,hI1⟩
    ·rw [hs,hi,Option.bind_some,Option.bind_some]
     simp only
     exact hno
    rw [hs,hi,Option.bind_some,Option.bind_some]
    have hu:=hI1.ul
    have hd1:=(devOk_t hI1.dev).1
    simp only
    rw [if_neg (show ¬ (false = true) by simp),if_neg (show ¬ (true = false) by simp),if_pos (show U1.length ≤ 1000000 by omega)]
    exact ⟨_,_,_,_,_,rfl,rfl,by omega,by omega,by omega⟩
   rw [if_pos (by rw [decide_eq_false cr]),if_neg (fun h=>cr (fun x hx=>by have:=h x hx;rw [i_in] at this;exact of_decide_eq_true (Option.some.inj this)))]
   exact hno
  rw [show mapOk m = false by simpa using cm,if_pos rfl,chk_f,if_pos rfl]
  exact hno
 rw [if_neg cd,show devOk S P = false by simpa using cd,if_pos rfl,Option.bind_some,chk_f,if_pos rfl]
 exact hno

theorem rl_Put {xs : List S102} {i : Nat} (h : i < xs.length) : rd_T102 xs (i : Int) = xs[i]:=getD_at _ h

def cvPut (x : S102) : S96:=⟨x.f0,x.f1⟩
theorem toPutS_go (x0 : List S102) (hl : x0.length ≤ 1048576) : ∀ (d i : Nat) (x3 : List S96),i + d = x0.length → x3.length = x0.length → Ev (fun k=>laws_toPutS.l0 k x0 x3 (i : Int)) (x3.take i ++ (x0.drop i).map cvPut)
 | 0,i,x3,hi,h3=>by
  rw [List.drop_of_length_le (by omega),List.take_of_length_le (by omega),List.map_nil,List.append_nil]
  refine (Ev.now _).to fun k=>?_
  simp only [laws_toPutS.l0]
  rw [if_neg (by omega)]
 | d + 1,i,x3,hi,h3=>by
  have hlt : i < x0.length:=by omega
  have ih:=toPutS_go x0 hl d (i + 1) (x3.set i (cvPut x0[i])) (by omega) (by rw [List.length_set];omega)
  rw [set_take _ _ (by omega),List.append_assoc] at ih
  rw [List.drop_eq_getElem_cons hlt,List.map_cons]
  refine ih.to fun k=>?_
  simp only [laws_toPutS.l0]
  rw [if_pos (by omega),if_pos (by omega),rl_Put hlt]
  simp only [laws_toPut.f,Option.bind_some]
  rw [if_pos (by omega),wid (by omega) (by omega)]
  rfl
theorem toPutS (x0 : List S102) (hl : x0.length ≤ 1048576) : Ev (fun k=>laws_toPutS.f k x0) (x0.map cvPut):=by
 unfold laws_toPutS.f
 refine Ev.ifp (by omega) (Ev.ifp (by rw [Int.toNat_natCast];omega) ?_)
 have:=toPutS_go x0 hl x0.length 0 (List.replicate ((x0.length : Int) : Int).toNat z96) (by omega) (by rw [List.length_replicate,Int.toNat_natCast])
 simpa using this

theorem eqPut_self (x : S96) : laws_eqPut.f x.f0 x.f1 x.f0 x.f1 = some true:=by unfold laws_eqPut.f;simp
theorem eqPutS_go (x0 : List S96) (hl : x0.length ≤ 100000000) : ∀ (d i : Nat),i + d = x0.length → Ev (fun k=>laws_eqPutS.l0 k x0 x0 (i : Int)) true
 | 0,i,hi=>(Ev.now _).to fun k=>by simp only [laws_eqPutS.l0];rw [if_neg (by omega)]
 | d + 1,i,hi=>by
  refine (eqPutS_go x0 hl d (i + 1) (by omega)).to fun k=>?_
  simp only [laws_eqPutS.l0]
  rw [if_pos (by omega),if_pos (by omega),if_pos (by omega),eqPut_self]
  simp only [Option.bind_some,if_true]
  rw [wid (by omega) (by omega)]
  rfl
theorem eqPutS (x0 : List S96) (hl : x0.length ≤ 100000000) : Ev (fun k=>laws_eqPutS.f k x0 x0) true:=by
 unfold laws_eqPutS.f
 exact Ev.ifp rfl (eqPutS_go x0 hl x0.length 0 (by omega))

theorem eqStringS_go (x0 : List ByteArray) (hl : x0.length ≤ 100000000) : ∀ (d i : Nat),i + d = x0.length → Ev (fun k=>laws_eqStringS.l0 k x0 x0 (i : Int)) true
 | 0,i,hi=>(Ev.now _).to fun k=>by simp only [laws_eqStringS.l0];rw [if_neg (by omega)]
 | d + 1,i,hi=>by
  refine (eqStringS_go x0 hl d (i + 1) (by omega)).to fun k=>?_
  simp only [laws_eqStringS.l0,if_true]
  rw [if_pos (by omega),if_pos (by omega),if_pos (by omega),wid (by omega) (by omega)]
  rfl
theorem eqStringS (x0 : List ByteArray) (hl : x0.length ≤ 100000000) : Ev (fun k=>laws_eqStringS.f k x0 x0) true:=by
 unfold laws_eqStringS.f
 exact Ev.ifp rfl (eqStringS_go x0 hl x0.length 0 (by omega))

theorem eqDevice (s : List ByteArray) (p : List S96) (hs : s.length ≤ 100000000) (hp : p.length ≤ 100000000) : Ev (fun k=>laws_eqDevice.f k s p s p) true:=by
 unfold laws_eqDevice.f
 refine (eqStringS s hs).bind (Ev.ifp rfl ((eqPutS p hp).bind (Ev.ifp rfl (Ev.now _))))

def okPut (x : S102) : Prop:=x.f1.size ≤ 9223372036854775807
def smallPut (x : S102) : Prop:=x.f1.size ≤ 1048576
theorem szPut_ (x : S102) (hx : okPut x) (m : Int) (h0 : 0 ≤ m) (h1 : m ≤ 1048576) : ∃ r,laws_szPut.f x.f0 x.f1 m = some r ∧ (r < 0 ∨ (r ≤ m ∧ smallPut x)):=by
 unfold laws_szPut.f
 unfold okPut at hx
 unfold smallPut
 rw [wid (by omega) (by omega)]
 split
 ·exact ⟨_,rfl,.inl (by omega)⟩
 exact ⟨_,rfl,.inr ⟨by omega,by omega⟩⟩
theorem szPutS_go (x0 : List S102) (hl : x0.length ≤ 1048576) (hx : ∀ x ∈ x0,okPut x) : ∀ (d i : Nat) (m : Int),i + d = x0.length → 0 ≤ m → m ≤ 1048576 → ∃ r,Ev (fun k=>laws_szPutS.l0 k x0 m (i : Int)) r ∧ (r < 0 ∨ (r ≤ m ∧ ∀ x ∈ x0.drop i,smallPut x))
 | 0,i,m,hi,h0,h1=>⟨m,(Ev.now _).to fun k=>by simp only [laws_szPutS.l0];rw [if_neg (by omega)],.inr ⟨by omega,fun x h=>by rw [List.drop_of_length_le (by omega)] at h;simp at h⟩⟩
 | d + 1,i,m,hi,h0,h1=>by
  have hlt : i < x0.length:=by omega
  obtain ⟨r,hr,hc⟩:=szPut_ x0[i] (hx _ (List.getElem_mem hlt)) m h0 h1
  by_cases hn : r < 0
  ·refine ⟨-1,(Ev.now _).to fun k=>?_,.inl (by omega)⟩
   simp only [laws_szPutS.l0]
   rw [if_pos (by omega),if_pos (by omega),rl_Put hlt,hr]
   simp only [Option.bind_some]
   rw [if_pos hn]
  have hc':=hc.resolve_left hn
  obtain ⟨r',hr',hc2⟩:=szPutS_go x0 hl hx d (i + 1) r (by omega) (by omega) (by omega)
  refine ⟨r',hr'.to fun k=>?_,?_⟩
  ·simp only [laws_szPutS.l0]
   rw [if_pos (by omega),if_pos (by omega),rl_Put hlt,hr]
   simp only [Option.bind_some]
   rw [if_neg hn,wid (by omega) (by omega)]
   rfl
  rcases hc2 with hc2|⟨h2,h3⟩
  ·exact .inl hc2
  refine .inr ⟨by omega,fun x hx'=>?_⟩
  rw [List.drop_eq_getElem_cons hlt] at hx'
  rcases List.mem_cons.1 hx' with rfl|hx'
  ·exact hc'.2
  exact h3 x hx'
theorem szPutS (x0 : List S102) (hl : x0.length ≤ 9223372036854775807) (hx : ∀ x ∈ x0,okPut x) (m : Int) (h0 : 0 ≤ m) (h1 : m ≤ 1048576) : ∃ r,Ev (fun k=>laws_szPutS.f k x0 m) r ∧ (r < 0 ∨ (r ≤ m ∧ x0.length ≤ 1048576 ∧ ∀ x ∈ x0,smallPut x)):=by
 unfold laws_szPutS.f
 have w : wrap64 (m - (x0.length : Int)) = m - x0.length:=wid (by omega) (by omega)
 rw [w];clear w
 by_cases hn : m - (x0.length : Int) < 0
 ·exact ⟨-1,Ev.ifp hn (Ev.now _),.inl (by omega)⟩
 obtain ⟨r,hr,hc⟩:=szPutS_go x0 (by omega) hx x0.length 0 (m - x0.length) (by omega) (by omega) (by omega)
 refine ⟨r,Ev.ifn hn hr,?_⟩
 rcases hc with hc|⟨h2,h3⟩
 ·exact .inl hc
 exact .inr ⟨by omega,by omega,fun x hx'=>h3 x (by simpa using hx')⟩

theorem toStringS_go (x0 : List ByteArray) (hl : x0.length ≤ 1048576) : ∀ (d i : Nat) (x3 : List ByteArray),i + d = x0.length → x3.length = x0.length → Ev (fun k=>laws_toStringS.l0 k x0 x3 (i : Int)) (x3.take i ++ x0.drop i)
 | 0,i,x3,hi,h3=>by
  rw [List.drop_of_length_le (by omega),List.take_of_length_le (by omega),List.append_nil]
  refine (Ev.now _).to fun k=>?_
  simp only [laws_toStringS.l0]
  rw [if_neg (by omega)]
 | d + 1,i,x3,hi,h3=>by
  have hlt : i < x0.length:=by omega
  have ih:=toStringS_go x0 hl d (i + 1) (x3.set i x0[i]) (by omega) (by rw [List.length_set];omega)
  rw [set_take _ _ (by omega),List.append_assoc] at ih
  rw [List.drop_eq_getElem_cons hlt]
  refine ih.to fun k=>?_
  simp only [laws_toStringS.l0]
  rw [if_pos (by omega),if_pos (by omega),if_pos (by omega),rdOf_at _ hlt,wid (by omega) (by omega)]
  rfl
theorem toStringS (x0 : List ByteArray) (hl : x0.length ≤ 1048576) : Ev (fun k=>laws_toStringS.f k x0) x0:=by
 unfold laws_toStringS.f
 refine Ev.ifp (by omega) (Ev.ifp (by rw [Int.toNat_natCast];omega) ?_)
 have:=toStringS_go x0 hl x0.length 0 (List.replicate ((x0.length : Int) : Int).toNat (⟨#[]⟩ : ByteArray)) (by omega) (by rw [List.length_replicate,Int.toNat_natCast])
 simpa using this

theorem szStringS_go (x0 : List ByteArray) (hl : x0.length ≤ 1048576) (hx : ∀ x ∈ x0,x.size ≤ 9223372036854775807) : ∀ (d i : Nat) (m : Int),i + d = x0.length → 0 ≤ m → m ≤ 1048576 → ∃ r,Ev (fun k=>laws_szStringS.l0 k x0 m (i : Int)) r ∧ (r < 0 ∨ (r ≤ m ∧ ∀ x ∈ x0.drop i,x.size ≤ 1048576))
 | 0,i,m,hi,h0,h1=>⟨m,(Ev.now _).to fun k=>by simp only [laws_szStringS.l0];rw [if_neg (by omega)],.inr ⟨by omega,fun x h=>by rw [List.drop_of_length_le (by omega)] at h;simp at h⟩⟩
 | d + 1,i,m,hi,h0,h1=>by
  have hlt : i < x0.length:=by omega
  have hs:=hx _ (List.getElem_mem hlt)
  have w : qo (wrap64 (m - (x0[i].size : Int)) = m - x0[i].size):=⟨wid (by omega) (by omega)⟩
  by_cases hn : m - (x0[i].size : Int) < 0
  ·refine ⟨-1,(Ev.now _).to fun k=>?_,.inl (by omega)⟩
   simp only [laws_szStringS.l0]
   rw [if_pos (by omega),if_pos (by omega),rdOf_at _ hlt,w.out,if_pos hn]
  obtain ⟨r',hr',hc2⟩:=szStringS_go x0 hl hx d (i + 1) (m - x0[i].size) (by omega) (by omega) (by omega)
  refine ⟨r',hr'.to fun k=>?_,?_⟩
  ·simp only [laws_szStringS.l0]
   rw [if_pos (by omega),if_pos (by omega),rdOf_at _ hlt,w.out,if_neg hn,wid (by omega) (by omega)]
   rfl
  rcases hc2 with hc2|⟨h2,h3⟩
  ·exact .inl hc2
  refine .inr ⟨by omega,fun x hx'=>?_⟩
  rw [List.drop_eq_getElem_cons hlt] at hx'
  rcases List.mem_cons.1 hx' with rfl|hx'
  ·omega
  exact h3 x hx'
theorem szStringS (x0 : List ByteArray) (hl : x0.length ≤ 9223372036854775807) (hx : ∀ x ∈ x0,x.size ≤ 9223372036854775807) (m : Int) (h0 : 0 ≤ m) (h1 : m ≤ 1048576) : ∃ r,Ev (fun k=>laws_szStringS.f k x0 m) r ∧ (r < 0 ∨ (r ≤ m ∧ x0.length ≤ 1048576 ∧ ∀ x ∈ x0,x.size ≤ 1048576)):=by
 unfold laws_szStringS.f
 have w : wrap64 (m - (x0.length : Int)) = m - x0.length:=wid (by omega) (by omega)
 rw [w];clear w
 by_cases hn : m - (x0.length : Int) < 0
 ·exact ⟨-1,Ev.ifp hn (Ev.now _),.inl (by omega)⟩
 obtain ⟨r,hr,hc⟩:=szStringS_go x0 (by omega) hx x0.length 0 (m - x0.length) (by omega) (by omega) (by omega)
 refine ⟨r,Ev.ifn hn hr,?_⟩
 rcases hc with hc|⟨h2,h3⟩
 ·exact .inl hc
 exact .inr ⟨by omega,by omega,fun x hx'=>h3 x (by simpa using hx')⟩

theorem szDevice (s : List ByteArray) (p : List S102) (hs : s.length ≤ 9223372036854775807) (hs' : ∀ x ∈ s,x.size ≤ 9223372036854775807) (hp : p.length ≤ 9223372036854775807) (hp' : ∀ x ∈ p,okPut x) (m : Int) (h0 : 0 ≤ m) (h1 : m ≤ 1048576) :
  ∃ r,Ev (fun k=>laws_szDevice.f k s p m) r ∧ (r < 0 ∨ (r ≤ m ∧ s.length ≤ 1048576 ∧ (∀ x ∈ s,x.size ≤ 1048576) ∧ p.length ≤ 1048576 ∧ ∀ x ∈ p,smallPut x)):=by
 unfold laws_szDevice.f
 obtain ⟨r,hr,hc⟩:=szStringS s hs hs' m h0 h1
 by_cases h : r < 0
 ·exact ⟨-1,hr.bind (Ev.ifp h (Ev.now _)),.inl (by omega)⟩
 have hc:=hc.resolve_left h
 obtain ⟨q,hq,hd⟩:=szPutS p hp hp' r (by omega) (by omega)
 by_cases h' : q < 0
 ·exact ⟨-1,hr.bind (Ev.ifn h (hq.bind (Ev.ifp h' (Ev.now _)))),.inl (by omega)⟩
 have hd:=hd.resolve_left h'
 exact ⟨q,hr.bind (Ev.ifn h (hq.bind (Ev.ifn h' (Ev.now _)))),.inr ⟨by omega,hc.2.1,hc.2.2,hd.2.1,hd.2.2⟩⟩
theorem toDevice (s : List ByteArray) (p : List S102) (hs : s.length ≤ 1048576) (hp : p.length ≤ 1048576) : Ev (fun k=>laws_toDevice.f k s p) (s,p.map cvPut):=by
 unfold laws_toDevice.f
 exact (toStringS s hs).bind ((toPutS p hp).bind (Ev.now _))

/-! Marks -/
def digL (n : Nat) : List Int:=if h : n > 0 then digL (n / 10) ++ [48 + ((n % 10 : Nat) : Int)] else []
termination_by n
decreasing_by omega
theorem digL_pos {n : Nat} (h : n > 0) : digL n = digL (n / 10) ++ [48 + ((n % 10 : Nat) : Int)]:=by rw [digL,dif_pos h]
theorem digL_zero : digL 0 = []:=by rw [digL,dif_neg (by omega)]
def MB : ByteArray:=⟨#[109]⟩
def mText (m : Int) : ByteArray:=if m ≤ 0 then ⟨#[109,48]⟩ else MB ++ strOfNums (digL m.toNat)
theorem str_app {xs ys : List Int} : strOfNums (xs ++ ys) = strOfNums xs ++ strOfNums ys:=by
 apply ByteArray.ext
 unfold strOfNums
 rw [ByteArray.data_append]
 simp
theorem ba_assoc (a b c : ByteArray) : a ++ b ++ c = a ++ (b ++ c):=by
 apply bl_inj
 simp only [bl_app,List.append_assoc]
theorem mText_go (n : Nat) : ∀ acc : ByteArray,acc.size + n ≤ 1000000000000 → Ev (fun k=>laws_markText.l0 k (n : Int) acc) (MB ++ (strOfNums (digL n) ++ acc)):=by
 induction n using Nat.strongRecOn with
 | _ n ih =>
  intro acc ha
  by_cases h : n > 0
  ·have h1 : (strOfNums [48 + ((n % 10 : Nat) : Int)] ++ acc).size = 1 + acc.size:=by rw [bl_size,bl_app,List.length_append,bl_len,bl_len,str_len];rfl
   have:=ih (n / 10) (by omega) (strOfNums [48 + ((n % 10 : Nat) : Int)] ++ acc) (by omega)
   rw [← ba_assoc (strOfNums (digL (n / 10))),← str_app,← digL_pos h] at this
   refine this.to fun k=>?_
   have w : wrap64 (48 + Int.tmod (n : Int) 10) % 256 = 48 + ((n % 10 : Nat) : Int):=by rw [tmod_pos (by omega),wid (by omega) (by omega)];omega
   simp only [laws_markText.l0,w,Option.bind_some]
   clear w
   rw [if_pos (by omega),if_pos (by rw [str_len,List.length_singleton];omega),tdiv_pos (by omega),wid (by omega) (by omega)]
   congr 1
  obtain rfl : n = 0:=by omega
  rw [digL_zero]
  refine (Ev.now _).to fun k=>?_
  simp only [laws_markText.l0]
  rw [if_neg (by omega),if_pos (by omega)]
  have e : strOfNums [] ++ acc = acc:=by apply bl_inj;rw [bl_app];rfl
  rw [e]
  rfl
theorem markText (m : Int) (h : m ≤ 100000000000) : Ev (fun k=>laws_markText.f k m) (mText m):=by
 unfold laws_markText.f mText
 by_cases h0 : m ≤ 0
 ·rw [if_pos h0];exact Ev.ifp h0 (Ev.now _)
 rw [if_neg h0]
 refine Ev.ifn h0 ?_
 have:=mText_go m.toNat (⟨#[]⟩ : ByteArray) (by show 0 + m.toNat ≤ _;omega)
 rw [Int.toNat_of_nonneg (by omega)] at this
 refine Ev.ofEq this ?_
 congr 1
 apply bl_inj
 rw [bl_app,bl_emp,List.append_nil]

def mkS : Int → List ByteArray → List ByteArray
 | _,[]=>[]
 | m,_ :: l=>mText m :: mkS (m + 1) l
theorem mkS_len : ∀ (l : List ByteArray) (m : Int),(mkS m l).length = l.length
 | [],_=>rfl
 | _ :: l,m=>by simp only [mkS,List.length_cons,mkS_len l]
theorem markStringS_go : ∀ (d i : Nat) (x0 : List ByteArray) (m : Int),i + d = x0.length → x0.length ≤ 100000000 → 0 ≤ m → m + d ≤ 10000000000 → Ev (fun k=>laws_markStringS.l0 k x0 m (i : Int)) (m + d,x0.take i ++ mkS m (x0.drop i))
 | 0,i,x0,m,hi,hl,h0,h1=>by
  rw [List.drop_of_length_le (by omega),List.take_of_length_le (by omega)]
  refine Ev.ofEq ((Ev.now (m,x0)).to fun k=>?_) (by simp [mkS])
  simp only [laws_markStringS.l0];rw [if_neg (by omega)]
 | d + 1,i,x0,m,hi,hl,h0,h1=>by
  have hlt : i < x0.length:=by omega
  have ih:=markStringS_go d (i + 1) (x0.set i (mText m)) (m + 1) (by rw [List.length_set];omega) (by rw [List.length_set];omega) (by omega) (by omega)
  rw [set_take _ _ hlt,take_set_drop _ _ hlt,List.append_assoc] at ih
  rw [List.drop_eq_getElem_cons hlt,mkS]
  have e : ((m + 1) + (d : Int),x0.take i ++ ([mText m] ++ mkS (m + 1) (x0.drop (i + 1)))) = (m + ((d + 1 : Nat) : Int),x0.take i ++ mText m :: mkS (m + 1) (x0.drop (i + 1))):=by
   rw [List.singleton_append];congr 1;omega
  rw [e] at ih
  refine Ev.to (f:=fun k=>(laws_markText.f k m).bind fun t=>laws_markStringS.l0 k (x0.set i t) (m + 1) ((i + 1 : Nat) : Int)) ((markText m (by omega)).bind ih) fun k=>?_
  have w1 : wrap64 (m + 1) = m + 1:=wid (by omega) (by omega)
  have w2 : wrap64 ((i : Int) + 1) = ((i + 1 : Nat) : Int):=by rw [wid (by omega) (by omega)];rfl
  simp only [laws_markStringS.l0,w1,w2,Int.toNat_natCast,if_pos (show (0 : Int) ≤ (i : Int) by omega),if_pos (show (i : Int) < x0.length by omega)]
theorem markStringS (x0 : List ByteArray) (m : Int) (hl : x0.length ≤ 100000000) (h0 : 0 ≤ m) (h1 : m ≤ 1000000000) : Ev (fun k=>laws_markStringS.f k x0 m) (m + x0.length,mkS m x0):=by
 unfold laws_markStringS.f
 have:=markStringS_go x0.length 0 x0 m (by omega) hl h0 (by omega)
 simpa using this

def mkPut : Int → List S96 → List S96
 | _,[]=>[]
 | m,_ :: l=>⟨m,mText (m + 1)⟩ :: mkPut (m + 2) l
theorem mkPut_len : ∀ (l : List S96) (m : Int),(mkPut m l).length = l.length
 | [],_=>rfl
 | _ :: l,m=>by simp only [mkPut,List.length_cons,mkPut_len l]
theorem ri_set_Put {xs : List S96} {i : Nat} (v : S96) (h : i < xs.length) : rd_T96 (xs.set i v) (i : Int) = v:=by
 rw [ri_Put (by rw [List.length_set];exact h),List.getElem_set_self]
theorem markPutS_go : ∀ (d i : Nat) (x0 : List S96) (m : Int),i + d = x0.length → x0.length ≤ 100000000 → 0 ≤ m → m + 2 * d ≤ 10000000000 → Ev (fun k=>laws_markPutS.l0 k x0 m (i : Int)) (m + 2 * d,x0.take i ++ mkPut m (x0.drop i))
 | 0,i,x0,m,hi,hl,h0,h1=>by
  rw [List.drop_of_length_le (by omega),List.take_of_length_le (by omega)]
  refine Ev.ofEq ((Ev.now (m,x0)).to fun k=>?_) (by simp [mkPut])
  simp only [laws_markPutS.l0];rw [if_neg (by omega)]
 | d + 1,i,x0,m,hi,hl,h0,h1=>by
  have hlt : i < x0.length:=by omega
  have ih:=markPutS_go d (i + 1) (x0.set i ⟨m,mText (m + 1)⟩) (m + 2) (by rw [List.length_set];omega) (by rw [List.length_set];omega) (by omega) (by omega)
  rw [set_take _ _ hlt,take_set_drop _ _ hlt,List.append_assoc] at ih
  rw [List.drop_eq_getElem_cons hlt,mkPut]
  have e : ((m + 2) + 2 * (d : Int),x0.take i ++ ([⟨m,mText (m + 1)⟩] ++ mkPut (m + 2) (x0.drop (i + 1)))) = (m + 2 * ((d + 1 : Nat) : Int),x0.take i ++ ⟨m,mText (m + 1)⟩ :: mkPut (m + 2) (x0.drop (i + 1))):=by
   rw [List.singleton_append];congr 1;omega
  rw [e] at ih
  refine Ev.to (f:=fun k=>(laws_markText.f k (m + 1)).bind fun t1=>laws_markPutS.l0 k (x0.set i ⟨m,t1⟩) (m + 2) ((i + 1 : Nat) : Int)) (r:=(m + 2 * ((d + 1 : Nat) : Int),x0.take i ++ ⟨m,mText (m + 1)⟩ :: mkPut (m + 2) (x0.drop (i + 1)))) ?_ fun k=>?_
  ·skip
   refine (markText _ (by omega)).bind ?_
   exact ih
  have w0 : wrap64 (m + 1) = m + 1:=wid (by omega) (by omega)
  have w1 : wrap64 (m + 1 + 1) = m + 2:=by rw [wid (by omega) (by omega)];omega
  have w_ : wrap64 ((i : Int) + 1) = ((i + 1 : Nat) : Int):=by rw [wid (by omega) (by omega)];rfl
  simp only [laws_markPutS.l0,w0,w1,w_,Int.toNat_natCast,Option.bind_some,ri_Put hlt,ri_set_Put _ hlt,List.set_set,if_pos (show (i : Int) < (x0.length : Int) by omega),if_pos (show (0 : Int) ≤ (i : Int) by omega)]
theorem markPutS (x0 : List S96) (m : Int) (hl : x0.length ≤ 100000000) (h0 : 0 ≤ m) (h1 : m ≤ 1000000000) : Ev (fun k=>laws_markPutS.f k x0 m) (m + 2 * x0.length,mkPut m x0):=by
 unfold laws_markPutS.f
 have:=markPutS_go x0.length 0 x0 m (by omega) hl h0 (by omega)
 simpa using this

theorem mark0 (s : List ByteArray) (p : List S96) (hs : s.length ≤ 1048576) (hp : p.length ≤ 1048576) : Ev (fun k=>laws_markDevice.f k s p 1) (1 + s.length + 2 * p.length,mkS 1 s,mkPut (1 + s.length) p):=by
 unfold laws_markDevice.f
 exact (markStringS s 1 (by omega) (by omega) (by omega)).bind ((markPutS p (1 + s.length) (by omega) (by omega) (by omega)).bind (Ev.now _))

theorem heldStringS_go (z : List ByteArray) (hl : z.length ≤ 100000000) : ∀ (d i : Nat) (l : List ByteArray) (m : Int),l.length = d → i + d = z.length → z.drop i = mkS m l → 0 ≤ m → m + d ≤ 10000000000 → Ev (fun k=>laws_heldStringS.l0 k z m (i : Int)) (m + d)
 | 0,i,l,m,hd,hi,hz,h0,h1=>by
  refine Ev.ofEq ((Ev.now m).to fun k=>?_) (by omega)
  simp only [laws_heldStringS.l0];rw [if_neg (by omega)]
 | d + 1,i,[],m,hd,hi,hz,h0,h1=>by simp at hd
 | d + 1,i,x :: l,m,hd,hi,hz,h0,h1=>by
  have hlt : i < z.length:=by omega
  rw [List.drop_eq_getElem_cons hlt,mkS,List.cons.injEq] at hz
  have ih:=heldStringS_go z hl d (i + 1) l (m + 1) (by simpa using hd) (by omega) hz.2 (by omega) (by omega)
  refine Ev.ofEq (r:=m + 1 + d) ?_ (by omega)
  refine Ev.to (f:=fun k=>(laws_markText.f k m).bind fun t=>if z[i].toList = t.toList then laws_heldStringS.l0 k z (m + 1) ((i + 1 : Nat) : Int) else some (-1)) (r:=m + 1 + d) ?_ fun k=>?_
  ·refine (markText m (by omega)).bind ?_
   refine Ev.ifp ?_ ih
   rw [hz.1]
  have w1 : wrap64 (m + 1) = m + 1:=wid (by omega) (by omega)
  have w2 : wrap64 ((i : Int) + 1) = ((i + 1 : Nat) : Int):=by rw [wid (by omega) (by omega)];rfl
  simp only [laws_heldStringS.l0,w1,w2]
  clear w1 w2
  rw [if_pos (by omega),if_pos (by omega),rdOf_at _ hlt]
theorem heldStringS (l : List ByteArray) (m : Int) (hl : l.length ≤ 100000000) (h0 : 0 ≤ m) (h1 : m ≤ 1000000000) : Ev (fun k=>laws_heldStringS.f k (mkS m l) m) (m + l.length):=by
 unfold laws_heldStringS.f
 exact heldStringS_go (mkS m l) (by rw [mkS_len];exact hl) l.length 0 l m rfl (by rw [mkS_len];omega) (by simp) h0 (by omega)

theorem heldPutS_go (z : List S96) (hl : z.length ≤ 100000000) : ∀ (d i : Nat) (l : List S96) (m : Int),l.length = d → i + d = z.length → z.drop i = mkPut m l → 0 ≤ m → m + 2 * d ≤ 10000000000 → Ev (fun k=>laws_heldPutS.l0 k z m (i : Int)) (m + 2 * d)
 | 0,i,l,m,hd,hi,hz,h0,h1=>by
  refine Ev.ofEq ((Ev.now m).to fun k=>?_) (by omega)
  simp only [laws_heldPutS.l0];rw [if_neg (by omega)]
 | d + 1,i,[],m,hd,hi,hz,h0,h1=>by simp at hd
 | d + 1,i,x :: l,m,hd,hi,hz,h0,h1=>by
  have hlt : i < z.length:=by omega
  rw [List.drop_eq_getElem_cons hlt,mkPut,List.cons.injEq] at hz
  have ih:=heldPutS_go z hl d (i + 1) l (m + 2) (by simpa using hd) (by omega) hz.2 (by omega) (by omega)
  refine Ev.ofEq (r:=m + 2 + 2 * d) ?_ (by omega)
  refine Ev.to (f:=fun k=>if z[i].f0 = m then (laws_markText.f k (m + 1)).bind fun t1=>if z[i].f1.toList = t1.toList then laws_heldPutS.l0 k z (m + 2) ((i + 1 : Nat) : Int) else some (-1) else some (-1)) (r:=m + 2 + 2 * d) ?_ fun k=>?_
  ·skip
   refine Ev.ifp (by rw [hz.1]) ?_
   refine (markText _ (by omega)).bind ?_
   refine Ev.ifp (by rw [hz.1]) ?_
   exact ih
  have w0 : wrap64 (m + 1) = m + 1:=wid (by omega) (by omega)
  have w1 : wrap64 (m + 1 + 1) = m + 2:=by rw [wid (by omega) (by omega)];omega
  have w_ : wrap64 ((i : Int) + 1) = ((i + 1 : Nat) : Int):=by rw [wid (by omega) (by omega)];rfl
  simp only [laws_heldPutS.l0,w0,w1,w_,ri_Put hlt]
  clear w_ w0 w1
  rw [if_pos (by omega),if_pos (by omega)]
theorem heldPutS (l : List S96) (m : Int) (hl : l.length ≤ 100000000) (h0 : 0 ≤ m) (h1 : m ≤ 1000000000) : Ev (fun k=>laws_heldPutS.f k (mkPut m l) m) (m + 2 * l.length):=by
 unfold laws_heldPutS.f
 exact heldPutS_go (mkPut m l) (by rw [mkPut_len];exact hl) l.length 0 l m rfl (by rw [mkPut_len];omega) (by simp) h0 (by omega)

theorem heldDevice (s : List ByteArray) (p : List S96) (m : Int) (hs : s.length ≤ 1000000) (hp : p.length ≤ 1000000) (h0 : 0 ≤ m) (h1 : m ≤ 10000000) : Ev (fun k=>laws_heldDevice.f k (mkS m s) (mkPut (m + s.length) p) m) (m + s.length + 2 * p.length):=by
 unfold laws_heldDevice.f
 refine (heldStringS s m (by omega) h0 (by omega)).bind (Ev.ifn (by omega) ((heldPutS p (m + s.length) (by omega) (by omega) (by omega)).bind (Ev.ifn (by omega) (Ev.now _))))

theorem toIntS_go (x0 : List Int) (hl : x0.length ≤ 1048576) : ∀ (d i : Nat) (x3 : List Int),i + d = x0.length → x3.length = x0.length → Ev (fun k=>laws_toIntS.l0 k x0 x3 (i : Int)) (x3.take i ++ x0.drop i)
 | 0,i,x3,hi,h3=>by
  rw [List.drop_of_length_le (by omega),List.take_of_length_le (by omega),List.append_nil]
  refine (Ev.now _).to fun k=>?_
  simp only [laws_toIntS.l0]
  rw [if_neg (by omega)]
 | d + 1,i,x3,hi,h3=>by
  have hlt : i < x0.length:=by omega
  have ih:=toIntS_go x0 hl d (i + 1) (x3.set i x0[i]) (by omega) (by rw [List.length_set];omega)
  rw [set_take _ _ (by omega),List.append_assoc] at ih
  rw [List.drop_eq_getElem_cons hlt]
  refine ih.to fun k=>?_
  simp only [laws_toIntS.l0]
  rw [if_pos (by omega),if_pos (by omega),if_pos (by omega),rd_at hlt,wid (by omega) (by omega)]
  rfl
theorem toIntS (x0 : List Int) (hl : x0.length ≤ 1048576) : Ev (fun k=>laws_toIntS.f k x0) x0:=by
 unfold laws_toIntS.f
 refine Ev.ifp (by omega) (Ev.ifp (by rw [Int.toNat_natCast];omega) ?_)
 have:=toIntS_go x0 hl x0.length 0 (List.replicate ((x0.length : Int) : Int).toNat 0) (by omega) (by rw [List.length_replicate,Int.toNat_natCast])
 simpa using this

theorem eqIntS_go (x0 : List Int) (hl : x0.length ≤ 100000000) : ∀ (d i : Nat),i + d = x0.length → Ev (fun k=>laws_eqIntS.l0 k x0 x0 (i : Int)) true
 | 0,i,hi=>(Ev.now _).to fun k=>by simp only [laws_eqIntS.l0];rw [if_neg (by omega)]
 | d + 1,i,hi=>by
  refine (eqIntS_go x0 hl d (i + 1) (by omega)).to fun k=>?_
  simp only [laws_eqIntS.l0,if_true]
  rw [if_pos (by omega),if_pos (by omega),if_pos (by omega),wid (by omega) (by omega)]
  rfl
theorem eqIntS (x0 : List Int) (hl : x0.length ≤ 100000000) : Ev (fun k=>laws_eqIntS.f k x0 x0) true:=by
 unfold laws_eqIntS.f
 exact Ev.ifp rfl (eqIntS_go x0 hl x0.length 0 (by omega))

def mkI : Int → List Int → List Int
 | _,[]=>[]
 | m,_ :: l=>m :: mkI (m + 1) l
theorem mkI_len : ∀ (l : List Int) (m : Int),(mkI m l).length = l.length
 | [],_=>rfl
 | _ :: l,m=>by simp only [mkI,List.length_cons,mkI_len l]
theorem markIntS_go : ∀ (d i : Nat) (x0 : List Int) (m : Int),i + d = x0.length → x0.length ≤ 100000000 → 0 ≤ m → m + d ≤ 10000000000 → Ev (fun k=>laws_markIntS.l0 k x0 m (i : Int)) (m + d,x0.take i ++ mkI m (x0.drop i))
 | 0,i,x0,m,hi,hl,h0,h1=>by
  rw [List.drop_of_length_le (by omega),List.take_of_length_le (by omega)]
  refine Ev.ofEq ((Ev.now (m,x0)).to fun k=>?_) (by simp [mkI])
  simp only [laws_markIntS.l0];rw [if_neg (by omega)]
 | d + 1,i,x0,m,hi,hl,h0,h1=>by
  have hlt : i < x0.length:=by omega
  have ih:=markIntS_go d (i + 1) (x0.set i m) (m + 1) (by rw [List.length_set];omega) (by rw [List.length_set];omega) (by omega) (by omega)
  rw [set_take _ _ hlt,take_set_drop _ _ hlt,List.append_assoc] at ih
  rw [List.drop_eq_getElem_cons hlt,mkI]
  have e : ((m + 1) + (d : Int),x0.take i ++ ([m] ++ mkI (m + 1) (x0.drop (i + 1)))) = (m + ((d + 1 : Nat) : Int),x0.take i ++ m :: mkI (m + 1) (x0.drop (i + 1))):=by
   rw [List.singleton_append];congr 1;omega
  rw [e] at ih
  refine ih.to fun k=>?_
  have w1 : wrap64 (m + 1) = m + 1:=wid (by omega) (by omega)
  have w2 : wrap64 ((i : Int) + 1) = ((i + 1 : Nat) : Int):=by rw [wid (by omega) (by omega)];rfl
  simp only [laws_markIntS.l0,w1,w2,Int.toNat_natCast,if_pos (show (0 : Int) ≤ (i : Int) by omega),if_pos (show (i : Int) < x0.length by omega)]
theorem markIntS (x0 : List Int) (m : Int) (hl : x0.length ≤ 100000000) (h0 : 0 ≤ m) (h1 : m ≤ 1000000000) : Ev (fun k=>laws_markIntS.f k x0 m) (m + x0.length,mkI m x0):=by
 unfold laws_markIntS.f
 have:=markIntS_go x0.length 0 x0 m (by omega) hl h0 (by omega)
 simpa using this

theorem heldIntS_go (z : List Int) (hl : z.length ≤ 100000000) : ∀ (d i : Nat) (l : List Int) (m : Int),l.length = d → i + d = z.length → z.drop i = mkI m l → 0 ≤ m → m + d ≤ 10000000000 → Ev (fun k=>laws_heldIntS.l0 k z m (i : Int)) (m + d)
 | 0,i,l,m,hd,hi,hz,h0,h1=>by
  refine Ev.ofEq ((Ev.now m).to fun k=>?_) (by omega)
  simp only [laws_heldIntS.l0];rw [if_neg (by omega)]
 | d + 1,i,[],m,hd,hi,hz,h0,h1=>by simp at hd
 | d + 1,i,x :: l,m,hd,hi,hz,h0,h1=>by
  have hlt : i < z.length:=by omega
  rw [List.drop_eq_getElem_cons hlt,mkI,List.cons.injEq] at hz
  have ih:=heldIntS_go z hl d (i + 1) l (m + 1) (by simpa using hd) (by omega) hz.2 (by omega) (by omega)
  refine Ev.ofEq (r:=m + 1 + d) ?_ (by omega)
  refine ih.to fun k=>?_
  have w1 : wrap64 (m + 1) = m + 1:=wid (by omega) (by omega)
  have w2 : wrap64 ((i : Int) + 1) = ((i + 1 : Nat) : Int):=by rw [wid (by omega) (by omega)];rfl
  simp only [laws_heldIntS.l0,w1,w2]
  clear w1 w2
  rw [if_pos (by omega),if_pos (by omega),rd_at hlt,if_pos hz.1]
theorem heldIntS (l : List Int) (m : Int) (hl : l.length ≤ 100000000) (h0 : 0 ≤ m) (h1 : m ≤ 1000000000) : Ev (fun k=>laws_heldIntS.f k (mkI m l) m) (m + l.length):=by
 unfold laws_heldIntS.f
 exact heldIntS_go (mkI m l) (by rw [mkI_len];exact hl) l.length 0 l m rfl (by rw [mkI_len];omega) (by simp) h0 (by omega)

theorem rl_Pair {xs : List S60} {i : Nat} (h : i < xs.length) : rd_T60 xs (i : Int) = xs[i]:=getD_at _ h

def cvPair (x : S60) : S69:=⟨x.f0,x.f1⟩
theorem toPairS_go (x0 : List S60) (hl : x0.length ≤ 1048576) : ∀ (d i : Nat) (x3 : List S69),i + d = x0.length → x3.length = x0.length → Ev (fun k=>laws_toPairS.l0 k x0 x3 (i : Int)) (x3.take i ++ (x0.drop i).map cvPair)
 | 0,i,x3,hi,h3=>by
  rw [List.drop_of_length_le (by omega),List.take_of_length_le (by omega),List.map_nil,List.append_nil]
  refine (Ev.now _).to fun k=>?_
  simp only [laws_toPairS.l0]
  rw [if_neg (by omega)]
 | d + 1,i,x3,hi,h3=>by
  have hlt : i < x0.length:=by omega
  have ih:=toPairS_go x0 hl d (i + 1) (x3.set i (cvPair x0[i])) (by omega) (by rw [List.length_set];omega)
  rw [set_take _ _ (by omega),List.append_assoc] at ih
  rw [List.drop_eq_getElem_cons hlt,List.map_cons]
  refine ih.to fun k=>?_
  simp only [laws_toPairS.l0]
  rw [if_pos (by omega),if_pos (by omega),rl_Pair hlt]
  simp only [laws_toPair.f,Option.bind_some]
  rw [if_pos (by omega),wid (by omega) (by omega)]
  rfl
theorem toPairS (x0 : List S60) (hl : x0.length ≤ 1048576) : Ev (fun k=>laws_toPairS.f k x0) (x0.map cvPair):=by
 unfold laws_toPairS.f
 refine Ev.ifp (by omega) (Ev.ifp (by rw [Int.toNat_natCast];omega) ?_)
 have:=toPairS_go x0 hl x0.length 0 (List.replicate ((x0.length : Int) : Int).toNat z69) (by omega) (by rw [List.length_replicate,Int.toNat_natCast])
 simpa using this

theorem eqPair_self (x : S69) : laws_eqPair.f x.f0 x.f1 x.f0 x.f1 = some true:=by unfold laws_eqPair.f;simp
theorem eqPairS_go (x0 : List S69) (hl : x0.length ≤ 100000000) : ∀ (d i : Nat),i + d = x0.length → Ev (fun k=>laws_eqPairS.l0 k x0 x0 (i : Int)) true
 | 0,i,hi=>(Ev.now _).to fun k=>by simp only [laws_eqPairS.l0];rw [if_neg (by omega)]
 | d + 1,i,hi=>by
  refine (eqPairS_go x0 hl d (i + 1) (by omega)).to fun k=>?_
  simp only [laws_eqPairS.l0]
  rw [if_pos (by omega),if_pos (by omega),if_pos (by omega),eqPair_self]
  simp only [Option.bind_some,if_true]
  rw [wid (by omega) (by omega)]
  rfl
theorem eqPairS (x0 : List S69) (hl : x0.length ≤ 100000000) : Ev (fun k=>laws_eqPairS.f k x0 x0) true:=by
 unfold laws_eqPairS.f
 exact Ev.ifp rfl (eqPairS_go x0 hl x0.length 0 (by omega))

def okPair (x : S60) : Prop:=x.f0.size ≤ 9223372036854775807 ∧ x.f1.size ≤ 9223372036854775807
def smallPair (x : S60) : Prop:=x.f0.size ≤ 1048576 ∧ x.f1.size ≤ 1048576
theorem szPair_ (x : S60) (hx : okPair x) (m : Int) (h0 : 0 ≤ m) (h1 : m ≤ 1048576) : ∃ r,laws_szPair.f x.f0 x.f1 m = some r ∧ (r < 0 ∨ (r ≤ m ∧ smallPair x)):=by
 unfold laws_szPair.f
 unfold okPair at hx
 unfold smallPair
 have w1 : wrap64 (m - (x.f0.size : Int)) = m - x.f0.size:=wid (by omega) (by omega)
 rw [w1];clear w1
 by_cases h2 : m - (x.f0.size : Int) < 0
 ·rw [if_pos h2];exact ⟨_,rfl,.inl (by omega)⟩
 rw [if_neg h2]
 have w2 : wrap64 (m - (x.f0.size : Int) - x.f1.size) = m - x.f0.size - x.f1.size:=wid (by omega) (by omega)
 rw [w2];clear w2
 split
 ·exact ⟨_,rfl,.inl (by omega)⟩
 exact ⟨_,rfl,.inr ⟨by omega,by omega,by omega⟩⟩
theorem szPairS_go (x0 : List S60) (hl : x0.length ≤ 1048576) (hx : ∀ x ∈ x0,okPair x) : ∀ (d i : Nat) (m : Int),i + d = x0.length → 0 ≤ m → m ≤ 1048576 → ∃ r,Ev (fun k=>laws_szPairS.l0 k x0 m (i : Int)) r ∧ (r < 0 ∨ (r ≤ m ∧ ∀ x ∈ x0.drop i,smallPair x))
 | 0,i,m,hi,h0,h1=>⟨m,(Ev.now _).to fun k=>by simp only [laws_szPairS.l0];rw [if_neg (by omega)],.inr ⟨by omega,fun x h=>by rw [List.drop_of_length_le (by omega)] at h;simp at h⟩⟩
 | d + 1,i,m,hi,h0,h1=>by
  have hlt : i < x0.length:=by omega
  obtain ⟨r,hr,hc⟩:=szPair_ x0[i] (hx _ (List.getElem_mem hlt)) m h0 h1
  by_cases hn : r < 0
  ·refine ⟨-1,(Ev.now _).to fun k=>?_,.inl (by omega)⟩
   simp only [laws_szPairS.l0]
   rw [if_pos (by omega),if_pos (by omega),rl_Pair hlt,hr]
   simp only [Option.bind_some]
   rw [if_pos hn]
  have hc':=hc.resolve_left hn
  obtain ⟨r',hr',hc2⟩:=szPairS_go x0 hl hx d (i + 1) r (by omega) (by omega) (by omega)
  refine ⟨r',hr'.to fun k=>?_,?_⟩
  ·simp only [laws_szPairS.l0]
   rw [if_pos (by omega),if_pos (by omega),rl_Pair hlt,hr]
   simp only [Option.bind_some]
   rw [if_neg hn,wid (by omega) (by omega)]
   rfl
  rcases hc2 with hc2|⟨h2,h3⟩
  ·exact .inl hc2
  refine .inr ⟨by omega,fun x hx'=>?_⟩
  rw [List.drop_eq_getElem_cons hlt] at hx'
  rcases List.mem_cons.1 hx' with rfl|hx'
  ·exact hc'.2
  exact h3 x hx'
theorem szPairS (x0 : List S60) (hl : x0.length ≤ 9223372036854775807) (hx : ∀ x ∈ x0,okPair x) (m : Int) (h0 : 0 ≤ m) (h1 : m ≤ 1048576) : ∃ r,Ev (fun k=>laws_szPairS.f k x0 m) r ∧ (r < 0 ∨ (r ≤ m ∧ x0.length ≤ 1048576 ∧ ∀ x ∈ x0,smallPair x)):=by
 unfold laws_szPairS.f
 have w : wrap64 (m - (x0.length : Int)) = m - x0.length:=wid (by omega) (by omega)
 rw [w];clear w
 by_cases hn : m - (x0.length : Int) < 0
 ·exact ⟨-1,Ev.ifp hn (Ev.now _),.inl (by omega)⟩
 obtain ⟨r,hr,hc⟩:=szPairS_go x0 (by omega) hx x0.length 0 (m - x0.length) (by omega) (by omega) (by omega)
 refine ⟨r,Ev.ifn hn hr,?_⟩
 rcases hc with hc|⟨h2,h3⟩
 ·exact .inl hc
 exact .inr ⟨by omega,by omega,fun x hx'=>h3 x (by simpa using hx')⟩

def mkPair : Int → List S69 → List S69
 | _,[]=>[]
 | m,_ :: l=>⟨mText m,mText (m + 1)⟩ :: mkPair (m + 2) l
theorem ri_set_Pair {xs : List S69} {i : Nat} (v : S69) (h : i < xs.length) : rd_T69 (xs.set i v) (i : Int) = v:=by
 rw [ri_Pair (by rw [List.length_set];exact h),List.getElem_set_self]
theorem markPairS_go : ∀ (d i : Nat) (x0 : List S69) (m : Int),i + d = x0.length → x0.length ≤ 100000000 → 0 ≤ m → m + 2 * d ≤ 10000000000 → Ev (fun k=>laws_markPairS.l0 k x0 m (i : Int)) (m + 2 * d,x0.take i ++ mkPair m (x0.drop i))
 | 0,i,x0,m,hi,hl,h0,h1=>by
  rw [List.drop_of_length_le (by omega),List.take_of_length_le (by omega)]
  refine Ev.ofEq ((Ev.now (m,x0)).to fun k=>?_) (by simp [mkPair])
  simp only [laws_markPairS.l0];rw [if_neg (by omega)]
 | d + 1,i,x0,m,hi,hl,h0,h1=>by
  have hlt : i < x0.length:=by omega
  have ih:=markPairS_go d (i + 1) (x0.set i ⟨mText m,mText (m + 1)⟩) (m + 2) (by rw [List.length_set];omega) (by rw [List.length_set];omega) (by omega) (by omega)
  rw [set_take _ _ hlt,take_set_drop _ _ hlt,List.append_assoc] at ih
  rw [List.drop_eq_getElem_cons hlt,mkPair]
  have e : ((m + 2) + 2 * (d : Int),x0.take i ++ ([⟨mText m,mText (m + 1)⟩] ++ mkPair (m + 2) (x0.drop (i + 1)))) = (m + 2 * ((d + 1 : Nat) : Int),x0.take i ++ ⟨mText m,mText (m + 1)⟩ :: mkPair (m + 2) (x0.drop (i + 1))):=by
   rw [List.singleton_append];congr 1;omega
  rw [e] at ih
  refine Ev.to (f:=fun k=>(laws_markText.f k (m)).bind fun t0=>(laws_markText.f k (m + 1)).bind fun t1=>laws_markPairS.l0 k (x0.set i ⟨t0,t1⟩) (m + 2) ((i + 1 : Nat) : Int)) (r:=(m + 2 * ((d + 1 : Nat) : Int),x0.take i ++ ⟨mText m,mText (m + 1)⟩ :: mkPair (m + 2) (x0.drop (i + 1)))) ?_ fun k=>?_
  ·skip
   refine (markText _ (by omega)).bind ?_
   refine (markText _ (by omega)).bind ?_
   exact ih
  have w0 : wrap64 (m + 1) = m + 1:=wid (by omega) (by omega)
  have w1 : wrap64 (m + 1 + 1) = m + 2:=by rw [wid (by omega) (by omega)];omega
  have w_ : wrap64 ((i : Int) + 1) = ((i + 1 : Nat) : Int):=by rw [wid (by omega) (by omega)];rfl
  simp only [laws_markPairS.l0,w0,w1,w_,Int.toNat_natCast,Option.bind_some,ri_Pair hlt,ri_set_Pair _ hlt,List.set_set,if_pos (show (i : Int) < (x0.length : Int) by omega),if_pos (show (0 : Int) ≤ (i : Int) by omega)]
theorem markPairS (x0 : List S69) (m : Int) (hl : x0.length ≤ 100000000) (h0 : 0 ≤ m) (h1 : m ≤ 1000000000) : Ev (fun k=>laws_markPairS.f k x0 m) (m + 2 * x0.length,mkPair m x0):=by
 unfold laws_markPairS.f
 have:=markPairS_go x0.length 0 x0 m (by omega) hl h0 (by omega)
 simpa using this

theorem FnExactPlaceTree (l0 : List ByteArray) (p0 : List S102) (u : List Int) (m0 : List S60) (hs : l0.length ≤ 9223372036854775807 ∧ ∀ x ∈ l0,x.size ≤ 9223372036854775807) (hp : p0.length ≤ 9223372036854775807 ∧ ∀ x ∈ p0,okPut x) (hu : u.length ≤ 9223372036854775807) (hm : m0.length ≤ 9223372036854775807 ∧ ∀ x ∈ m0,okPair x) : LawOk l0 p0 u m0:=by
 by_cases hb : (u.length : Int) > 1048576
 ·exact .long hb
 have hul : u.length ≤ 1048576:=by omega
 obtain ⟨r,hr,hc⟩:=szDevice l0 p0 hs.1 hs.2 hp.1 hp.2 1048576 (by decide) (by decide)
 by_cases h : r < 0
 ·exact .dev hb r hr h
 obtain ⟨hrm,h1,_,h2,_⟩:=hc.resolve_left h
 obtain ⟨r',hr',hc'⟩:=szPairS m0 hm.1 hm.2 r (by omega) (by omega)
 by_cases h' : r' < 0
 ·exact .map hb r hr h r' hr' h'
 have hml:=(hc'.resolve_left h').2.1
 obtain ⟨r1,r2,r3,r4,r5,hsp,him,b1,b2,b4⟩:=tree_eq l0 (p0.map cvPut) u (m0.map cvPair) h1 (by rw [List.length_map];exact h2) hul (by rw [List.length_map];exact hml)
 have hm1 : (p0.map cvPut).length ≤ 1048576:=by rw [List.length_map];exact h2
 have hm2 : (m0.map cvPair).length ≤ 1048576:=by rw [List.length_map];exact hml
 exact .main hb r hr h r' hr' h' _ _ _ r1 r2 r3 r4 r5 _ _ _ _ _ _ _ _ _ _ _ _
  { td:=toDevice l0 p0 h1 h2, tu:=toIntS u hul, tm:=toPairS m0 hml, sp:=hsp, im:=him, ed:=eqDevice r1 r2 (by omega) (by omega), ei:=eqIntS r4 (by omega), e0:=eqDevice l0 _ (by omega) (by omega), eu:=eqIntS u (by omega), em:=eqPairS _ (by omega), k1:=mark0 l0 _ h1 hm1, k2:=markIntS u _ (by omega) (by omega) (by omega), k3:=markPairS _ _ (by omega) (by omega) (by omega), n3:=by omega, m1:=mark0 r1 r2 (by omega) (by omega), m2:=markIntS r4 _ (by omega) (by omega) (by omega), h1:=heldDevice r1 r2 1 (by omega) (by omega) (by omega) (by omega), h2:=heldIntS r4 _ (by omega) (by omega) (by omega), q1:=by omega, q2:=by omega }

end Go.Proofs.Ytcnoccefdejphaa.Pure
