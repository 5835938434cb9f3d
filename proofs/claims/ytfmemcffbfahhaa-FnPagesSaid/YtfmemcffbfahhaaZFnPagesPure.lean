/- A drawn page comes back from its text, which is not longer than a sector; with one byte turned it is none: whatever the bytes that are drawn from. -/
import Derived.Test.YtfmemcffbfahhaaZFnPagesx10
import Derived.Laws.BitsAllLaws
namespace Go.Proofs.Ytfmemcffbfahhaa.Pure
open Go.RowKit Go.Proofs.Ytfmemcffbfahhaa.QFnPages Go.Proofs.YtfmemcffbfahhaaW.PrintWords Go.Proofs.YtfmemcffbfahhaaW.PrintLast
set_option linter.unusedVariables false
set_option linter.unusedSimpArgs false
set_option maxHeartbeats 4000000

theorem wid {n : Int} (h0 : -9223372036854775808 ≤ n) (h1 : n < 9223372036854775808) : wrap64 n = n:=by unfold wrap64;omega
theorem _root_.Go.Proofs.YtfmemcffbfahhaaW.PrintWords.Ev.same {α : Type} {o : Option α} {r : α} (h : o = some r) : Ev (fun _=>o) r:=⟨0,fun _ _=>h⟩
theorem _root_.Go.Proofs.YtfmemcffbfahhaaW.PrintWords.Ev.to {α : Type} {g f : Nat → Option α} {r : α} (k : Ev f r) (h : ∀ k,g (k + 1) = f k) : Ev g r:=Ev.step h k
theorem _root_.Go.Proofs.YtfmemcffbfahhaaW.PrintWords.Ev.cg {α : Type} {g f : Nat → Option α} {r : α} (k : Ev f r) (h : ∀ k,g k = f k) : Ev g r:=Ev.congr h k
theorem _root_.Go.Proofs.YtfmemcffbfahhaaW.PrintWords.Ev.ifp {α : Type} {c : Prop} [Decidable c] {g f : Nat → Option α} {r : α} (h : c) (e : Ev g r) : Ev (fun k=>if c then g k else f k) r:=by simp only [if_pos h];exact e
theorem _root_.Go.Proofs.YtfmemcffbfahhaaW.PrintWords.Ev.ifn {α : Type} {c : Prop} [Decidable c] {g f : Nat → Option α} {r : α} (h : ¬ c) (e : Ev f r) : Ev (fun k=>if c then g k else f k) r:=by simp only [if_neg h];exact e
/-- The bytes of a string, as numbers. -/
def bl (s : ByteArray) : List Int:=s.data.toList.map fun b=>(b.toNat : Int)
theorem bl_len (s : ByteArray) : (bl s).length = s.size:=by unfold bl;rw [List.length_map];rfl
def Byt (xs : List Int) : Prop:=∀ x ∈ xs,0 ≤ x ∧ x < 256
theorem Byt.nil : Byt []:=fun _ h=>by simp at h
theorem Byt.cons {x : Int} {xs : List Int} (h : 0 ≤ x ∧ x < 256) (h' : Byt xs) : Byt (x :: xs):=fun y hy=>by
 rcases List.mem_cons.1 hy with rfl|hy
 ·exact h
 ·exact h' y hy
theorem Byt.app {xs ys : List Int} (h : Byt xs) (h' : Byt ys) : Byt (xs ++ ys):=fun y hy=>by
 rcases List.mem_append.1 hy with hy|hy
 ·exact h y hy
 ·exact h' y hy
theorem Byt.left {xs ys : List Int} (h : Byt (xs ++ ys)) : Byt xs:=fun y hy=>h y (List.mem_append_left _ hy)
theorem Byt.right {xs ys : List Int} (h : Byt (xs ++ ys)) : Byt ys:=fun y hy=>h y (List.mem_append_right _ hy)
theorem Byt.tail {x : Int} {xs : List Int} (h : Byt (x :: xs)) : Byt xs:=fun y hy=>h y (List.mem_cons_of_mem _ hy)
theorem Byt.head {x : Int} {xs : List Int} (h : Byt (x :: xs)) : 0 ≤ x ∧ x < 256:=h x (List.mem_cons_self ..)
theorem Byt.drop {xs : List Int} (h : Byt xs) (n : Nat) : Byt (xs.drop n):=fun y hy=>h y (List.mem_of_mem_drop hy)
theorem Byt.take {xs : List Int} (h : Byt xs) (n : Nat) : Byt (xs.take n):=fun y hy=>h y (List.mem_of_mem_take hy)
theorem bl_byt (s : ByteArray) : Byt (bl s):=fun x hx=>by
 obtain ⟨b,_,rfl⟩:=List.mem_map.1 hx
 have:=b.toNat_lt
 omega
theorem bl_str {xs : List Int} (h : Byt xs) : bl (strOfNums xs) = xs:=by
 unfold bl
 rw [strOfNums_data,List.map_map]
 conv=>rhs;rw [← List.map_id xs]
 apply List.map_congr_left
 intro x hx
 have:=h x hx
 simp only [Function.comp,id]
 obtain ⟨n,rfl⟩:=Int.eq_ofNat_of_zero_le this.1
 simp
 omega
theorem str_bl (s : ByteArray) : strOfNums (bl s) = s:=by
 unfold strOfNums bl
 rw [List.map_map]
 have : ((fun n : Int=>UInt8.ofNat n.toNat) ∘ fun b : UInt8=>(b.toNat : Int)) = id:=by
  funext b
  simp
 rw [this,List.map_id]
theorem bl_inj {a b : ByteArray} (h : bl a = bl b) : a = b:=by rw [← str_bl a,← str_bl b,h]
theorem bt_bl (s : ByteArray) (i : Int) : bt s i = (bl s).getD i.toNat 0:=by
 unfold bt
 split
 ·rename_i h
  have hl : i.toNat < s.data.toList.length:=h
  simp only [bl,List.getD_eq_getElem?_getD,List.getElem?_map,List.getElem?_eq_getElem hl,Option.map_some,Option.getD_some]
  rfl
 ·rename_i h
  rw [List.getD_eq_getElem?_getD,List.getElem?_eq_none (by rw [bl_len];omega)]
  rfl
theorem bl_app (a b : ByteArray) : bl (a ++ b) = bl a ++ bl b:=by
 unfold bl
 rw [ByteArray.data_append,Array.toList_append,List.map_append]
theorem bl_ext (a : ByteArray) (i j : Nat) : bl (a.extract i j) = ((bl a).take j).drop i:=by
 unfold bl
 rw [ByteArray.data_extract,Array.toList_extract,List.extract_eq_take_drop,List.map_take,List.map_drop,List.drop_take]
theorem bl_cons {s : ByteArray} {i : Nat} (h : i < s.size) : (bl s).drop i = bt s (i : Int) :: (bl s).drop (i + 1):=by
 have hl : i < (bl s).length:=by rw [bl_len];exact h
 rw [List.drop_eq_getElem_cons hl,bt_bl,List.getD_eq_getElem?_getD,Int.toNat_natCast,List.getElem?_eq_getElem hl]
 rfl
theorem bl_end {s : ByteArray} {i : Nat} (h : s.size ≤ i) : (bl s).drop i = []:=List.drop_of_length_le (by rw [bl_len];exact h)
theorem tl_inj {a b : ByteArray} : a.toList = b.toList ↔ a = b:=by
 constructor
 ·intro h
  rw [ByteArray.toList_eq,ByteArray.toList_eq] at h
  apply ByteArray.ext
  exact Array.toList_inj.1 h
 ·rintro rfl;rfl
theorem tl_bl {a b : ByteArray} : a.toList = b.toList ↔ bl a = bl b:=tl_inj.trans ⟨fun h=>h ▸ rfl,bl_inj⟩
theorem tdiv_pos {a b : Int} (h : 0 ≤ a) : Int.tdiv a b = a / b:=Int.tdiv_eq_ediv_of_nonneg h
theorem tmod_pos {a b : Int} (h : 0 ≤ a) : Int.tmod a b = a % b:=Int.tmod_eq_emod_of_nonneg h
theorem Byt.one {x : Int} (h : 0 ≤ x ∧ x < 256) : Byt [x]:=Byt.nil.cons h
theorem bl_size (s : ByteArray) : s.size = (bl s).length:=(bl_len s).symm
theorem str_len (xs : List Int) : (strOfNums xs).size = xs.length:=strOfNums_size xs

/-! Draws: whatever the bytes, a number in its bounds -/
theorem and255 (y : Int) : 0 ≤ Go.bits .and .i64 y 255 ∧ Go.bits .and .i64 y 255 < 256:=by
 have h : (BitVec.ofInt 64 y &&& BitVec.ofInt 64 255).toNat ≤ 255:=by
  rw [BitVec.toNat_and];exact Nat.le_trans Nat.and_le_right (by decide)
 have e : Go.bits .and .i64 y 255 = IntKind.i64.wrap ((BitVec.ofInt 64 y &&& BitVec.ofInt 64 255).toNat : Nat):=rfl
 rw [e,IntKind.wrap_i64]
 omega
theorem dByte (b : List Int) (i h : Int) (hb : b.length ≤ 140737488351232) (hi : 0 ≤ i) : ∃ x i' h',spec_l01Byte.f b i h = some (x,i',h') ∧ 0 ≤ x ∧ x < 256 ∧ 0 ≤ i':=by
 unfold spec_l01Byte.f
 by_cases h1 : i < (b.length : Int)
 ·have w : wrap64 (i + 1) = i + 1:=wid (by omega) (by omega)
  rw [w];clear w
  rw [if_pos h1,if_pos hi]
  exact ⟨_,_,_,rfl,(and255 _).1,(and255 _).2,by omega⟩
 ·rw [if_neg h1]
  exact ⟨_,_,_,rfl,(and255 _).1,(and255 _).2,hi⟩
theorem dBelow (b : List Int) (i h n : Int) (hb : b.length ≤ 140737488351232) (hi : 0 ≤ i) (hn : 0 < n) : ∃ x i' h',spec_l01Below.f b i h n = some (x,i',h') ∧ 0 ≤ x ∧ x < n ∧ 0 ≤ i':=by
 unfold spec_l01Below.f
 rw [if_neg (by omega)]
 obtain ⟨x1,i1,h1,e1,p1,q1,r1⟩:=dByte b i h hb hi
 by_cases hs : n ≤ 256
 ·rw [if_pos hs,e1]
  simp only [Option.bind_some]
  rw [if_neg (by omega),tmod_pos p1]
  exact ⟨_,_,_,rfl,Int.emod_nonneg _ (by omega),Int.emod_lt_of_pos _ hn,r1⟩
 ·obtain ⟨x2,i2,h2,e2,p2,q2,r2⟩:=dByte b i1 h1 hb r1
  obtain ⟨x3,i3,h3,e3,p3,q3,r3⟩:=dByte b i2 h2 hb r2
  obtain ⟨x4,i4,h4,e4,p4,q4,r4⟩:=dByte b i3 h3 hb r3
  have w1 : wrap64 (x1 * 16777216) = x1 * 16777216:=wid (by omega) (by omega)
  have w2 : wrap64 (x2 * 65536) = x2 * 65536:=wid (by omega) (by omega)
  have w3 : wrap64 (x3 * 256) = x3 * 256:=wid (by omega) (by omega)
  have w4 : wrap64 (x1 * 16777216 + x2 * 65536) = x1 * 16777216 + x2 * 65536:=wid (by omega) (by omega)
  have w5 : wrap64 (x1 * 16777216 + x2 * 65536 + x3 * 256) = x1 * 16777216 + x2 * 65536 + x3 * 256:=wid (by omega) (by omega)
  have w6 : wrap64 (x1 * 16777216 + x2 * 65536 + x3 * 256 + x4) = x1 * 16777216 + x2 * 65536 + x3 * 256 + x4:=wid (by omega) (by omega)
  rw [if_neg hs,e1]
  simp only [Option.bind_some]
  rw [e2]
  simp only [Option.bind_some]
  rw [e3]
  simp only [Option.bind_some]
  rw [e4]
  simp only [Option.bind_some,w1,w2,w3,w4,w5,w6]
  clear w1 w2 w3 w4 w5 w6
  rw [if_neg (by omega),tmod_pos (by omega)]
  exact ⟨_,_,_,rfl,Int.emod_nonneg _ (by omega),Int.emod_lt_of_pos _ hn,r4⟩
theorem dNew_go (b : List Int) (hb : b.length ≤ 140737488351232) : ∀ (d i : Nat) (x : Int),i + d = b.length → ∃ h,Ev (fun k=>spec_l01New.l0 k b x (i : Int)) (b,0,h)
 | 0,i,x,hi=>⟨x,(Ev.now _).to fun k=>by simp only [spec_l01New.l0];rw [if_neg (by omega)]⟩
 | d + 1,i,x,hi=>by
  by_cases h4 : (i : Int) < 4000
  ·have w : wrap64 ((i : Int) + 1) = ((i + 1 : Nat) : Int):=by rw [wid (by omega) (by omega)];rfl
   obtain ⟨h,e⟩:=dNew_go b hb d (i + 1) (Go.bits .and .i64 (wrap64 ((wrap64 ((wrap64 (x * 131)) + (wrap64 (rd b (i : Int))))) + 7)) 1073741823) (by omega)
   refine ⟨h,e.to fun k=>?_⟩
   simp only [spec_l01New.l0,w]
   clear w
   rw [if_pos (by omega),if_pos h4,if_pos (by omega)]
  ·exact ⟨x,(Ev.now _).to fun k=>by simp only [spec_l01New.l0];rw [if_pos (by omega),if_neg h4]⟩
theorem dNew (b : List Int) (hb : b.length ≤ 140737488351232) : ∃ h,Ev (fun k=>spec_l01New.f k b) (b,0,h):=by
 unfold spec_l01New.f
 exact dNew_go b hb b.length 0 _ (by omega)

theorem dPickInt (b : List Int) (i h : Int) (l : List Int) (hb : b.length ≤ 140737488351232) (hi : 0 ≤ i) (hl : 0 < l.length) : ∃ x i' h',spec_l01PickInt.f b i h l = some (x,i',h') ∧ 0 ≤ i':=by
 obtain ⟨y,i1,h1,e,p,q,r⟩:=dBelow b i h (l.length : Int) hb hi (by omega)
 refine ⟨rd l y,i1,h1,?_,r⟩
 unfold spec_l01PickInt.f
 rw [e]
 simp only [Option.bind_some]
 rw [if_pos p,if_pos q]

theorem dText_go (b : List Int) (hb : b.length ≤ 140737488351232) (n : Int) (hn : n ≤ 5000) : ∀ (d : Nat) (acc : List Int) (j i h : Int),0 ≤ j → (acc.length : Int) = j → j + d = n → 0 ≤ i → Byt acc →
  ∃ s i' h',Ev (fun k=>spec_l01Text.l0 k n acc j b i h) (s,i',h') ∧ (s.size : Int) = n ∧ 0 ≤ i'
 | 0,acc,j,i,h,hj,hl,hd,hi,hB=>⟨strOfNums acc,i,h,(Ev.now _).to fun k=>by simp only [spec_l01Text.l0];rw [if_neg (by omega)],by rw [str_len];omega,hi⟩
 | d + 1,acc,j,i,h,hj,hl,hd,hi,hB=>by
  obtain ⟨x,i1,h1,e,p,q,r⟩:=dByte b i h hb hi
  have w : wrap64 (j + 1) = j + 1:=wid (by omega) (by omega)
  obtain ⟨s,i',h',ev,hs,hi'⟩:=dText_go b hb n hn d (acc ++ [x % 256]) (j + 1) i1 h1 (by omega) (by rw [List.length_append];simp;omega) (by omega) r (hB.app (Byt.one ⟨by omega,by omega⟩))
  refine ⟨s,i',h',ev.to fun k=>?_,hs,hi'⟩
  simp only [spec_l01Text.l0,w,e,Option.bind_some]
  clear w
  rw [if_pos (by omega),if_pos (by omega)]
theorem dText (b : List Int) (hb : b.length ≤ 140737488351232) (n i h : Int) (h0 : 0 ≤ n) (hn : n ≤ 5000) (hi : 0 ≤ i) : ∃ s i' h',Ev (fun k=>spec_l01Text.f k b i h n) (s,i',h') ∧ (s.size : Int) = n ∧ 0 ≤ i':=by
 obtain ⟨s,i',h',ev,hs,hi'⟩:=dText_go b hb n hn n.toNat [] 0 i h (by omega) rfl (by omega) hi Byt.nil
 refine ⟨s,i',h',?_,hs,hi'⟩
 unfold spec_l01Text.f
 exact Ev.ifn (by omega) (ev.to fun k=>by simp only [spec_l01Text.j0])

theorem getD_at {α : Type} {xs : List α} {i : Nat} (z : α) (h : i < xs.length) : xs.getD ((i : Int)).toNat z = xs[i]:=by
 rw [Int.toNat_natCast,List.getD_eq_getElem?_getD,List.getElem?_eq_getElem h];rfl
theorem rdOf_at {α : Type} {xs : List α} {i : Nat} (z : α) (h : i < xs.length) : rdOf z xs (i : Int) = xs[i]:=getD_at z h
theorem rd_at {xs : List Int} {i : Nat} (h : i < xs.length) : rd xs (i : Int) = xs[i]:=getD_at 0 h
theorem dLong_go (x : Int) (n : Int) (hn : n ≤ 100000) : ∀ (d : Nat) (acc : List Int) (j : Int),0 ≤ j → (acc.length : Int) = n → j + d = n →
  ∃ s,Ev (fun k=>spec_l01Long.l0 k n x acc j) s ∧ (s.size : Int) = n
 | 0,acc,j,hj,hl,hd=>⟨strOfNums acc,(Ev.now _).to fun k=>by simp only [spec_l01Long.l0];rw [if_neg (by omega)],by rw [str_len];omega⟩
 | d + 1,acc,j,hj,hl,hd=>by
  have w : wrap64 (j + 1) = j + 1:=wid (by omega) (by omega)
  obtain ⟨s,ev,hs⟩:=dLong_go x n hn d (acc.set j.toNat x) (j + 1) (by omega) (by rw [List.length_set];exact hl) (by omega)
  refine ⟨s,ev.to fun k=>?_,hs⟩
  simp only [spec_l01Long.l0,w]
  clear w
  rw [if_pos (by omega),if_pos hj,if_pos (by omega)]
theorem dLong (n x : Int) (h0 : 0 ≤ n) (hn : n ≤ 100000) : ∃ s,Ev (fun k=>spec_l01Long.f k n x) s ∧ (s.size : Int) = n:=by
 unfold spec_l01Long.f
 obtain ⟨s,ev,hs⟩:=dLong_go x n hn n.toNat (List.replicate n.toNat 0) 0 (by omega) (by rw [List.length_replicate];omega) (by omega)
 exact ⟨s,Ev.ifp h0 (Ev.ifp (by omega) ev),hs⟩

/-! Numbers in bytes -/
def varB (n : Nat) : List Int:=if h : n > 127 then (((n % 128 + 128 : Nat) : Int)) :: varB (n / 128) else [(n : Int)]
termination_by n
decreasing_by omega
theorem varB_big {n : Nat} (h : n > 127) : varB n = (((n % 128 + 128 : Nat) : Int)) :: varB (n / 128):=by rw [varB,dif_pos h]
theorem varB_small {n : Nat} (h : ¬ n > 127) : varB n = [(n : Int)]:=by rw [varB,dif_neg h]
theorem varB_byt (n : Nat) : Byt (varB n):=by
 induction n using Nat.strongRecOn with
 | _ n ih =>
  by_cases h : n > 127
  ·rw [varB_big h];exact (ih _ (by omega)).cons ⟨by omega,by omega⟩
  ·rw [varB_small h];exact Byt.one ⟨by omega,by omega⟩
theorem varB_pos (n : Nat) : 1 ≤ (varB n).length:=by
 by_cases h : n > 127
 ·rw [varB_big h];simp
 ·rw [varB_small h];simp
theorem varB_len (n : Nat) : (varB n).length ≤ n + 1:=by
 induction n using Nat.strongRecOn with
 | _ n ih =>
  by_cases h : n > 127
  ·rw [varB_big h];have:=ih (n / 128) (by omega);simp only [List.length_cons];omega
  ·rw [varB_small h];simp
theorem varB_len1 {n : Nat} (h : n < 128) : (varB n).length = 1:=by rw [varB_small (by omega)];rfl
theorem varB_len2 {n : Nat} (h : n < 16384) : (varB n).length ≤ 2:=by
 by_cases h1 : n > 127
 ·rw [varB_big h1,List.length_cons,varB_len1 (by omega)];omega
 ·rw [varB_small h1];simp
theorem varB_len5 {n : Nat} (h : n ≤ 1000000000) : (varB n).length ≤ 5:=by
 by_cases h1 : n > 127
 ·rw [varB_big h1,List.length_cons]
  by_cases h2 : n / 128 > 127
  ·rw [varB_big h2,List.length_cons]
   by_cases h3 : n / 128 / 128 > 127
   ·rw [varB_big h3,List.length_cons]
    have:=varB_len2 (n:=n / 128 / 128 / 128) (by omega)
    omega
   ·rw [varB_small h3];simp
  ·rw [varB_small h2];simp
 ·rw [varB_small h1];simp
/-- The number that bytes tell, the first the lowest. -/
def dec : List Int → Int
 | []=>0
 | c :: l=>c % 128 + 128 * dec l
theorem dec_nonneg : ∀ l : List Int,0 ≤ dec l
 | []=>by simp [dec]
 | c :: l=>by have:=dec_nonneg l;simp only [dec];omega
theorem dec_snoc : ∀ (l : List Int) (c : Int),dec (l ++ [c]) = dec l + c % 128 * 128 ^ l.length
 | [],c=>by simp [dec]
 | a :: l,c=>by
  have:=dec_snoc l c
  simp only [List.cons_append,dec,this,List.length_cons,Int.pow_succ]
  rw [Int.mul_add]
  have : 128 * (c % 128 * 128 ^ l.length) = c % 128 * (128 ^ l.length * 128):=by rw [Int.mul_comm 128,Int.mul_assoc]
  omega
/-- Bytes above 127, and one more. -/
def Hi (l : List Int) : Prop:=∀ x ∈ l,128 ≤ x ∧ x < 256
theorem dec_pos : ∀ (l : List Int) (c : Int),0 < c → c < 128 → 1 ≤ dec (l ++ [c])
 | [],c,h,h'=>by simp only [List.nil_append,dec];omega
 | a :: l,c,h,h'=>by have:=dec_pos l c h h';simp only [List.cons_append,dec];omega
theorem varB_dec : ∀ (l : List Int) (c : Int),Hi l → 0 ≤ c → c < 128 → (l = [] ∨ c ≠ 0) → varB (dec (l ++ [c])).toNat = l ++ [c]
 | [],c,_,h,h',_=>by
  simp only [List.nil_append,dec]
  rw [varB_small (by omega)]
  congr 1
  omega
 | a :: l,c,hl,h,h',hc=>by
  have ha:=hl a (List.mem_cons_self ..)
  have hp:=dec_pos l c (by rcases hc with h|h <;> simp_all <;> omega) h'
  have ih:=varB_dec l c (fun x hx=>hl x (List.mem_cons_of_mem _ hx)) h h' (by rcases hc with h|h <;> simp_all)
  simp only [List.cons_append,dec]
  rw [varB_big (by omega)]
  have e : (a % 128 + 128 * dec (l ++ [c])).toNat / 128 = (dec (l ++ [c])).toNat:=by omega
  rw [e,ih]
  congr 1
  omega
theorem varB_last (n : Nat) : ∃ l c,varB n = l ++ [c] ∧ Hi l ∧ 0 ≤ c ∧ c < 128 ∧ (l = [] ∨ c ≠ 0) ∧ dec (l ++ [c]) = n:=by
 induction n using Nat.strongRecOn with
 | _ n ih =>
  by_cases h : n > 127
  ·obtain ⟨l,c,e,hl,h0,h1,hc,hd⟩:=ih (n / 128) (by omega)
   refine ⟨((n % 128 + 128 : Nat) : Int) :: l,c,by rw [varB_big h,e];rfl,fun x hx=>?_,h0,h1,Or.inr ?_,?_⟩
   ·rcases List.mem_cons.1 hx with rfl|hx
    ·omega
    ·exact hl x hx
   ·rintro rfl
    have : l = []:=by simpa using hc
    subst this
    simp [dec] at hd
    omega
   ·simp only [List.cons_append,dec,hd];omega
  ·exact ⟨[],n,by rw [varB_small h];rfl,fun _ hx=>by simp at hx,by omega,by omega,.inl rfl,by simp only [List.nil_append,dec];omega⟩
/-- What is read off bytes: the number, and how many bytes it took. -/
def rvGo : Nat → Int → Int → Nat → List Int → Option (Int × Nat)
 | 0,_,_,_,_=>none
 | _ + 1,_,_,_,[]=>none
 | f + 1,n,sc,c,b :: l=>if b < 128 then (if (b = 0 ∧ 0 < c) ∨ n + b % 128 * sc > 1000000000 then none else some (n + b % 128 * sc,c + 1)) else rvGo f (n + b % 128 * sc) (sc * 128) (c + 1) l
def rv (l : List Int) : Option (Int × Nat):=rvGo 5 0 1 0 l
theorem rvGo_some : ∀ (f : Nat) (P l : List Int),P.length + f = 5 → Byt l → Hi P → ∀ n c,rvGo f (dec P) (128 ^ P.length) P.length l = some (n,c) →
  ∃ rest,P ++ l = varB n.toNat ++ rest ∧ c = (varB n.toNat).length ∧ 0 ≤ n ∧ n ≤ 1000000000
 | 0,P,l,_,_,_,n,c,h=>by simp [rvGo] at h
 | f + 1,P,[],_,_,_,n,c,h=>by simp [rvGo] at h
 | f + 1,P,b :: l,hf,hb,hP,n,c,h=>by
  have hbb:=hb.head
  simp only [rvGo] at h
  by_cases h1 : b < 128
  ·rw [if_pos h1] at h
   split at h
   ·cases h
   ·rename_i h2
    simp only [Option.some.injEq,Prod.mk.injEq] at h
    obtain ⟨rfl,rfl⟩:=h
    have hd:=dec_snoc P b
    have hv:=varB_dec P b hP hbb.1 h1 (by
     rcases P with _|⟨a,P⟩
     ·exact .inl rfl
     ·refine .inr fun e=>h2 (.inl ⟨e,by simp⟩))
    rw [hd] at hv
    have hnn:=dec_nonneg (P ++ [b])
    rw [hd] at hnn
    refine ⟨l,by rw [hv];simp,by rw [hv];simp,hnn,by omega⟩
  ·rw [if_neg h1] at h
   have:=rvGo_some f (P ++ [b]) l (by simp;omega) hb.tail (fun x hx=>by
    rcases List.mem_append.1 hx with hx|hx
    ·exact hP x hx
    ·simp at hx;subst hx;omega) n c (by rw [dec_snoc,List.length_append,Int.pow_add];simpa using h)
   obtain ⟨rest,e,r⟩:=this
   exact ⟨rest,by rw [← e];simp,r⟩
theorem rvGo_hi : ∀ (Q : List Int) (f : Nat) (P l : List Int),Hi Q → rvGo (f + Q.length) (dec P) (128 ^ P.length) P.length (Q ++ l) = rvGo f (dec (P ++ Q)) (128 ^ (P ++ Q).length) (P ++ Q).length l
 | [],f,P,l,_=>by simp
 | b :: Q,f,P,l,h=>by
  have hb:=h b (List.mem_cons_self ..)
  have:=rvGo_hi Q f (P ++ [b]) l (fun x hx=>h x (List.mem_cons_of_mem _ hx))
  rw [show f + (b :: Q).length = (f + Q.length) + 1 by simp;omega,List.cons_append]
  simp only [rvGo]
  rw [if_neg (by omega)]
  rw [dec_snoc,List.length_append,Int.pow_add] at this
  simp only [List.append_assoc,List.singleton_append,List.length_cons,List.length_nil] at this
  rw [← this]
  simp
theorem rv_var (n : Nat) (h : n ≤ 1000000000) (rest : List Int) : rv (varB n ++ rest) = some ((n : Int),(varB n).length):=by
 obtain ⟨l,c,e,hl,h0,h1,hc,hd⟩:=varB_last n
 have h5:=varB_len5 h
 rw [e] at h5
 have hlen : l.length ≤ 4:=by simpa using h5
 unfold rv
 have:=rvGo_hi l (5 - l.length) [] ([c] ++ rest) hl
 simp only [dec,List.nil_append,List.length_nil] at this
 rw [show 5 - l.length + l.length = 5 by omega] at this
 rw [e,List.append_assoc]
 refine Eq.trans this ?_
 obtain ⟨f,hf⟩ : ∃ f,5 - l.length = f + 1:=⟨4 - l.length,by omega⟩
 rw [hf,List.singleton_append]
 simp only [rvGo]
 rw [if_pos h1,if_neg,← dec_snoc,hd]
 ·simp
 ·rintro (⟨h2,h3⟩|h2)
  ·rcases hc with rfl|hc
   ·simp at h3
   ·exact hc h2
  ·rw [← dec_snoc,hd] at h2
   omega
theorem rv_some {l : List Int} (hl : Byt l) {n : Int} {c : Nat} (h : rv l = some (n,c)) : ∃ rest,l = varB n.toNat ++ rest ∧ c = (varB n.toNat).length ∧ 0 ≤ n ∧ n ≤ 1000000000:=by
 have:=rvGo_some 5 [] l rfl hl (fun _ hx=>by simp at hx) n c h
 simpa using this
theorem pow128 {c : Nat} (h : c ≤ 4) : 1 ≤ (128 : Int) ^ c ∧ (128 : Int) ^ c ≤ 268435456:=by
 rcases (by omega : c = 0 ∨ c = 1 ∨ c = 2 ∨ c = 3 ∨ c = 4) with rfl|rfl|rfl|rfl|rfl <;> decide
def rvRes (at_ : Int) : Option (Int × Nat) → Int × Int × Bool
 | some (n,c)=>(n,at_ + c,true)
 | none=>(0,0,false)
def pReadVar (s : ByteArray) (a : Int) : Int × Int × Bool:=if 0 ≤ a ∧ a ≤ s.size then rvRes a (rv ((bl s).drop a.toNat)) else (0,0,false)

theorem i_in (a b c : Int) : impl_in.f a b c = some (decide (b ≤ a ∧ a ≤ c)):=by
 unfold impl_in.f
 by_cases h : a ≥ b
 ·rw [if_pos h];simp [show b ≤ a from h]
 ·rw [if_neg h];simp [show ¬ b ≤ a from h]
theorem i_in_t {a b c : Int} (h : b ≤ a ∧ a ≤ c) : impl_in.f a b c = some true:=by rw [i_in,decide_eq_true h]
theorem i_in_f {a b c : Int} (h : ¬ (b ≤ a ∧ a ≤ c)) : impl_in.f a b c = some false:=by rw [i_in,decide_eq_false h]

theorem iVarText_go (n : Nat) : ∀ acc : List Int,acc.length + n ≤ 100000000000 → Ev (fun k=>impl_VarText.l0 k (n : Int) acc) (strOfNums (acc ++ varB n),true):=by
 induction n using Nat.strongRecOn with
 | _ n ih =>
  intro acc hacc
  by_cases h : n > 127
  ·have:=ih (n / 128) (by omega) (acc ++ [((n % 128 + 128 : Nat) : Int)]) (by simp;omega)
   rw [varB_big h]
   rw [List.append_assoc,List.singleton_append] at this
   refine this.to fun k=>?_
   simp only [impl_VarText.l0]
   rw [if_pos (by omega),if_pos (by omega),tdiv_pos (by omega),tmod_pos (by omega),wid (by omega) (by omega),wid (by omega) (by omega)]
   congr 3
   omega
  ·rw [varB_small h]
   refine (Ev.now _).to fun k=>?_
   simp only [impl_VarText.l0]
   rw [if_neg (by omega),if_pos (by omega),show (n : Int) % 256 = n by omega]
def pVarText (n : Int) : ByteArray × Bool:=if 0 ≤ n ∧ n ≤ 1000000000 then (strOfNums (varB n.toNat),true) else (⟨#[]⟩,false)
theorem iVarText (n : Int) : Ev (fun k=>impl_VarText.f k n) (pVarText n):=by
 unfold impl_VarText.f pVarText
 by_cases h : 0 ≤ n ∧ n ≤ 1000000000
 ·rw [i_in_t h,if_pos h]
  simp only [Option.bind_some,if_true]
  have:=iVarText_go n.toNat [] (by simp;omega)
  rw [Int.toNat_of_nonneg h.1] at this
  exact this
 ·rw [i_in_f h,if_neg h]
  simp only [Option.bind_some,Bool.false_eq_true,if_false]
  exact Ev.now _

def pShort (s : ByteArray) : ByteArray × Bool:=if s.size > 8000 then (⟨#[]⟩,false) else (strOfNums (varB s.size) ++ s,true)

theorem iShortText (s : ByteArray) (hs : s.size ≤ 140737488351232) : Ev (fun k=>impl_ShortText.f k s) (pShort s):=by
 unfold impl_ShortText.f pShort
 by_cases h : s.size > 8000
 ·rw [if_pos h]
  simp only [if_pos (show (s.size : Int) > 8000 by omega)]
  exact Ev.now _
 ·rw [if_neg h]
  simp only [if_neg (show ¬ (s.size : Int) > 8000 by omega)]
  have hl:=varB_len s.size
  refine (iVarText s.size).bind ?_
  have e : pVarText (s.size : Int) = (strOfNums (varB s.size),true):=by unfold pVarText;rw [if_pos (by omega),Int.toNat_natCast]
  rw [e]
  exact Ev.same (if_pos (by rw [str_len];omega))

theorem l01Var_go (n : Nat) : ∀ acc : List Int,acc.length + n ≤ 100000000000 → Ev (fun k=>spec_l01Var.l0 k (n : Int) acc) (strOfNums (acc ++ varB n)):=by
 induction n using Nat.strongRecOn with
 | _ n ih =>
  intro acc hacc
  by_cases h : n > 127
  ·have:=ih (n / 128) (by omega) (acc ++ [((n % 128 + 128 : Nat) : Int)]) (by simp;omega)
   rw [varB_big h]
   rw [List.append_assoc,List.singleton_append] at this
   refine this.to fun k=>?_
   simp only [spec_l01Var.l0]
   rw [if_pos (by omega),if_pos (by omega),tdiv_pos (by omega),tmod_pos (by omega),wid (by omega) (by omega),wid (by omega) (by omega)]
   congr 3
   omega
  ·rw [varB_small h]
   refine (Ev.now _).to fun k=>?_
   simp only [spec_l01Var.l0]
   rw [if_neg (by omega),if_pos (by omega),show (n : Int) % 256 = n by omega]
theorem l01Var_ev (n : Nat) (h : n ≤ 10000000000) : Ev (fun k=>spec_l01Var.f k (n : Int)) (strOfNums (varB n)):=l01Var_go n [] (by simp;omega)

theorem s_in (a b c : Int) : spec_l01In.f a b c = some (decide (b ≤ a ∧ a ≤ c)):=by
 unfold spec_l01In.f
 by_cases h : a ≥ b
 ·rw [if_pos h];simp [show b ≤ a from h]
 ·rw [if_neg h];simp [show ¬ b ≤ a from h]
theorem s_in_t {a b c : Int} (h : b ≤ a ∧ a ≤ c) : spec_l01In.f a b c = some true:=by rw [s_in,decide_eq_true h]
theorem s_in_f {a b c : Int} (h : ¬ (b ≤ a ∧ a ≤ c)) : spec_l01In.f a b c = some false:=by rw [s_in,decide_eq_false h]

theorem sVarText (n : Int) : Ev (fun k=>spec_VarText.f k n) (pVarText n):=by
 unfold spec_VarText.f pVarText
 by_cases h : 0 ≤ n ∧ n ≤ 1000000000
 ·rw [s_in_t h,if_pos h]
  simp only [Option.bind_some,if_true]
  have:=l01Var_ev n.toNat (by omega)
  rw [Int.toNat_of_nonneg h.1] at this
  exact this.bind (Ev.now _)
 ·rw [s_in_f h,if_neg h]
  simp only [Option.bind_some,Bool.false_eq_true,if_false]
  exact Ev.now _

def szI (kind : Int) (x : S61) : Int:=if kind = 1 then ((pShort x.f0).1.size : Int) + (pShort x.f1).1.size else if kind = 2 then ((pShort x.f0).1.size : Int) + (pVarText x.f2).1.size else 0
theorem pShort_size (s : ByteArray) : (pShort s).1.size ≤ 9000:=by
 unfold pShort
 split
 ·exact Nat.zero_le _
 ·rw [ByteArray.size_append,str_len]
  have:=varB_len5 (n:=s.size) (by omega)
  omega
theorem pVar_size (n : Int) : (pVarText n).1.size ≤ 5:=by
 unfold pVarText
 split
 ·rename_i h
  rw [str_len]
  exact varB_len5 (by omega)
 ·exact Nat.zero_le _
theorem szI_bd (kind : Int) (x : S61) : 0 ≤ szI kind x ∧ szI kind x ≤ 18000:=by
 have h0:=pShort_size x.f0
 have h1:=pShort_size x.f1
 have h2:=pVar_size x.f2
 unfold szI
 split
 ·omega
 ·split <;> omega
theorem iItemSize (kind : Int) (x : S61) (h0 : x.f0.size ≤ 140737488351232) (h1 : x.f1.size ≤ 140737488351232) : Ev (fun k=>impl_ItemSize.f k kind x.f0 x.f1 x.f2) (szI kind x):=by
 unfold impl_ItemSize.f szI
 have b0:=pShort_size x.f0
 have b1:=pShort_size x.f1
 have b2:=pVar_size x.f2
 refine (iShortText x.f0 h0).bind ?_
 by_cases c1 : kind = 1
 ·rw [if_pos c1]
  refine Ev.ifp c1 ((iShortText x.f1 h1).bind (Ev.same ?_))
  rw [wid (by omega) (by omega)]
 ·rw [if_neg c1]
  refine Ev.ifn c1 ?_
  by_cases c2 : kind = 2
  ·rw [if_pos c2]
   refine Ev.ifp c2 ((iVarText x.f2).bind (Ev.same ?_))
   rw [wid (by omega) (by omega)]
  ·rw [if_neg c2]
   exact Ev.ifn c2 (Ev.now _)
theorem ri_Item {xs : List S61} {i : Nat} (h : i < xs.length) : rd_T61 xs (i : Int) = xs[i]:=getD_at _ h

/-! Sums -/
def U32 (s : Int) : Prop:=0 ≤ s ∧ s < 4294967296
theorem xor_u32 {a b : Int} (h : U32 a) (h' : U32 b) : U32 (Go.bits .xor .u32 a b):=by
 rw [Go.u32_xor a b h.1 h.2 h'.1 h'.2]
 have : a.toNat ^^^ b.toNat < 2 ^ 32:=Nat.xor_lt_two_pow (by have:=h.2;have:=h.1;omega) (by have:=h'.2;have:=h'.1;omega)
 exact ⟨by omega,by omega⟩
theorem and1_u32 {a : Int} (h : U32 a) : Go.bits .and .u32 a 1 = a % 2:=by
 rw [Go.u32_and a 1 h.1 h.2 (by decide) (by decide)]
 have : (1 : Int).toNat = 1:=rfl
 rw [this,Nat.and_one_is_mod]
 have:=h.1
 omega
def crcBit (s : Int) : Int:=if s % 2 = 1 then Go.bits .xor .u32 (s / 2) 3558460437 else s / 2
def crcN : Nat → Int → Int
 | 0,s=>s
 | n + 1,s=>crcN n (crcBit s)
def crcByte (s b : Int) : Int:=crcN 8 (Go.bits .xor .u32 s b)
def crcL (s : Int) (l : List Int) : Int:=l.foldl crcByte s
theorem crcBit_u32 {s : Int} (h : U32 s) : U32 (crcBit s):=by
 unfold crcBit
 have : U32 (s / 2):=⟨by have:=h.1;omega,by have:=h.2;omega⟩
 split
 ·exact xor_u32 this ⟨by decide,by decide⟩
 ·exact this
theorem crcN_u32 : ∀ (n : Nat) {s : Int},U32 s → U32 (crcN n s)
 | 0,_,h=>h
 | n + 1,_,h=>crcN_u32 n (crcBit_u32 h)
theorem crcByte_u32 {s b : Int} (h : U32 s) (hb : 0 ≤ b ∧ b < 256) : U32 (crcByte s b):=crcN_u32 8 (xor_u32 h ⟨hb.1,by omega⟩)
theorem crcL_cons (s b : Int) (l : List Int) : crcL s (b :: l) = crcL (crcByte s b) l:=by unfold crcL;rw [List.foldl_cons]
theorem crcL_u32 : ∀ (l : List Int) {s : Int},U32 s → Byt l → U32 (crcL s l)
 | [],_,h,_=>h
 | b :: l,s,h,hb=>by rw [crcL_cons];exact crcL_u32 l (crcByte_u32 h hb.head) hb.tail
theorem crcL_app (s : Int) (l l' : List Int) : crcL s (l ++ l') = crcL (crcL s l) l':=by unfold crcL;rw [List.foldl_append]

theorem u32_top : U32 4294967295:=⟨by decide,by decide⟩
def sumB (s : ByteArray) : Int:=crcL 4294967295 (bl s)
def four (n : Int) : List Int:=[(n / 16777216) % 256,(n / 65536) % 256,(n / 256) % 256,n % 256]
theorem four_byt (n : Int) : Byt (four n):=(((Byt.one ⟨by omega,by omega⟩).cons ⟨by omega,by omega⟩).cons ⟨by omega,by omega⟩).cons ⟨by omega,by omega⟩
theorem four_len (n : Int) : (four n).length = 4:=rfl
def pSealed (s : ByteArray) : ByteArray × Bool:=if s.size > 8000 then (⟨#[]⟩,false) else (s ++ strOfNums (four (sumB s)),true)

theorem impl_sm_l1 (s : ByteArray) (z i : Int) {r : Int} : ∀ (n : Nat) (x : Int),n ≤ 8 → U32 x → Ev (fun k=>impl_SumMore.l0 k (crcN n x) s z (wrap64 (i + 1))) r → Ev (fun k=>impl_SumMore.l1 k x s z i (8 - (n : Int))) r
 | 0,x,_,_,h=>h.to fun k=>by simp only [impl_SumMore.l1];rw [if_neg (by omega)];rfl
 | n + 1,x,hn,hx,h=>by
  have h1:=hx.1
  have h2:=hx.2
  refine (impl_sm_l1 s z i n (crcBit x) (by omega) (crcBit_u32 hx) h).to fun k=>?_
  simp only [impl_SumMore.l1]
  rw [if_pos (by omega),and1_u32 hx,wid (by omega) (by omega),show (8 - ((n + 1 : Nat) : Int) + 1) = 8 - (n : Int) by omega]
  unfold crcBit
  by_cases hb : x % 2 = 1
  ·rw [if_pos hb,if_pos hb]
  ·rw [if_neg hb,if_neg hb]
theorem impl_sm_l0 (s : ByteArray) (hs : s.size ≤ 140737488351232) : ∀ (d i : Nat) (x : Int),i + d = s.size → U32 x → Ev (fun k=>impl_SumMore.l0 k x s (s.size : Int) (i : Int)) (crcL x ((bl s).drop i))
 | 0,i,x,hi,_=>by
  refine (Ev.now _).to fun k=>?_
  simp only [impl_SumMore.l0]
  rw [if_neg (by omega),bl_end (by omega)]
  rfl
 | d + 1,i,x,hi,hx=>by
  have hb:=bt_range s (i : Int)
  rw [bl_cons (by omega),crcL_cons]
  have hx' : U32 (Go.bits .xor .u32 x (bt s i)):=xor_u32 hx ⟨hb.1,by omega⟩
  have:=impl_sm_l0 s hs d (i + 1) (crcByte x (bt s i)) (by omega) (crcByte_u32 hx ⟨hb.1,by omega⟩)
  refine (impl_sm_l1 s _ i 8 _ (Nat.le_refl _) hx' (by rw [wid (by omega) (by omega)];exact this)).to fun k=>?_
  simp only [impl_SumMore.l0]
  rw [if_pos (by omega),if_pos (by omega),if_pos (by omega),show bt s (i : Int) % 4294967296 = bt s i by omega]
  rfl
theorem impl_sm (x : Int) (s : ByteArray) (hs : s.size ≤ 140737488351232) (hx : U32 x) : Ev (fun k=>impl_SumMore.f k x s) (crcL x (bl s)):=impl_sm_l0 s hs s.size 0 x (by omega) hx

theorem iSumOf (s : ByteArray) (hs : s.size ≤ 140737488351232) : Ev (fun k=>impl_SumOf.f k s) (sumB s):=by
 unfold impl_SumOf.f
 exact (impl_sm _ s hs u32_top).bind (Ev.now _)

theorem iSealed (s : ByteArray) (hs : s.size ≤ 140737488351232) : Ev (fun k=>impl_Sealed.f k s) (pSealed s):=by
 unfold impl_Sealed.f pSealed
 by_cases h : s.size > 8000
 ·rw [if_pos h]
  simp only [if_pos (show (s.size : Int) > 8000 by omega)]
  exact Ev.now _
 ·rw [if_neg h]
  simp only [if_neg (show ¬ (s.size : Int) > 8000 by omega)]
  refine (iSumOf s hs).bind ?_
  simp only [Option.bind_some]
  exact Ev.same (if_pos (by rw [str_len];show s.size + 4 ≤ _;omega))

theorem spec_sm_l1 (s : ByteArray) (i : Int) {r : Int} : ∀ (n : Nat) (x : Int),n ≤ 8 → U32 x → Ev (fun k=>spec_SumMore.l0 k (crcN n x) s (wrap64 (i + 1))) r → Ev (fun k=>spec_SumMore.l1 k x s i (8 - (n : Int))) r
 | 0,x,_,_,h=>h.to fun k=>by simp only [spec_SumMore.l1];rw [if_neg (by omega)];rfl
 | n + 1,x,hn,hx,h=>by
  have h1:=hx.1
  have h2:=hx.2
  refine (spec_sm_l1 s i n (crcBit x) (by omega) (crcBit_u32 hx) h).to fun k=>?_
  simp only [spec_SumMore.l1]
  rw [if_pos (by omega),tmod_pos h1,tdiv_pos h1,wid (by omega) (by omega),show (x / 2) % 4294967296 = x / 2 by omega,show (8 - ((n + 1 : Nat) : Int) + 1) = 8 - (n : Int) by omega]
  unfold crcBit
  by_cases hb : x % 2 = 1
  ·rw [if_pos hb,if_pos hb]
  ·rw [if_neg hb,if_neg hb]
theorem spec_sm_l0 (s : ByteArray) (hs : s.size ≤ 140737488351232) : ∀ (d i : Nat) (x : Int),i + d = s.size → U32 x → Ev (fun k=>spec_SumMore.l0 k x s (i : Int)) (crcL x ((bl s).drop i))
 | 0,i,x,hi,_=>by
  refine (Ev.now _).to fun k=>?_
  simp only [spec_SumMore.l0]
  rw [if_neg (by omega),bl_end (by omega)]
  rfl
 | d + 1,i,x,hi,hx=>by
  have hb:=bt_range s (i : Int)
  rw [bl_cons (by omega),crcL_cons]
  have hx' : U32 (Go.bits .xor .u32 x (bt s i)):=xor_u32 hx ⟨hb.1,by omega⟩
  have:=spec_sm_l0 s hs d (i + 1) (crcByte x (bt s i)) (by omega) (crcByte_u32 hx ⟨hb.1,by omega⟩)
  refine (spec_sm_l1 s i 8 _ (Nat.le_refl _) hx' (by rw [wid (by omega) (by omega)];exact this)).to fun k=>?_
  simp only [spec_SumMore.l0]
  rw [if_pos (by omega),if_pos (by omega),show bt s (i : Int) % 4294967296 = bt s i by omega]
  rfl
theorem spec_sm (x : Int) (s : ByteArray) (hs : s.size ≤ 140737488351232) (hx : U32 x) : Ev (fun k=>spec_SumMore.f k x s) (crcL x (bl s)):=spec_sm_l0 s hs s.size 0 x (by omega) hx

theorem sSumOf (s : ByteArray) (hs : s.size ≤ 140737488351232) : Ev (fun k=>spec_SumOf.f k s) (sumB s):=by
 unfold spec_SumOf.f
 exact (spec_sm _ s hs u32_top).bind (Ev.now _)

theorem sSealed (s : ByteArray) (hs : s.size ≤ 140737488351232) : Ev (fun k=>spec_Sealed.f k s) (pSealed s):=by
 unfold spec_Sealed.f pSealed
 by_cases h : s.size > 8000
 ·rw [if_pos h]
  simp only [if_pos (show (s.size : Int) > 8000 by omega)]
  exact Ev.now _
 ·rw [if_neg h]
  simp only [if_neg (show ¬ (s.size : Int) > 8000 by omega)]
  refine (sSumOf s hs).bind ?_
  simp only [spec_l02Four.f,Option.bind_some]
  exact Ev.same (if_pos (by rw [str_len];show s.size + 4 ≤ _;omega))

/-! A page's text -/
def shT (s : ByteArray) : ByteArray:=strOfNums (varB s.size) ++ s
def itG (kind : Int) (prev : Option ByteArray) (x : S61) : Bool :=
 decide (¬ x.f0.toList = []) && ((match prev with|none=>true|some p=>Op.bytesLess p.toList x.f0.toList) && (if kind = 1 then decide (x.f2 = 0) else decide (x.f1.toList = [] ∧ 0 ≤ x.f2 ∧ x.f2 ≤ 399)))
def txI (kind : Int) (x : S61) : ByteArray:=shT x.f0 ++ (if kind = 1 then shT x.f1 else strOfNums (varB x.f2.toNat))
def szT (kind : Int) (x : S61) : Int:=((shT x.f0).size : Int) + (if kind = 1 then ((shT x.f1).size : Int) else (pVarText x.f2).1.size)
def sumT (kind : Int) (l : List S61) : Int:=(l.map (szT kind)).sum
def noText : ByteArray × Bool:=(⟨#[]⟩,false)
def spL (kind : Int) : Option ByteArray → ByteArray → List S61 → ByteArray × Bool
 | _,acc,[]=>pSealed acc
 | prev,acc,x :: l=>if itG kind prev x = true then spL kind (some x.f0) (acc ++ txI kind x) l else noText
def imL (kind : Int) : Option ByteArray → ByteArray → Int → List S61 → ByteArray × Bool
 | _,acc,z,[]=>if z > 54 then noText else pSealed acc
 | prev,acc,z,x :: l=>if itG kind prev x = true ∧ x.f0.size ≤ 54 ∧ x.f1.size ≤ 54 then imL kind (some x.f0) (acc ++ txI kind x) (z + szT kind x) l else noText
theorem varB_lenB {n : Nat} (h : n ≤ 1048576) : (varB n).length ≤ 5:=varB_len5 (by omega)
theorem shT_size (s : ByteArray) : (shT s).size = (varB s.size).length + s.size:=by unfold shT;rw [ByteArray.size_append,str_len]
theorem shT_lo (s : ByteArray) : s.size + 1 ≤ (shT s).size:=by rw [shT_size];have:=varB_pos s.size;omega
theorem shT_hi {s : ByteArray} (h : s.size ≤ 1048576) : (shT s).size ≤ 1048581:=by rw [shT_size];have:=varB_lenB h;omega
theorem szT_lo (kind : Int) (x : S61) : (x.f0.size : Int) + 1 ≤ szT kind x:=by
 have:=shT_lo x.f0
 unfold szT
 split <;> omega
theorem szT_lo1 (x : S61) : (x.f1.size : Int) + 1 ≤ szT 1 x:=by
 have:=shT_lo x.f1
 unfold szT
 rw [if_pos rfl]
 omega
theorem szT_hi (kind : Int) (x : S61) (h0 : x.f0.size ≤ 1048576) (h1 : x.f1.size ≤ 1048576) : szT kind x ≤ 2097162:=by
 have a:=shT_hi h0
 have b:=shT_hi h1
 have c:=pVar_size x.f2
 unfold szT
 split <;> omega
theorem sumT_cons (kind : Int) (x : S61) (l : List S61) : sumT kind (x :: l) = szT kind x + sumT kind l:=by unfold sumT;simp
theorem sumT_lo (kind : Int) : ∀ l : List S61,(l.length : Int) ≤ sumT kind l
 | []=>by simp [sumT]
 | x :: l=>by
  have ih:=sumT_lo kind l
  have:=szT_lo kind x
  rw [sumT_cons,List.length_cons]
  omega
theorem tl_nil {s : ByteArray} (h : s.toList = []) : s.size = 0:=by
 rw [ByteArray.toList_eq] at h
 have : s.data.toList.length = 0:=by rw [h];rfl
 exact this
theorem itG_inner {kind : Int} {prev : Option ByteArray} {x : S61} (h : itG kind prev x = true) (hk : ¬ kind = 1) : x.f1.toList = [] ∧ 0 ≤ x.f2 ∧ x.f2 ≤ 399:=by
 unfold itG at h
 rw [if_neg hk] at h
 simp only [Bool.and_eq_true,decide_eq_true_eq] at h
 exact h.2.2
/-- Both ways to count come to the same. -/
theorem imL_eq (kind : Int) : ∀ (l : List S61) (prev : Option ByteArray) (acc : ByteArray) (z : Int),0 ≤ z → imL kind prev acc z l = if z + sumT kind l > 54 then noText else spL kind prev acc l
 | [],prev,acc,z,hz=>by unfold imL spL sumT;simp
 | x :: l,prev,acc,z,hz=>by
  have lo:=szT_lo kind x
  have hs:=sumT_lo kind l
  rw [imL,spL,sumT_cons]
  by_cases h : itG kind prev x = true ∧ x.f0.size ≤ 54 ∧ x.f1.size ≤ 54
  ·rw [if_pos h,if_pos h.1,imL_eq kind l (some x.f0) (acc ++ txI kind x) (z + szT kind x) (by omega),Int.add_assoc]
  ·rw [if_neg h]
   by_cases c : z + (szT kind x + sumT kind l) > 54
   ·rw [if_pos c]
   ·rw [if_neg c,if_neg]
    intro g
    apply h
    refine ⟨g,by omega,?_⟩
    by_cases hk : kind = 1
    ·subst hk
     have:=szT_lo1 x
     omega
    ·rw [tl_nil (itG_inner g hk).1]
     omega
def headP (kind : Int) (n : Nat) : ByteArray:=strOfNums [kind % 256] ++ strOfNums (varB n)
def pPage (kind : Int) (l : List S61) : ByteArray × Bool:=if (kind = 1 ∨ kind = 2) ∧ l ≠ [] ∧ ¬ sumT kind l > 54 then spL kind none (headP kind l.length) l else noText
def OkIt (x : S61) : Prop:=x.f0.size ≤ 1048576 ∧ x.f1.size ≤ 1048576
def prevAt (l : List S61) (i : Nat) : Option ByteArray:=if i = 0 then none else (l[i - 1]?).map fun x=>x.f0
theorem prevAt_succ {l : List S61} {i : Nat} (h : i < l.length) : prevAt l (i + 1) = some l[i].f0:=by
 unfold prevAt
 rw [if_neg (by omega),Nat.add_sub_cancel,List.getElem?_eq_getElem h]
 rfl
theorem txI_size (kind : Int) (x : S61) (h : OkIt x) (hk : kind = 1 ∨ 0 ≤ x.f2 ∧ x.f2 ≤ 399) : (txI kind x).size ≤ 2097162:=by
 have a:=shT_hi h.1
 have b:=shT_hi h.2
 unfold txI
 rw [ByteArray.size_append]
 split
 ·omega
 ·rename_i hn
  rw [str_len]
  have:=varB_lenB (n:=x.f2.toNat) (by omega)
  omega
theorem headP_size (kind : Int) {n : Nat} (h : n ≤ 1048576) : (headP kind n).size ≤ 6:=by
 unfold headP
 rw [ByteArray.size_append,str_len,str_len]
 have:=varB_lenB h
 simp only [List.length_singleton]
 omega

theorem rdOf_mem {l : List ByteArray} {y : Int} (h0 : 0 ≤ y) (h1 : y < (l.length : Int)) : rdOf ByteArray.empty l y ∈ l:=by
 obtain ⟨n,rfl⟩:=Int.eq_ofNat_of_zero_le h0
 rw [rdOf_at _ (show n < l.length by omega)]
 exact List.getElem_mem _
theorem dPick (b : List Int) (i h : Int) (l : List ByteArray) (hb : b.length ≤ 140737488351232) (hi : 0 ≤ i) (hl : 0 < l.length) : ∃ x i' h',spec_l01Pick.f b i h l = some (x,i',h') ∧ x ∈ l ∧ 0 ≤ i':=by
 obtain ⟨y,i1,h1,e,p,q,r⟩:=dBelow b i h (l.length : Int) hb hi (by omega)
 refine ⟨rdOf ByteArray.empty l y,i1,h1,?_,rdOf_mem p q,r⟩
 unfold spec_l01Pick.f
 rw [e]
 simp only [Option.bind_some]
 rw [if_pos p,if_pos q]
def keysL : List ByteArray:=[(⟨#[97]⟩ : ByteArray),(⟨#[98]⟩ : ByteArray),(⟨#[118,48,48]⟩ : ByteArray),(⟨#[118,48,49]⟩ : ByteArray),(⟨#[101,48,49,48,50]⟩ : ByteArray),(⟨#[114,48,48,48,48]⟩ : ByteArray),(⟨#[113,48,48]⟩ : ByteArray),(⟨#[122,122]⟩ : ByteArray),(⟨#[107,49]⟩ : ByteArray),(⟨#[107,50]⟩ : ByteArray)]
theorem keysL_size : ∀ x ∈ keysL,x.size ≤ 100:=by decide
theorem dKey (b : List Int) (i h : Int) (hb : b.length ≤ 140737488351232) (hi : 0 ≤ i) : ∃ x i' h',spec_l04Key.f b i h = some (x,i',h') ∧ x.size ≤ 100 ∧ 0 ≤ i':=by
 obtain ⟨x,i1,h1,e,m,r⟩:=dPick b i h keysL hb hi (by decide)
 refine ⟨x,i1,h1,?_,keysL_size x m,r⟩
 unfold spec_l04Key.f
 have e' : spec_l01Pick.f b i h [(⟨#[97]⟩ : ByteArray),(⟨#[98]⟩ : ByteArray),(⟨#[118,48,48]⟩ : ByteArray),(⟨#[118,48,49]⟩ : ByteArray),(⟨#[101,48,49,48,50]⟩ : ByteArray),(⟨#[114,48,48,48,48]⟩ : ByteArray),(⟨#[113,48,48]⟩ : ByteArray),(⟨#[122,122]⟩ : ByteArray),(⟨#[107,49]⟩ : ByteArray),(⟨#[107,50]⟩ : ByteArray)] = some (x,i1,h1):=e
 rw [e']
 rfl
def OkS (x : S61) : Prop:=x.f0.size ≤ 200 ∧ x.f1.size ≤ 200
theorem okS_snoc {acc : List S61} (h : ∀ x ∈ acc,OkS x) {x : S61} (hx : OkS x) : ∀ y ∈ acc ++ [x],OkS y:=fun y hy=>by
 rcases List.mem_append.1 hy with hy|hy
 ·exact h y hy
 ·rw [List.mem_singleton.1 hy];exact hx
theorem okS_set {acc : List S61} (h : ∀ x ∈ acc,OkS x) {x : S61} (hx : OkS x) (i : Nat) : ∀ y ∈ acc.set i x,OkS y:=fun y hy=>by
 rcases List.mem_or_eq_of_mem_set hy with hy|rfl
 ·exact h y hy
 ·exact hx
theorem spots_size : ∀ x ∈ [(⟨#[]⟩ : ByteArray),(⟨#[97]⟩ : ByteArray),(⟨#[122,122,122,122]⟩ : ByteArray)],x.size ≤ 100:=by decide
theorem emp0 : (⟨#[]⟩ : ByteArray).size ≤ 200:=by decide
theorem a0200 : (⟨#[97]⟩ : ByteArray).size ≤ 200:=by decide
/-- What is drawn when the items are. -/
theorem dPage_end (b : List Int) (hb : b.length ≤ 140737488351232) (kind x4 : Int) (acc : List S61) (i h i0 h0 x1 : Int) (h1 : 1 ≤ acc.length) (hl : acc.length ≤ 10) (hO : ∀ x ∈ acc,OkS x) (hi : 0 ≤ i) (e0 : spec_l01Below.f b i0 h0 5 = some (x1,i,h)) (hx : ¬ x4 < wrap64 (1 + x1)) :
  ∃ kd l i' h',Ev (fun k=>spec_l04Page.l0 k x4 b i0 h0 kind acc) (kd,l,i',h') ∧ l.length ≤ 10 ∧ (∀ x ∈ l,OkS x) ∧ 0 ≤ i':=by
 obtain ⟨j,i1,h1',e1,p1,q1,r1⟩:=dBelow b i h (acc.length : Int) hb hi (by omega)
 obtain ⟨s,i2,h2,e2,p2,q2,r2⟩:=dBelow b i1 h1' 30 hb r1 (by omega)
 have hj : rd_T61 acc j = acc[j.toNat]'(by omega):=by
  have:=ri_Item (xs:=acc) (i:=j.toNat) (by omega)
  rw [Int.toNat_of_nonneg p1] at this
  exact this
 have hjm:=hO _ (List.getElem_mem (show j.toNat < acc.length by omega))
 rw [← hj] at hjm
 have st : ∀ {F : Nat → Option (Int × List S61 × Int × Int)},(∀ k,spec_l04Page.l0 (k + 1) x4 b i0 h0 kind acc = F k) → (∃ kd l i' h',Ev F (kd,l,i',h') ∧ l.length ≤ 10 ∧ (∀ x ∈ l,OkS x) ∧ 0 ≤ i') → ∃ kd l i' h',Ev (fun k=>spec_l04Page.l0 k x4 b i0 h0 kind acc) (kd,l,i',h') ∧ l.length ≤ 10 ∧ (∀ x ∈ l,OkS x) ∧ 0 ≤ i':=fun e ⟨kd,l,i',h',ev,r⟩=>⟨kd,l,i',h',ev.to e,r⟩
 by_cases c0 : s = 0
 ·obtain ⟨x,i3,h3,e3,r3⟩:=dPickInt b i2 h2 [0,3,1,2] hb r2 (by simp)
  refine st (F:=fun _=>some (x,acc,i3,h3)) (fun k=>?_) ⟨_,_,_,_,Ev.now _,hl,hO,r3⟩
  simp only [spec_l04Page.l0,e0,Option.bind_some]
  rw [if_neg hx,e1]
  simp only [Option.bind_some]
  rw [e2]
  simp only [Option.bind_some]
  rw [if_pos c0,e3]
  rfl
 by_cases c1 : s = 1
 ·refine st (F:=fun _=>some (kind,[],i2,h2)) (fun k=>?_) ⟨_,_,_,_,Ev.now _,Nat.zero_le _,fun x hx=>by simp at hx,r2⟩
  simp only [spec_l04Page.l0,e0,Option.bind_some]
  rw [if_neg hx,e1]
  simp only [Option.bind_some]
  rw [e2]
  simp only [Option.bind_some]
  rw [if_neg c0,if_pos c1]
 by_cases c2 : s = 2
 ·obtain ⟨x,i3,h3,e3,m3,r3⟩:=dPick b i2 h2 [(⟨#[]⟩ : ByteArray),(⟨#[97]⟩ : ByteArray),(⟨#[122,122,122,122]⟩ : ByteArray)] hb r2 (by decide)
  have hz:=spots_size x m3
  refine st (F:=fun _=>some (kind,acc.set j.toNat ⟨x,(rd_T61 acc j).f1,(rd_T61 acc j).f2⟩,i3,h3)) (fun k=>?_) ⟨_,_,_,_,Ev.now _,by rw [List.length_set];exact hl,okS_set (x:=⟨x,(rd_T61 acc j).f1,(rd_T61 acc j).f2⟩) hO ⟨by show x.size ≤ 200;omega,hjm.2⟩ _,r3⟩
  simp only [spec_l04Page.l0,e0,Option.bind_some]
  rw [if_neg hx,e1]
  simp only [Option.bind_some]
  rw [e2]
  simp only [Option.bind_some]
  rw [if_neg c0,if_neg c1,if_pos c2,e3]
  simp only [Option.bind_some]
  rw [if_pos p1,if_pos q1]
 by_cases c3 : s = 3
 ·obtain ⟨x,i3,h3,e3,r3⟩:=dPickInt b i2 h2 [(-1),0,399,400] hb r2 (by simp)
  refine st (F:=fun _=>some (kind,acc.set j.toNat ⟨(rd_T61 acc j).f0,(rd_T61 acc j).f1,x⟩,i3,h3)) (fun k=>?_) ⟨_,_,_,_,Ev.now _,by rw [List.length_set];exact hl,okS_set (x:=⟨(rd_T61 acc j).f0,(rd_T61 acc j).f1,x⟩) hO ⟨hjm.1,hjm.2⟩ _,r3⟩
  simp only [spec_l04Page.l0,e0,Option.bind_some]
  rw [if_neg hx,e1]
  simp only [Option.bind_some]
  rw [e2]
  simp only [Option.bind_some]
  rw [if_neg c0,if_neg c1,if_neg c2,if_pos c3,e3]
  simp only [Option.bind_some]
  rw [if_pos p1,if_pos q1]
 by_cases c4 : s = 4
 ·obtain ⟨y,i3,h3,e3,p3,q3,r3⟩:=dBelow b i2 h2 60 hb r2 (by omega)
  obtain ⟨u,ev,hu⟩:=dLong y 65 p3 (by omega)
  refine st (F:=fun k=>(spec_l01Long.f k y 65).bind fun t321=>some (kind,acc.set j.toNat ⟨(rd_T61 acc j).f0,t321,(rd_T61 acc j).f2⟩,i3,h3)) (fun k=>?_) ⟨_,_,_,_,ev.bind (Ev.now _),by rw [List.length_set];exact hl,okS_set (x:=⟨(rd_T61 acc j).f0,u,(rd_T61 acc j).f2⟩) hO ⟨hjm.1,by show u.size ≤ 200;omega⟩ _,r3⟩
  simp only [spec_l04Page.l0,e0,Option.bind_some]
  rw [if_neg hx,e1]
  simp only [Option.bind_some]
  rw [e2]
  simp only [Option.bind_some]
  rw [if_neg c0,if_neg c1,if_neg c2,if_neg c3,if_pos c4,e3]
  simp only [Option.bind_some,if_pos p1,if_pos q1]
 by_cases c5 : s = 5
 ·obtain ⟨y,i3,h3,e3,p3,q3,r3⟩:=dBelow b i2 h2 3 hb r2 (by omega)
  have w : wrap64 (50 + y) = 50 + y:=wid (by omega) (by omega)
  obtain ⟨u,ev,hu⟩:=dLong (50 + y) 66 (by omega) (by omega)
  refine st (F:=fun k=>(spec_l01Long.f k (50 + y) 66).bind fun t326=>some (1,[(⟨(⟨#[97]⟩ : ByteArray),t326,0⟩ : S61)],i3,h3)) (fun k=>?_) ⟨_,_,_,_,ev.bind (Ev.now _),by simp,fun x hx=>by rw [List.mem_singleton.1 hx];exact ⟨a0200,by show u.size ≤ 200;omega⟩,r3⟩
  simp only [spec_l04Page.l0,e0,Option.bind_some]
  rw [if_neg hx,e1]
  simp only [Option.bind_some]
  rw [e2]
  simp only [Option.bind_some]
  rw [if_neg c0,if_neg c1,if_neg c2,if_neg c3,if_neg c4,if_pos c5,e3]
  simp only [Option.bind_some]
  rw [w]
 ·refine st (F:=fun _=>some (kind,acc,i2,h2)) (fun k=>?_) ⟨_,_,_,_,Ev.now _,hl,hO,r2⟩
  simp only [spec_l04Page.l0,e0,Option.bind_some]
  rw [if_neg hx,e1]
  simp only [Option.bind_some]
  rw [e2]
  simp only [Option.bind_some]
  rw [if_neg c0,if_neg c1,if_neg c2,if_neg c3,if_neg c4,if_neg c5]
theorem dPage_go (b : List Int) (hb : b.length ≤ 140737488351232) (kind : Int) : ∀ (d : Nat) (acc : List S61) (x4 i h : Int),0 ≤ x4 → x4 + d = 6 → (acc.length : Int) = x4 → 0 ≤ i → (∀ x ∈ acc,OkS x) →
  ∃ kd l i' h',Ev (fun k=>spec_l04Page.l0 k x4 b i h kind acc) (kd,l,i',h') ∧ l.length ≤ 10 ∧ (∀ x ∈ l,OkS x) ∧ 0 ≤ i'
 | d,acc,x4,i,h,hx,hd,hl,hi,hO=>by
  obtain ⟨x1,i1,h1,e1,p1,q1,r1⟩:=dBelow b i h 5 hb hi (by omega)
  have w1 : wrap64 (1 + x1) = 1 + x1:=wid (by omega) (by omega)
  by_cases c : x4 < 1 + x1
  ·rcases d with _|d
   ·omega
   ·obtain ⟨y,i2,h2,e2,hy,r2⟩:=dKey b i1 h1 hb r1
    have w2 : wrap64 (x4 + 1) = x4 + 1:=wid (by omega) (by omega)
    have hs : (strOfNums [(wrap64 (97 + x4)) % 256] ++ y).size = 1 + y.size:=by rw [ByteArray.size_append,str_len];rfl
    have hs1 : (strOfNums [(wrap64 (97 + x4)) % 256]).size = 1:=by rw [str_len];rfl
    by_cases ck : kind = 1
    ·obtain ⟨z,i3,h3,e3,p3,q3,r3⟩:=dBelow b i2 h2 6 hb r2 (by omega)
     obtain ⟨u,i4,h4,ev4,hu,r4⟩:=dText b hb z i3 h3 (by omega) (by omega) r3
     obtain ⟨kd,l,i',h',ev,R⟩:=dPage_go b hb kind d (acc ++ [⟨strOfNums [(wrap64 (97 + x4)) % 256] ++ y,u,0⟩]) (x4 + 1) i4 h4 (by omega) (by omega) (by rw [List.length_append];simp;omega) r4 (okS_snoc hO ⟨by show (strOfNums [(wrap64 (97 + x4)) % 256] ++ y).size ≤ 200;omega,by show u.size ≤ 200;omega⟩)
     refine ⟨kd,l,i',h',Ev.to (f:=fun k=>(spec_l01Text.f k b i3 h3 z).bind fun bt277=>if acc.length < 3518437208883 then (spec_l04Page.l0 k (x4 + 1) b bt277.2.1 bt277.2.2 kind (acc ++ [(⟨strOfNums [(wrap64 (97 + x4)) % 256] ++ y,bt277.1,0⟩ : S61)])) else none) (ev4.bind (Ev.ifp (by omega) ev)) fun k=>?_,R⟩
     simp only [spec_l04Page.l0,e1,Option.bind_some,w1,w2]
     rw [if_pos c,e2]
     simp only [Option.bind_some]
     rw [if_pos (by omega),if_pos ck,e3]
     simp only [Option.bind_some]
    ·obtain ⟨z,i3,h3,e3,p3,q3,r3⟩:=dBelow b i2 h2 300 hb r2 (by omega)
     obtain ⟨kd,l,i',h',ev,R⟩:=dPage_go b hb kind d (acc ++ [⟨strOfNums [(wrap64 (97 + x4)) % 256] ++ y,(⟨#[]⟩ : ByteArray),z⟩]) (x4 + 1) i3 h3 (by omega) (by omega) (by rw [List.length_append];simp;omega) r3 (okS_snoc hO ⟨by show (strOfNums [(wrap64 (97 + x4)) % 256] ++ y).size ≤ 200;omega,emp0⟩)
     refine ⟨kd,l,i',h',Ev.to (f:=fun k=>if acc.length < 3518437208883 then (spec_l04Page.l0 k (x4 + 1) b i3 h3 kind (acc ++ [(⟨strOfNums [(wrap64 (97 + x4)) % 256] ++ y,(⟨#[]⟩ : ByteArray),z⟩ : S61)])) else none) (Ev.ifp (by omega) ev) fun k=>?_,R⟩
     simp only [spec_l04Page.l0,e1,Option.bind_some,w1,w2]
     rw [if_pos c,e2]
     simp only [Option.bind_some]
     rw [if_pos (by omega),if_neg ck,e3]
     simp only [Option.bind_some]
  ·exact dPage_end b hb kind x4 acc i1 h1 i h x1 (by omega) (by omega) hO r1 e1 (by rw [w1];exact c)
def dPT (k : Nat) (bt : List Int × Int × Int) : Option (Int × List S61):=(spec_l04Page.f k bt.1 bt.2.1 bt.2.2).bind fun bt335=>some (bt335.1,bt335.2.1)
theorem dPageText (b : List Int) (hb : b.length ≤ 140737488351232) : ∃ kd l,Ev (fun k=>spec_DrawPageText.f k b) (kd,l) ∧ l.length ≤ 10 ∧ ∀ x ∈ l,OkS x:=by
 obtain ⟨h,ev⟩:=dNew b hb
 obtain ⟨x,i1,h1,e,p,q,r⟩:=dBelow b 0 h 2 hb (by omega) (by omega)
 obtain ⟨kd,l,i',h',ev2,R1,R2,_⟩:=dPage_go b hb (wrap64 (1 + x)) 6 [] 0 i1 h1 (by omega) (by omega) rfl r (fun x hx=>by simp at hx)
 refine ⟨kd,l,?_,R1,R2⟩
 unfold spec_DrawPageText.f
 refine ev.bind (f:=dPT) ?_
 have step : ∀ k,dPT k (b,0,h) = (spec_l04Page.l0 k 0 b i1 h1 (wrap64 (1 + x)) ([] : List S61)).bind fun bt335=>some (bt335.1,bt335.2.1):=fun k=>by unfold dPT spec_l04Page.f;rw [e];rfl
 exact Ev.cg (ev2.bind (Ev.now _)) step

theorem dPlaces_go (b : List Int) (hb : b.length ≤ 140737488351232) : ∀ (d : Nat) (acc : List Int) (j i h : Int),0 ≤ j → j + d = 12 → (acc.length : Int) = j → 0 ≤ i → (∀ x ∈ acc,0 ≤ x ∧ x < 10000) → ∃ l,Ev (fun k=>spec_DrawPlaces.l0 k acc j b i h) l ∧ l.length = 12 ∧ ∀ x ∈ l,0 ≤ x ∧ x < 10000
 | 0,acc,j,i,h,hj,hd,hl,hi,hA=>⟨acc,(Ev.now _).to fun k=>by simp only [spec_DrawPlaces.l0];rw [if_neg (by omega)],by omega,hA⟩
 | d + 1,acc,j,i,h,hj,hd,hl,hi,hA=>by
  obtain ⟨x,i1,h1,e,p,q,r⟩:=dBelow b i h 10000 hb hi (by omega)
  obtain ⟨l,ev,hl1,hl2⟩:=dPlaces_go b hb d (acc ++ [x]) (j + 1) i1 h1 (by omega) (by omega) (by rw [List.length_append];simp;omega) r (fun y hy=>by
   rcases List.mem_append.1 hy with hy|hy
   ·exact hA y hy
   ·rw [List.mem_singleton.1 hy];exact ⟨p,q⟩)
  have w : wrap64 (j + 1) = j + 1:=wid (by omega) (by omega)
  refine ⟨l,ev.to fun k=>?_,hl1,hl2⟩
  simp only [spec_DrawPlaces.l0,w,e,Option.bind_some]
  clear w
  rw [if_pos (by omega),if_pos (by omega)]
def dP (b : List Int) (k : Nat) (bt : Int × Int × Int) : Option (List Int):=spec_DrawPlaces.l0 k ([] : List Int) 0 b bt.2.1 bt.2.2
theorem dPlaces (b : List Int) (hb : b.length ≤ 140737488351232) : ∃ l,Ev (fun k=>spec_DrawPlaces.f k b) l ∧ l.length = 12 ∧ ∀ x ∈ l,0 ≤ x ∧ x < 10000:=by
 obtain ⟨h,ev⟩:=dNew b hb
 obtain ⟨x,i1,h1,e,p,q,r⟩:=dByte b 0 h hb (by omega)
 obtain ⟨l,ev2,hl⟩:=dPlaces_go b hb 12 [] 0 i1 h1 (by omega) (by omega) rfl r (fun _ h=>by simp at h)
 refine ⟨l,?_,hl⟩
 unfold spec_DrawPlaces.f
 refine ev.bind (f:=fun k bt=>(spec_l01Byte.f bt.1 bt.2.1 bt.2.2).bind fun bt2=>spec_DrawPlaces.l0 k ([] : List Int) 0 bt.1 bt2.2.1 bt2.2.2) ?_
 have step : ∀ k,(spec_l01Byte.f b 0 h).bind (dP b k) = dP b k (x,i1,h1):=fun k=>(congrArg (fun o=>Option.bind o (dP b k)) e).trans (Option.bind_some _ _)
 exact Ev.cg (f:=fun k=>dP b k (x,i1,h1)) ev2 step

theorem sShT (s : ByteArray) (h : s.size ≤ 1048576) : Ev (fun k=>spec_l04Short.f k s) (shT s):=by
 unfold spec_l04Short.f
 refine (l01Var_ev s.size (by omega)).bind ?_
 have hl:=varB_lenB (n:=s.size) (by omega)
 exact Ev.ifp (by rw [str_len];omega) (Ev.same rfl)
theorem sItemSizeT (kind : Int) (x : S61) (hk : kind = 1 ∨ kind = 2) (h : OkIt x) : Ev (fun k=>spec_ItemSize.f k kind x.f0 x.f1 x.f2) (szT kind x):=by
 have b0:=shT_hi h.1
 have b1:=shT_hi h.2
 have b2:=pVar_size x.f2
 unfold spec_ItemSize.f szT
 rcases hk with rfl|rfl
 ·refine Ev.ifp rfl ((sShT x.f0 h.1).bind ((sShT x.f1 h.2).bind (Ev.same ?_)))
  rw [wid (by omega) (by omega),if_pos rfl]
 ·refine Ev.ifn (by decide) (Ev.ifp rfl ((sVarText x.f2).bind ?_))
  rw [if_neg (by decide)]
  by_cases hv : 0 ≤ x.f2 ∧ x.f2 ≤ 1000000000
  ·have e : pVarText x.f2 = (strOfNums (varB x.f2.toNat),true):=by unfold pVarText;rw [if_pos hv]
   rw [e] at b2 ⊢
   refine Ev.ifp rfl ((sShT x.f0 h.1).bind (Ev.same ?_))
   simp only at b2 ⊢
   rw [wid (by omega) (by omega)]
  ·have e : pVarText x.f2 = (⟨#[]⟩,false):=by unfold pVarText;rw [if_neg hv]
   rw [e]
   refine Ev.ifn (by decide) ((sShT x.f0 h.1).bind (Ev.same ?_))
   have : (⟨#[]⟩ : ByteArray).size = 0:=rfl
   simp only [this]
   simp
theorem sSumT_go (kind : Int) (hk : kind = 1 ∨ kind = 2) (L : List S61) (hL : L.length ≤ 1048576) (hO : ∀ x ∈ L,OkIt x) : ∀ (d i : Nat) (z : Int),i + d = L.length → 0 ≤ z → z ≤ 2097162 * i → Ev (fun k=>spec_l04Sum.l0 k kind L z (i : Int)) (z + sumT kind (L.drop i))
 | 0,i,z,hi,h0,h1=>by
  rw [List.drop_of_length_le (by omega)]
  exact (Ev.now _).to fun k=>by simp only [spec_l04Sum.l0];rw [if_neg (by omega)];simp [sumT]
 | d + 1,i,z,hi,h0,h1=>by
  have hlt : i < L.length:=by omega
  have hx:=hO L[i] (List.getElem_mem hlt)
  have lo:=szT_lo kind L[i]
  have hi':=szT_hi kind L[i] hx.1 hx.2
  have ih:=sSumT_go kind hk L hL hO d (i + 1) (z + szT kind L[i]) (by omega) (by omega) (by omega)
  have w : qn (wrap64 ((i : Int) + 1) = ((i + 1 : Nat) : Int)):=⟨by rw [wid (by omega) (by omega)];rfl⟩
  have wz : qn (wrap64 (z + szT kind L[i]) = z + szT kind L[i]):=⟨wid (by omega) (by omega)⟩
  rw [List.drop_eq_getElem_cons hlt,sumT_cons,← Int.add_assoc]
  refine Ev.to (f:=fun k=>(spec_ItemSize.f k kind L[i].f0 L[i].f1 L[i].f2).bind fun t=>spec_l04Sum.l0 k kind L (wrap64 (z + t)) ((i + 1 : Nat) : Int)) ((sItemSizeT kind L[i] hk hx).bind ?_) fun k=>?_
  ·rw [wz.out];exact ih
  ·simp only [spec_l04Sum.l0]
   rw [if_pos (by omega),if_pos (by omega),ri_Item hlt,w.out]
theorem sSumT (kind : Int) (hk : kind = 1 ∨ kind = 2) (L : List S61) (hL : L.length ≤ 1048576) (hO : ∀ x ∈ L,OkIt x) : Ev (fun k=>spec_l04Sum.f k kind L) (sumT kind L):=by
 unfold spec_l04Sum.f
 have:=sSumT_go kind hk L hL hO L.length 0 0 (by omega) (by omega) (by omega)
 rw [List.drop_zero,Int.zero_add] at this
 exact this
theorem sPage_t (kind : Int) (L : List S61) (acc : ByteArray) (i : Int) (a b : ByteArray) (c : Int) : Ev (fun k=>spec_PageText.j2 k acc i true kind L a b c) noText:=(Ev.now _).to fun k=>by simp only [spec_PageText.j2,if_true];rfl
theorem sPage_l1 (L : List S61) (hL : L.length ≤ 1048576) (acc : ByteArray) (i : Nat) (hlt : i < L.length) (k : Nat) : spec_PageText.l0 (k + 1) acc (i : Int) 1 L = spec_PageText.j2 k acc (i : Int) (!itG 1 (prevAt L i) L[i]) 1 L L[i].f0 L[i].f1 L[i].f2:=by
 simp only [spec_PageText.l0]
 rw [if_pos (by omega),if_pos (by omega),ri_Item hlt]
 by_cases e : L[i].f0.toList = []
 ·rw [if_pos e,show itG 1 (prevAt L i) L[i] = false from by unfold itG;simp [e]];rfl
 ·rw [if_neg e]
  by_cases hi : i = 0
  ·rw [if_neg (by omega)]
   have hp : prevAt L i = none:=by unfold prevAt;rw [if_pos hi]
   rw [if_pos trivial]
   by_cases g : L[i].f2 = 0
   ·rw [if_pos g,if_neg (by decide),show itG 1 (prevAt L i) L[i] = true from by unfold itG;rw [hp];simp [e,g]];rfl
   ·rw [if_neg g,show itG 1 (prevAt L i) L[i] = false from by unfold itG;rw [hp];simp [g]];rfl
  ·have hj : i - 1 < L.length:=by omega
   have w : wrap64 ((i : Int) - 1) = ((i - 1 : Nat) : Int):=by rw [wid (by omega) (by omega)];omega
   have hp : prevAt L i = some L[i - 1].f0:=by unfold prevAt;rw [if_neg hi,List.getElem?_eq_getElem hj];rfl
   rw [if_pos (by omega),w];clear w
   rw [if_pos (by omega),if_pos (by omega),ri_Item hj]
   by_cases b : Op.bytesLess L[i - 1].f0.toList L[i].f0.toList = true
   ·rw [if_pos b,if_pos trivial]
    by_cases g : L[i].f2 = 0
    ·rw [if_pos g,if_neg (by decide),show itG 1 (prevAt L i) L[i] = true from by unfold itG;rw [hp];simp [e,g,b]];rfl
    ·rw [if_neg g,show itG 1 (prevAt L i) L[i] = false from by unfold itG;rw [hp];simp [g]];rfl
   ·rw [if_neg b,show itG 1 (prevAt L i) L[i] = false from by unfold itG;rw [hp];simp [b]];rfl
theorem sPage_in (L : List S61) (acc : ByteArray) (i : Int) (x : S61) (k : Nat) : (if x.f1.toList = ([] : List UInt8) then ((spec_l01In.f x.f2 0 399).bind fun t=>(spec_PageText.j2 k acc i (!t) 2 L x.f0 x.f1 x.f2)) else (spec_PageText.j2 k acc i true 2 L x.f0 x.f1 x.f2)) = spec_PageText.j2 k acc i (!decide (x.f1.toList = [] ∧ 0 ≤ x.f2 ∧ x.f2 ≤ 399)) 2 L x.f0 x.f1 x.f2:=by
 by_cases e : x.f1.toList = []
 ·rw [if_pos e,s_in];simp [e]
 ·rw [if_neg e];simp [e]
theorem sPage_l2 (L : List S61) (hL : L.length ≤ 1048576) (acc : ByteArray) (i : Nat) (hlt : i < L.length) (k : Nat) : spec_PageText.l0 (k + 1) acc (i : Int) 2 L = spec_PageText.j2 k acc (i : Int) (!itG 2 (prevAt L i) L[i]) 2 L L[i].f0 L[i].f1 L[i].f2:=by
 simp only [spec_PageText.l0]
 rw [if_pos (by omega),if_pos (by omega),ri_Item hlt]
 by_cases e : L[i].f0.toList = []
 ·rw [if_pos e,show itG 2 (prevAt L i) L[i] = false from by unfold itG;simp [e]];rfl
 ·rw [if_neg e]
  by_cases hi : i = 0
  ·rw [if_neg (by omega)]
   have hp : prevAt L i = none:=by unfold prevAt;rw [if_pos hi]
   rw [if_neg (by decide),if_pos trivial,sPage_in,show itG 2 (prevAt L i) L[i] = decide (L[i].f1.toList = [] ∧ 0 ≤ L[i].f2 ∧ L[i].f2 ≤ 399) from by unfold itG;rw [hp,decide_eq_true e,if_neg (by decide)];rfl]
  ·have hj : i - 1 < L.length:=by omega
   have w : wrap64 ((i : Int) - 1) = ((i - 1 : Nat) : Int):=by rw [wid (by omega) (by omega)];omega
   have hp : prevAt L i = some L[i - 1].f0:=by unfold prevAt;rw [if_neg hi,List.getElem?_eq_getElem hj];rfl
   rw [if_pos (by omega),w];clear w
   rw [if_pos (by omega),if_pos (by omega),ri_Item hj]
   by_cases b : Op.bytesLess L[i - 1].f0.toList L[i].f0.toList = true
   ·rw [if_pos b,if_neg (by decide),if_pos trivial,sPage_in,show itG 2 (prevAt L i) L[i] = decide (L[i].f1.toList = [] ∧ 0 ≤ L[i].f2 ∧ L[i].f2 ≤ 399) from by unfold itG;rw [hp,decide_eq_true e,if_neg (by decide)];simp only [b];rfl]
   ·rw [if_neg b,show itG 2 (prevAt L i) L[i] = false from by unfold itG;rw [hp];simp [b]];rfl
theorem sPage_j (kind : Int) (hk : kind = 1 ∨ kind = 2) (L : List S61) (acc : ByteArray) (i : Int) (x : S61) (hx : OkIt x) (hg : kind = 1 ∨ 0 ≤ x.f2 ∧ x.f2 ≤ 399) (ha : acc.size ≤ 100000000000000) {r : ByteArray × Bool} (h : Ev (fun k=>spec_PageText.l0 k (acc ++ txI kind x) (wrap64 (i + 1)) kind L) r) : Ev (fun k=>spec_PageText.j2 k acc i false kind L x.f0 x.f1 x.f2) r:=by
 have b0:=shT_hi hx.1
 have b1:=shT_hi hx.2
 refine Ev.to (f:=fun k=>(spec_l04Short.f k x.f0).bind fun t149=>if acc.size + t149.size ≤ 9223372036854775807 then (if kind = 1 then (spec_l04Short.f k x.f1).bind fun t150=>if (acc ++ t149).size + t150.size ≤ 9223372036854775807 then spec_PageText.l0 k ((acc ++ t149) ++ t150) (wrap64 (i + 1)) kind L else none else (spec_l01Var.f k x.f2).bind fun t151=>if (acc ++ t149).size + t151.size ≤ 9223372036854775807 then spec_PageText.l0 k ((acc ++ t149) ++ t151) (wrap64 (i + 1)) kind L else none) else none) ?_ fun k=>by simp only [spec_PageText.j2];rw [if_neg (by decide)]
 refine (sShT x.f0 hx.1).bind (Ev.ifp (by omega) ?_)
 by_cases c : kind = 1
 ·refine Ev.ifp c ((sShT x.f1 hx.2).bind (Ev.ifp (by rw [ByteArray.size_append];omega) ?_))
  have : txI kind x = shT x.f0 ++ shT x.f1:=by unfold txI;rw [if_pos c]
  rw [this,← ByteArray.append_assoc] at h
  exact h
 ·have hr:=hg.resolve_left c
  have ev:=l01Var_ev x.f2.toNat (by omega)
  rw [Int.toNat_of_nonneg hr.1] at ev
  have hl:=varB_lenB (n:=x.f2.toNat) (by omega)
  refine Ev.ifn c (ev.bind (Ev.ifp (by rw [ByteArray.size_append,str_len];omega) ?_))
  have : txI kind x = shT x.f0 ++ strOfNums (varB x.f2.toNat):=by unfold txI;rw [if_neg c]
  rw [this,← ByteArray.append_assoc] at h
  exact h
theorem sPage_go (kind : Int) (hk : kind = 1 ∨ kind = 2) (L : List S61) (hL : L.length ≤ 1048576) (hO : ∀ x ∈ L,OkIt x) : ∀ (d i : Nat) (acc : ByteArray),i + d = L.length → acc.size ≤ 100 + 2097162 * i → Ev (fun k=>spec_PageText.l0 k acc (i : Int) kind L) (spL kind (prevAt L i) acc (L.drop i))
 | 0,i,acc,hi,ha=>by
  rw [List.drop_of_length_le (by omega),spL]
  refine Ev.to (f:=fun k=>(spec_Sealed.f k acc).bind fun bt140=>some (bt140.1,bt140.2)) ((sSealed acc (by omega)).bind (Ev.now _)) fun k=>?_
  simp only [spec_PageText.l0]
  rw [if_neg (by omega)]
 | d + 1,i,acc,hi,ha=>by
  have hlt : i < L.length:=by omega
  have hx:=hO L[i] (List.getElem_mem hlt)
  have w : wrap64 ((i : Int) + 1) = ((i + 1 : Nat) : Int):=by rw [wid (by omega) (by omega)];rfl
  rw [List.drop_eq_getElem_cons hlt,spL]
  refine Ev.to (f:=fun k=>spec_PageText.j2 k acc (i : Int) (!itG kind (prevAt L i) L[i]) kind L L[i].f0 L[i].f1 L[i].f2) ?_ fun k=>by
   rcases hk with rfl|rfl
   ·exact sPage_l1 L hL acc i hlt k
   ·exact sPage_l2 L hL acc i hlt k
  by_cases g : itG kind (prevAt L i) L[i] = true
  ·rw [if_pos g,g]
   have hg : kind = 1 ∨ 0 ≤ L[i].f2 ∧ L[i].f2 ≤ 399:=by
    by_cases c : kind = 1
    ·exact .inl c
    ·exact .inr (itG_inner g c).2
   have hs:=txI_size kind L[i] hx hg
   have ih:=sPage_go kind hk L hL hO d (i + 1) (acc ++ txI kind L[i]) (by omega) (by rw [ByteArray.size_append];omega)
   rw [prevAt_succ hlt] at ih
   refine sPage_j kind hk L acc i L[i] hx hg (by omega) ?_
   rw [w]
   exact ih
  ·rw [if_neg g,show itG kind (prevAt L i) L[i] = false from by simpa using g]
   exact sPage_t kind L acc i _ _ _
theorem sPageText (kind : Int) (L : List S61) (hL : L.length ≤ 1048576) (hO : ∀ x ∈ L,OkIt x) : Ev (fun k=>spec_PageText.f k kind L) (pPage kind L):=by
 have bad : Ev (fun k=>spec_PageText.j0 k true kind L) noText:=(Ev.now _).to fun k=>by simp only [spec_PageText.j0,if_true];rfl
 unfold spec_PageText.f
 by_cases hk : kind = 1 ∨ kind = 2
 ·rw [s_in_t (by omega)]
  simp only [Option.bind_some,if_true]
  by_cases h0 : L = []
  ·have : pPage kind L = noText:=by unfold pPage;rw [if_neg (fun h=>h.2.1 h0)]
   rw [this]
   exact Ev.ifp (by rw [h0];rfl) bad
  ·have hp : L.length ≠ 0:=fun h=>h0 (List.length_eq_zero_iff.1 h)
   refine Ev.ifn (by omega) ?_
   have lo:=sumT_lo kind L
   by_cases h54 : (L.length : Int) > 54
   ·have : pPage kind L = noText:=by unfold pPage;rw [if_neg (fun h=>h.2.2 (by omega))]
    rw [this]
    exact Ev.ifp h54 bad
   ·refine Ev.ifn h54 ((sSumT kind hk L hL hO).bind ?_)
    by_cases hs : sumT kind L > 54
    ·have : pPage kind L = noText:=by unfold pPage;rw [if_neg (fun h=>h.2.2 hs)]
     rw [this,decide_eq_true hs]
     exact bad
    ·have : pPage kind L = spL kind none (headP kind L.length) L:=by unfold pPage;rw [if_pos ⟨hk,h0,hs⟩]
     rw [this,decide_eq_false hs]
     have hh:=headP_size kind hL
     have ih:=sPage_go kind hk L hL hO L.length 0 (headP kind L.length) (by omega) (by omega)
     rw [List.drop_zero,show prevAt L 0 = none from rfl] at ih
     have hv:=varB_lenB hL
     refine Ev.to (f:=fun k=>(spec_l01Var.f k (L.length : Int)).bind fun t139=>if (strOfNums [kind % 256]).size + t139.size ≤ 9223372036854775807 then spec_PageText.l0 k (strOfNums [kind % 256] ++ t139) 0 kind L else none) ((l01Var_ev L.length (by omega)).bind (Ev.ifp (by rw [str_len,str_len];simp only [List.length_singleton];omega) ih)) fun k=>?_
     simp only [spec_PageText.j0,Option.bind_some]
     rw [if_neg (by decide)]
 ·rw [s_in_f (by omega)]
  have : pPage kind L = noText:=by unfold pPage;rw [if_neg (fun h=>hk h.1)]
  rw [this]
  simp only [Option.bind_some,Bool.false_eq_true,if_false]
  exact bad

theorem pReadVar_some {s : ByteArray} {a n next : Int} (h : pReadVar s a = (n,next,true)) : ∃ c : Nat,0 ≤ a ∧ next = a + c ∧ (bl s).drop a.toNat = varB n.toNat ++ (bl s).drop next.toNat ∧ c = (varB n.toNat).length ∧ a + c ≤ s.size ∧ 0 ≤ n ∧ n ≤ 1000000000:=by
 unfold pReadVar at h
 by_cases h0 : 0 ≤ a ∧ a ≤ s.size
 ·rw [if_pos h0] at h
  cases hr : rv ((bl s).drop a.toNat) with
  | none=>rw [hr] at h;simp [rvRes] at h
  | some p =>
   obtain ⟨m,c⟩:=p
   rw [hr] at h
   simp only [rvRes,Prod.mk.injEq,and_true] at h
   obtain ⟨rfl,rfl⟩:=h
   obtain ⟨rest,e,hc,h1,h2⟩:=rv_some ((bl_byt s).drop _) hr
   have hl:=congrArg List.length e
   rw [List.length_drop,List.length_append,bl_len] at hl
   refine ⟨c,h0.1,rfl,?_,hc,by omega,h1,h2⟩
   have hd : rest = (bl s).drop (a + c).toNat:=by
    have:=congrArg (List.drop c) e
    rw [List.drop_drop,hc,List.drop_left] at this
    rw [← this]
    congr 1
    omega
   rw [e,hd]
 ·rw [if_neg h0] at h;simp at h
theorem pReadVar_cases (s : ByteArray) (a : Int) : pReadVar s a = (0,0,false) ∨ ∃ n next,pReadVar s a = (n,next,true):=by
 unfold pReadVar
 split
 ·cases rv ((bl s).drop a.toNat) with
  | none=>exact .inl rfl
  | some p=>exact .inr ⟨_,_,rfl⟩
 ·exact .inl rfl
def pReadShort (s : ByteArray) (a : Int) : ByteArray × Int × Bool :=
 if (pReadVar s a).2.2 = true ∧ (pReadVar s a).1 ≤ 8000 ∧ (pReadVar s a).1 ≤ s.size - (pReadVar s a).2.1 then (s.extract (pReadVar s a).2.1.toNat ((pReadVar s a).2.1 + (pReadVar s a).1).toNat,(pReadVar s a).2.1 + (pReadVar s a).1,true) else (⟨#[]⟩,0,false)

def cutB (s : ByteArray) : ByteArray:=s.extract 0 (s.size - 4)
def pUnsealed (s : ByteArray) : ByteArray × Bool:=if 4 ≤ s.size ∧ s.size - 4 ≤ 8000 ∧ (bl s).drop (s.size - 4) = four (sumB (cutB s)) then (cutB s,true) else (⟨#[]⟩,false)
theorem cutB_bl (s : ByteArray) : bl (cutB s) = (bl s).take (s.size - 4):=by unfold cutB;rw [bl_ext,List.drop_zero]
theorem cutB_size (s : ByteArray) : (cutB s).size = s.size - 4:=by rw [bl_size,cutB_bl,List.length_take,bl_len];omega

/-! Roots -/
def two (n : Int) : List Int:=[(n / 256) % 256,n % 256]
theorem bt_nat (s : ByteArray) (i : Nat) : bt s (i : Int) = (bl s).getD i 0:=by rw [bt_bl,Int.toNat_natCast]
/-- What is sealed is unsealed. -/
theorem unseal_seal (x : ByteArray) (h : x.size ≤ 8000) : pUnsealed (x ++ strOfNums (four (sumB x))) = (x,true):=by
 have hs : (x ++ strOfNums (four (sumB x))).size = x.size + 4:=by rw [ByteArray.size_append,str_len];rfl
 have hb : bl (x ++ strOfNums (four (sumB x))) = bl x ++ four (sumB x):=by rw [bl_app,bl_str (four_byt _)]
 have hc : cutB (x ++ strOfNums (four (sumB x))) = x:=by
  apply bl_inj
  rw [cutB_bl,hs,hb,Nat.add_sub_cancel,← bl_len x,List.take_left]
 unfold pUnsealed
 rw [hc,if_pos]
 refine ⟨by omega,by omega,?_⟩
 rw [hb,hs,Nat.add_sub_cancel,← bl_len x,List.drop_left]
/-! Pages read back -/
abbrev It:=S61
def noB : ByteArray:=⟨#[]⟩
def spG (kind : Int) (b : ByteArray) : Nat → Int → Bool → List It → Bool × List It
 | 0,_,r,acc=>(r,acc)
 | d + 1,a,r,acc=>if r = true then (if (pReadShort b a).2.2 = true then (if kind = 1 then spG kind b d (pReadShort b (pReadShort b a).2.1).2.1 (pReadShort b (pReadShort b a).2.1).2.2 (acc ++ [⟨(pReadShort b a).1,(pReadShort b (pReadShort b a).2.1).1,0⟩]) else spG kind b d (pReadVar b (pReadShort b a).2.1).2.1 (pReadVar b (pReadShort b a).2.1).2.2 (acc ++ [⟨(pReadShort b a).1,noB,(pReadVar b (pReadShort b a).2.1).1⟩])) else (false,acc ++ [⟨(pReadShort b a).1,noB,0⟩])) else (false,acc)
def rS (b : ByteArray) (a : Int) (bad : Bool) : ByteArray × Int × Bool:=if bad = true then (noB,a,true) else if (pReadShort b a).2.2 = true then ((pReadShort b a).1,(pReadShort b a).2.1,false) else (noB,a,true)
def rV (b : ByteArray) (a : Int) (bad : Bool) : Int × Int × Bool:=if bad = true then (0,a,true) else if (pReadVar b a).2.2 = true then ((pReadVar b a).1,(pReadVar b a).2.1,false) else (0,a,true)
def imG (kind : Int) (b : ByteArray) : Nat → Int → Bool → List It → Int × Bool × List It
 | 0,a,bad,acc=>(a,bad,acc)
 | d + 1,a,bad,acc=>if bad = true then (a,true,acc) else if kind = 2 then imG kind b d (rV b (rS b a false).2.1 (rS b a false).2.2).2.1 (rV b (rS b a false).2.1 (rS b a false).2.2).2.2 (acc ++ [⟨(rS b a false).1,noB,(rV b (rS b a false).2.1 (rS b a false).2.2).1⟩]) else imG kind b d (rS b (rS b a false).2.1 (rS b a false).2.2).2.1 (rS b (rS b a false).2.1 (rS b a false).2.2).2.2 (acc ++ [⟨(rS b a false).1,(rS b (rS b a false).2.1 (rS b a false).2.2).1,0⟩])
def noPage : Int × List It × Bool:=(0,[],false)
def spEnd (s : ByteArray) (kind : Int) (R : Bool × List It) : Int × List It × Bool:=if R.1 = true ∧ (pPage kind R.2).2 = true ∧ (pPage kind R.2).1 = s then (kind,R.2,true) else noPage
def imEnd (s : ByteArray) (kind : Int) (b : ByteArray) (R : Int × Bool × List It) : Int × List It × Bool:=if (R.2.1 = false ∧ R.1 = (b.size : Int)) ∧ (pPage kind R.2.2).2 = true ∧ (pPage kind R.2.2).1 = s then (kind,R.2.2,true) else noPage
def pReadPage (s : ByteArray) : Int × List It × Bool:=if (pUnsealed s).2 = true ∧ 2 ≤ (pUnsealed s).1.size then spEnd s (bt (pUnsealed s).1 0) (spG (bt (pUnsealed s).1 0) (pUnsealed s).1 (pReadVar (pUnsealed s).1 1).1.toNat (pReadVar (pUnsealed s).1 1).2.1 (pReadVar (pUnsealed s).1 1).2.2 []) else noPage
def rO (b : ByteArray) : Int × Int × Bool:=if 1 ≤ b.size then (bt b 0,1,false) else (0,0,true)
def iReadP (s : ByteArray) : Int × List It × Bool:=if (pUnsealed s).2 = true then imEnd s (rO (pUnsealed s).1).1 (pUnsealed s).1 (imG (rO (pUnsealed s).1).1 (pUnsealed s).1 (rV (pUnsealed s).1 (rO (pUnsealed s).1).2.1 (rO (pUnsealed s).1).2.2).1.toNat (rV (pUnsealed s).1 (rO (pUnsealed s).1).2.1 (rO (pUnsealed s).1).2.2).2.1 (rV (pUnsealed s).1 (rO (pUnsealed s).1).2.1 (rO (pUnsealed s).1).2.2).2.2 []) else noPage
theorem imEnd_y {s b : ByteArray} {kind a : Int} {r : Bool} {acc : List It} (h : (r = false ∧ a = (b.size : Int)) ∧ (pPage kind acc).2 = true ∧ (pPage kind acc).1 = s) : imEnd s kind b (a,r,acc) = (kind,acc,true):=if_pos h
theorem imEnd_n {s b : ByteArray} {kind a : Int} {r : Bool} {acc : List It} (h : ¬ ((r = false ∧ a = (b.size : Int)) ∧ (pPage kind acc).2 = true ∧ (pPage kind acc).1 = s)) : imEnd s kind b (a,r,acc) = noPage:=if_neg h
theorem rShort_bd {b : ByteArray} {a : Int} (h : (pReadShort b a).2.2 = true) : 0 ≤ a ∧ a + 1 ≤ (pReadShort b a).2.1 ∧ (pReadShort b a).2.1 ≤ b.size ∧ (pReadShort b a).1.size ≤ 8000:=by
 unfold pReadShort at h ⊢
 split at h
 ·rename_i hc
  rw [if_pos hc]
  obtain ⟨h1,h2,h3⟩:=hc
  obtain ⟨c,p0,p1,_,p3,p4,p5,p6⟩:=pReadVar_some (s:=b) (a:=a) (n:=(pReadVar b a).1) (next:=(pReadVar b a).2.1) (by rw [← h1])
  have hv:=varB_pos (pReadVar b a).1.toNat
  simp only
  refine ⟨p0,by omega,by omega,?_⟩
  rw [ByteArray.size_extract]
  omega
 ·simp at h
theorem rVar_bd {b : ByteArray} {a : Int} (h : (pReadVar b a).2.2 = true) : 0 ≤ a ∧ a + 1 ≤ (pReadVar b a).2.1 ∧ (pReadVar b a).2.1 ≤ b.size ∧ 0 ≤ (pReadVar b a).1 ∧ (pReadVar b a).1 ≤ 1000000000:=by
 obtain ⟨c,p0,p1,_,p3,p4,p5,p6⟩:=pReadVar_some (s:=b) (a:=a) (n:=(pReadVar b a).1) (next:=(pReadVar b a).2.1) (by rw [← h])
 have hv:=varB_pos (pReadVar b a).1.toNat
 exact ⟨p0,by omega,by omega,p5,p6⟩
/-! What was written is read. -/
theorem rv_at {b : ByteArray} {p n : Nat} {rest : List Int} (h : (bl b).drop p = varB n ++ rest) (hn : n ≤ 1000000000) : pReadVar b (p : Int) = ((n : Int),((p + (varB n).length : Nat) : Int),true) ∧ p + (varB n).length ≤ b.size ∧ (bl b).drop (p + (varB n).length) = rest:=by
 have hl:=congrArg List.length h
 rw [List.length_drop,List.length_append,bl_len] at hl
 have hv:=varB_pos n
 have hd : (bl b).drop (p + (varB n).length) = rest:=by
  have:=congrArg (List.drop (varB n).length) h
  rw [List.drop_drop,List.drop_left] at this
  exact this
 refine ⟨?_,by omega,hd⟩
 unfold pReadVar
 rw [if_pos (by omega),Int.toNat_natCast,h,rv_var n hn rest]
 rfl
theorem shT_bl (s : ByteArray) : bl (shT s) = varB s.size ++ bl s:=by unfold shT;rw [bl_app,bl_str (varB_byt _)]
theorem rs_at {b s : ByteArray} {p : Nat} {rest : List Int} (h : (bl b).drop p = bl (shT s) ++ rest) (hs : s.size ≤ 8000) : pReadShort b (p : Int) = (s,((p + (shT s).size : Nat) : Int),true) ∧ p + (shT s).size ≤ b.size ∧ (bl b).drop (p + (shT s).size) = rest:=by
 rw [shT_bl,List.append_assoc] at h
 obtain ⟨h1,h2,h3⟩:=rv_at h (by omega)
 have hl:=congrArg List.length h3
 rw [List.length_drop,List.length_append,bl_len,bl_len] at hl
 have hz:=shT_size s
 have hd : (bl b).drop (p + (shT s).size) = rest:=by
  have:=congrArg (List.drop s.size) h3
  rw [List.drop_drop,← bl_len s,List.drop_left,bl_len] at this
  rw [hz,← Nat.add_assoc]
  exact this
 refine ⟨?_,by omega,hd⟩
 unfold pReadShort
 rw [h1]
 simp only
 rw [if_pos ⟨trivial,by omega,by omega⟩]
 have e1 : (((p + (varB s.size).length : Nat) : Int) + (s.size : Int)) = ((p + (shT s).size : Nat) : Int):=by omega
 rw [e1,Int.toNat_natCast,Int.toNat_natCast]
 have e2 : b.extract (p + (varB s.size).length) (p + (shT s).size) = s:=by
  apply bl_inj
  rw [bl_ext,List.drop_take,h3,show p + (shT s).size - (p + (varB s.size).length) = s.size by omega,← bl_len s,List.take_left]
 rw [e2]
def txsI (kind : Int) (l : List It) : List Int:=(l.map fun x=>bl (txI kind x)).flatten
theorem txsI_cons (kind : Int) (x : It) (l : List It) : txsI kind (x :: l) = bl (txI kind x) ++ txsI kind l:=by unfold txsI;rw [List.map_cons,List.flatten_cons]
/-- An item that a page may have. -/
def gI (kind : Int) (x : It) : Prop:=x.f0.size ≤ 8000 ∧ (kind = 1 ∧ x.f1.size ≤ 8000 ∧ x.f2 = 0 ∨ kind = 2 ∧ x.f1 = noB ∧ 0 ≤ x.f2 ∧ x.f2 ≤ 399)
theorem txI_1 (x : It) : bl (txI 1 x) = bl (shT x.f0) ++ bl (shT x.f1):=by unfold txI;rw [if_pos rfl,bl_app]
theorem txI_2 (x : It) : bl (txI 2 x) = bl (shT x.f0) ++ varB x.f2.toNat:=by unfold txI;rw [if_neg (by decide),bl_app,bl_str (varB_byt _)]
theorem spG_back (kind : Int) (b : ByteArray) : ∀ (l : List It) (p : Nat) (acc : List It),(bl b).drop p = txsI kind l → (∀ x ∈ l,gI kind x) → spG kind b l.length (p : Int) true acc = (true,acc ++ l)
 | [],p,acc,_,_=>by rw [List.append_nil];rfl
 | x :: l,p,acc,h,hg=>by
  obtain ⟨h0,hk⟩:=hg x (List.mem_cons_self ..)
  have hg':=fun y hy=>hg y (List.mem_cons_of_mem _ hy)
  rw [txsI_cons] at h
  rw [List.length_cons,spG,if_pos rfl]
  rcases hk with ⟨rfl,h1,h2⟩|⟨rfl,h1,h2,h3⟩
  ·rw [txI_1,List.append_assoc] at h
   obtain ⟨a1,a2,a3⟩:=rs_at h h0
   obtain ⟨b1,b2,b3⟩:=rs_at a3 h1
   rw [a1]
   simp only [if_true]
   rw [b1]
   simp only
   rw [spG_back 1 b l _ (acc ++ [(⟨x.f0,x.f1,0⟩ : It)]) b3 hg',List.append_assoc,List.singleton_append,← h2]
  ·rw [txI_2,List.append_assoc] at h
   obtain ⟨a1,a2,a3⟩:=rs_at h h0
   obtain ⟨b1,b2,b3⟩:=rv_at a3 (by omega)
   rw [a1]
   simp only [if_true]
   rw [if_neg (by decide),b1]
   simp only
   rw [Int.toNat_of_nonneg h2,spG_back 2 b l _ (acc ++ [(⟨x.f0,noB,x.f2⟩ : It)]) b3 hg',List.append_assoc,List.singleton_append,← h1]
theorem rS_ok {b s : ByteArray} {a c : Int} (h : pReadShort b a = (s,c,true)) : rS b a false = (s,c,false):=by unfold rS;rw [h];simp
theorem rV_ok {b : ByteArray} {a n c : Int} (h : pReadVar b a = (n,c,true)) : rV b a false = (n,c,false):=by unfold rV;rw [h];simp
theorem imG_back (kind : Int) (b : ByteArray) : ∀ (l : List It) (p : Nat) (acc : List It),p ≤ b.size → (bl b).drop p = txsI kind l → (∀ x ∈ l,gI kind x) → imG kind b l.length (p : Int) false acc = ((b.size : Int),false,acc ++ l)
 | [],p,acc,hp,h,_=>by
  have hl:=congrArg List.length h
  rw [List.length_drop,bl_len] at hl
  have e : txsI kind [] = []:=rfl
  rw [e,List.length_nil] at hl
  rw [List.append_nil,List.length_nil,imG]
  congr 1
  omega
 | x :: l,p,acc,hp,h,hg=>by
  obtain ⟨h0,hk⟩:=hg x (List.mem_cons_self ..)
  have hg':=fun y hy=>hg y (List.mem_cons_of_mem _ hy)
  rw [txsI_cons] at h
  rw [List.length_cons,imG,if_neg (by decide)]
  rcases hk with ⟨rfl,h1,h2⟩|⟨rfl,h1,h2,h3⟩
  ·rw [txI_1,List.append_assoc] at h
   obtain ⟨a1,a2,a3⟩:=rs_at h h0
   obtain ⟨b1,b2,b3⟩:=rs_at a3 h1
   rw [if_neg (by decide),rS_ok a1]
   simp only
   rw [rS_ok b1]
   simp only
   rw [imG_back 1 b l _ (acc ++ [(⟨x.f0,x.f1,0⟩ : It)]) b2 b3 hg',List.append_assoc,List.singleton_append,← h2]
  ·rw [txI_2,List.append_assoc] at h
   obtain ⟨a1,a2,a3⟩:=rs_at h h0
   obtain ⟨b1,b2,b3⟩:=rv_at a3 (by omega)
   rw [if_pos rfl,rS_ok a1]
   simp only
   rw [rV_ok b1]
   simp only
   rw [Int.toNat_of_nonneg h2,imG_back 2 b l _ (acc ++ [(⟨x.f0,noB,x.f2⟩ : It)]) b2 b3 hg',List.append_assoc,List.singleton_append,← h1]
theorem noB_of {s : ByteArray} (h : s.toList = []) : s = noB:=by
 apply bl_inj
 have : (bl s).length = 0:=by rw [bl_len];exact tl_nil h
 rw [List.length_eq_zero_iff.1 this];rfl
theorem spL_true {kind : Int} {s : ByteArray} : ∀ (l : List It) (prev : Option ByteArray) (acc : ByteArray),spL kind prev acc l = (s,true) → ∃ B,pSealed B = (s,true) ∧ bl B = bl acc ++ txsI kind l ∧ ∀ x ∈ l,(if kind = 1 then x.f2 = 0 else x.f1.toList = [] ∧ 0 ≤ x.f2 ∧ x.f2 ≤ 399)
 | [],prev,acc,h=>by
  rw [spL] at h
  exact ⟨acc,h,by rw [show txsI kind [] = [] from rfl,List.append_nil],fun x hx=>by simp at hx⟩
 | x :: l,prev,acc,h=>by
  rw [spL] at h
  by_cases g : itG kind prev x = true
  ·rw [if_pos g] at h
   obtain ⟨B,h1,h2,h3⟩:=spL_true l _ _ h
   refine ⟨B,h1,by rw [h2,txsI_cons,bl_app,List.append_assoc],fun y hy=>?_⟩
   rcases List.mem_cons.1 hy with rfl|hy
   ·unfold itG at g
    by_cases c : kind = 1
    ·rw [if_pos c] at g ⊢
     simp only [Bool.and_eq_true,decide_eq_true_eq] at g
     exact g.2.2
    ·rw [if_neg c] at g ⊢
     simp only [Bool.and_eq_true,decide_eq_true_eq] at g
     exact g.2.2
   ·exact h3 y hy
  ·rw [if_neg g] at h
   simp [noText] at h
theorem szT_mem (kind : Int) : ∀ (l : List It) (x : It),x ∈ l → szT kind x ≤ sumT kind l
 | [],x,h=>by simp at h
 | y :: l,x,h=>by
  rw [sumT_cons]
  have hl:=sumT_lo kind l
  have hy:=szT_lo kind y
  rcases List.mem_cons.1 h with rfl|h
  ·omega
  ·have:=szT_mem kind l x h
   omega
theorem pSealed_true {B s : ByteArray} (h : pSealed B = (s,true)) : s = B ++ strOfNums (four (sumB B)) ∧ B.size ≤ 8000:=by
 unfold pSealed at h
 split at h
 ·simp at h
 ·simp only [Prod.mk.injEq,and_true] at h
  exact ⟨h.symm,by omega⟩
/-- What a right page's text is made of. -/
theorem pPage_true {kind : Int} {l : List It} {s : ByteArray} (h : pPage kind l = (s,true)) : (kind = 1 ∨ kind = 2) ∧ l ≠ [] ∧ sumT kind l ≤ 54 ∧ (∀ x ∈ l,gI kind x) ∧ ∃ B,pUnsealed s = (B,true) ∧ s = B ++ strOfNums (four (sumB B)) ∧ bl B = kind :: (varB l.length ++ txsI kind l):=by
 unfold pPage at h
 split at h
 ·rename_i hc
  obtain ⟨hk,h0,hs⟩:=hc
  obtain ⟨B,h1,h2,h3⟩:=spL_true l _ _ h
  obtain ⟨h4,h5⟩:=pSealed_true h1
  refine ⟨hk,h0,by omega,fun x hx=>?_,B,by rw [h4];exact unseal_seal B h5,h4,?_⟩
  ·have hz:=szT_mem kind l x hx
   have lo:=szT_lo kind x
   have hg:=h3 x hx
   refine ⟨by omega,?_⟩
   rcases hk with rfl|rfl
   ·rw [if_pos rfl] at hg
    have:=szT_lo1 x
    exact .inl ⟨rfl,by omega,hg⟩
   ·rw [if_neg (by decide)] at hg
    exact .inr ⟨rfl,noB_of hg.1,hg.2⟩
  ·rw [h2]
   unfold headP
   rw [bl_app,bl_str (varB_byt _),bl_str (Byt.one ⟨by omega,by omega⟩)]
   have : kind % 256 = kind:=by omega
   rw [this]
   simp
 ·simp [noText] at h
theorem sumT_len54 {kind : Int} {l : List It} (h : sumT kind l ≤ 54) : l.length ≤ 54:=by have:=sumT_lo kind l;omega
theorem bt0_of {B : ByteArray} {v : Int} {r : List Int} (h : bl B = v :: r) : bt B 0 = v:=by have:=bt_nat B 0;rw [h] at this;exact this
theorem body_facts {kind : Int} {l : List It} {s B : ByteArray} (h : sumT kind l ≤ 54) (hB : bl B = kind :: (varB l.length ++ txsI kind l)) : 2 ≤ B.size ∧ pReadVar B 1 = ((l.length : Int),((1 + (varB l.length).length : Nat) : Int),true) ∧ 1 + (varB l.length).length ≤ B.size ∧ (bl B).drop (1 + (varB l.length).length) = txsI kind l:=by
 have hl:=sumT_len54 h
 have hd : (bl B).drop 1 = varB l.length ++ txsI kind l:=by rw [hB];rfl
 obtain ⟨h1,h2,h3⟩:=rv_at hd (by omega)
 have:=varB_pos l.length
 exact ⟨by omega,h1,h2,h3⟩
theorem pReadPage_of {kind : Int} {l : List It} {s : ByteArray} (h : pPage kind l = (s,true)) : pReadPage s = (kind,l,true):=by
 obtain ⟨hk,_,h54,hg,B,hU,_,hB⟩:=pPage_true h
 obtain ⟨h2,hv,_,hd⟩:=body_facts (s:=s) h54 hB
 unfold pReadPage
 rw [hU]
 simp only
 rw [if_pos ⟨trivial,h2⟩,bt0_of hB,hv]
 simp only
 rw [Int.toNat_natCast,spG_back kind B l _ [] hd hg,List.nil_append]
 unfold spEnd
 rw [h]
 simp
theorem iReadP_of {kind : Int} {l : List It} {s : ByteArray} (h : pPage kind l = (s,true)) : iReadP s = (kind,l,true):=by
 obtain ⟨hk,_,h54,hg,B,hU,_,hB⟩:=pPage_true h
 obtain ⟨h2,hv,hle,hd⟩:=body_facts (s:=s) h54 hB
 have ho : rO B = (kind,1,false):=by unfold rO;rw [if_pos (by omega),bt0_of hB]
 unfold iReadP
 rw [hU]
 simp only
 rw [if_pos trivial,ho]
 simp only
 rw [rV_ok hv]
 simp only
 rw [Int.toNat_natCast,imG_back kind B l _ [] hle hd hg,List.nil_append]
 unfold imEnd
 rw [h]
 simp
theorem pair_true {x : ByteArray × Bool} {s : ByteArray} (h : x.2 = true) (h' : x.1 = s) : x = (s,true):=by cases x;simp_all
theorem readP_eq (s : ByteArray) : iReadP s = pReadPage s:=by
 by_cases h : ∃ (kind : Int) (l : List It),pPage kind l = (s,true)
 ·obtain ⟨kind,l,h⟩:=h
  rw [iReadP_of h,pReadPage_of h]
 ·have h1 : pReadPage s = noPage:=by
   unfold pReadPage
   split
   ·unfold spEnd
    split
    ·rename_i hc
     exact absurd ⟨_,_,pair_true hc.2.1 hc.2.2⟩ h
    ·rfl
   ·rfl
  have h2 : iReadP s = noPage:=by
   unfold iReadP
   split
   ·unfold imEnd
    split
    ·rename_i hc
     exact absurd ⟨_,_,pair_true hc.2.1 hc.2.2⟩ h
    ·rfl
   ·rfl
  rw [h1,h2]
theorem snocOk {acc : List It} (h : ∀ x ∈ acc,OkIt x) {x : It} (hx : OkIt x) : ∀ y ∈ acc ++ [x],OkIt y:=fun y hy=>by
 rcases List.mem_append.1 hy with hy|hy
 ·exact h y hy
 ·rw [List.mem_singleton.1 hy];exact hx
theorem unsealed_size {s : ByteArray} : (pUnsealed s).1.size ≤ 8000:=by
 unfold pUnsealed
 split
 ·rename_i h
  have:=cutB_size s
  simp only
  omega
 ·exact Nat.zero_le _

def kgP (kind : Int) (x : S61) : Bool:=if kind = 1 then decide (x.f2 = 0) else decide (x.f1.toList = [] ∧ 0 ≤ x.f2 ∧ x.f2 ≤ 399)
theorem i_itemOk (kind : Int) (x : S61) : impl_itemOk.f kind x.f0 x.f1 x.f2 = some (decide (¬ x.f0.toList = []) && kgP kind x):=by
 unfold impl_itemOk.f kgP
 by_cases e : x.f0.toList = []
 ·rw [if_pos e];simp [e]
 ·rw [if_neg e,decide_eq_true e,Bool.true_and]
  by_cases c : kind = 1
  ·rw [if_pos c,if_pos c]
   congr 1
  ·rw [if_neg c,if_neg c]
   by_cases g : x.f1.toList = []
   ·rw [if_pos g,i_in];simp [g]
   ·rw [if_neg g];simp [g]
theorem iPage_t (kind : Int) (L M : List S61) (acc : ByteArray) (z n i : Int) (a b : ByteArray) (c : Int) : Ev (fun k=>impl_PageText.j2 k acc z L n i true kind M a b c) noText:=(Ev.now _).to fun k=>by simp only [impl_PageText.j2,if_true];rfl
def smI (x : S61) : Bool:=decide (x.f0.size ≤ 54 ∧ x.f1.size ≤ 54)
theorem iPage_sm (L : List S61) (kind : Int) (acc : ByteArray) (z n i : Int) (x : S61) (k : Nat) : (if (x.f0.size : Int) > 54 then (impl_PageText.j2 k acc z L n i true kind L x.f0 x.f1 x.f2) else (impl_PageText.j2 k acc z L n i (decide ((x.f1.size : Int) > 54)) kind L x.f0 x.f1 x.f2)) = impl_PageText.j2 k acc z L n i (!smI x) kind L x.f0 x.f1 x.f2:=by
 unfold smI
 by_cases e : (x.f0.size : Int) > 54
 ·rw [if_pos e,decide_eq_false (by omega)];rfl
 ·rw [if_neg e]
  congr 1
  by_cases g : (x.f1.size : Int) > 54
  ·rw [decide_eq_true g,decide_eq_false (by omega)];rfl
  ·rw [decide_eq_false g,decide_eq_true (by omega)];rfl
theorem iPage_l (kind : Int) (L : List S61) (hL : L.length ≤ 1048576) (acc : ByteArray) (z : Int) (i : Nat) (hlt : i < L.length) (k : Nat) : impl_PageText.l0 (k + 1) acc z L (L.length : Int) (i : Int) kind L = impl_PageText.j2 k acc z L (L.length : Int) (i : Int) (!(itG kind (prevAt L i) L[i] && smI L[i])) kind L L[i].f0 L[i].f1 L[i].f2:=by
 simp only [impl_PageText.l0]
 rw [if_pos (by omega),if_pos (by omega),if_pos (by omega),ri_Item hlt,i_itemOk]
 simp only [Option.bind_some]
 by_cases e : (decide (¬ L[i].f0.toList = []) && kgP kind L[i]) = true
 ·rw [if_pos e]
  have e1 : decide (¬ L[i].f0.toList = []) = true:=(Bool.and_eq_true _ _ ▸ e).1
  have e2 : kgP kind L[i] = true:=(Bool.and_eq_true _ _ ▸ e).2
  by_cases hi : i = 0
  ·have hp : prevAt L i = none:=by unfold prevAt;rw [if_pos hi]
   have g : itG kind (prevAt L i) L[i] = true:=by unfold itG;rw [hp,e1];unfold kgP at e2;rw [e2];rfl
   rw [if_neg (by omega),iPage_sm,g,Bool.true_and]
  ·have hj : i - 1 < L.length:=by omega
   have w : wrap64 ((i : Int) - 1) = ((i - 1 : Nat) : Int):=by rw [wid (by omega) (by omega)];omega
   have hp : prevAt L i = some L[i - 1].f0:=by unfold prevAt;rw [if_neg hi,List.getElem?_eq_getElem hj];rfl
   rw [if_pos (by omega),w];clear w
   rw [if_pos (by omega),if_pos (by omega),ri_Item hj]
   by_cases b : Op.bytesLess L[i - 1].f0.toList L[i].f0.toList = true
   ·have g : itG kind (prevAt L i) L[i] = true:=by unfold itG;rw [hp,e1];unfold kgP at e2;rw [e2];simp only [b];rfl
    rw [if_pos b,iPage_sm,g,Bool.true_and]
   ·have g : itG kind (prevAt L i) L[i] = false:=by unfold itG;rw [hp];simp [b]
    rw [if_neg b,g];rfl
 ·rw [if_neg e]
  have g : itG kind (prevAt L i) L[i] = false:=by
   unfold itG
   unfold kgP at e
   generalize (if kind = 1 then decide (L[i].f2 = 0) else decide (L[i].f1.toList = [] ∧ 0 ≤ L[i].f2 ∧ L[i].f2 ≤ 399)) = q at e ⊢
   generalize decide (¬ L[i].f0.toList = []) = p at e ⊢
   cases p <;> cases q <;> simp_all
  rw [g];rfl
theorem pShort_small {s : ByteArray} (h : s.size ≤ 54) : (pShort s).1 = shT s:=by unfold pShort shT;rw [if_neg (by omega)]
theorem szI_small {kind : Int} {x : S61} (hk : kind = 1 ∨ kind = 2) (h0 : x.f0.size ≤ 54) (h1 : x.f1.size ≤ 54) : szI kind x = szT kind x:=by
 unfold szI szT
 rw [pShort_small h0,pShort_small h1]
 rcases hk with rfl|rfl
 ·rw [if_pos rfl,if_pos rfl]
 ·rw [if_neg (by decide),if_pos rfl,if_neg (by decide)]
theorem iPage_j (kind : Int) (hk : kind = 1 ∨ kind = 2) (L : List S61) (acc : ByteArray) (z n i : Int) (x : S61) (h0 : x.f0.size ≤ 54) (h1 : x.f1.size ≤ 54) (hg : kind = 1 ∨ 0 ≤ x.f2 ∧ x.f2 ≤ 399) (ha : acc.size ≤ 100000000000000) (hz0 : 0 ≤ z) (hz1 : z ≤ 100000000000000) {r : ByteArray × Bool} (h : Ev (fun k=>impl_PageText.l0 k (acc ++ txI kind x) (z + szT kind x) L n (wrap64 (i + 1)) kind L) r) : Ev (fun k=>impl_PageText.j2 k acc z L n i false kind L x.f0 x.f1 x.f2) r:=by
 have b0:=shT_hi (s:=x.f0) (by omega)
 have b1:=shT_hi (s:=x.f1) (by omega)
 have bz:=szI_bd kind x
 rw [← szI_small hk h0 h1] at h
 have w : qn (wrap64 (z + szI kind x) = z + szI kind x):=⟨wid (by omega) (by omega)⟩
 refine Ev.to (f:=fun k=>(impl_ItemSize.f k kind x.f0 x.f1 x.f2).bind fun t204=>(impl_ShortText.f k x.f0).bind fun bt205=>(impl_ShortText.f k x.f1).bind fun bt207=>if kind = 2 then (impl_VarText.f k x.f2).bind fun bt209=>if bt205.1.size + bt209.1.size ≤ 9223372036854775807 then (if acc.size + (bt205.1 ++ bt209.1).size ≤ 9223372036854775807 then impl_PageText.l0 k (acc ++ (bt205.1 ++ bt209.1)) (wrap64 (z + t204)) L n (wrap64 (i + 1)) kind L else none) else none else if bt205.1.size + bt207.1.size ≤ 9223372036854775807 then (if acc.size + (bt205.1 ++ bt207.1).size ≤ 9223372036854775807 then impl_PageText.l0 k (acc ++ (bt205.1 ++ bt207.1)) (wrap64 (z + t204)) L n (wrap64 (i + 1)) kind L else none) else none) ?_ fun k=>by simp only [impl_PageText.j2];rw [if_neg (by decide)]
 refine (iItemSize kind x (by omega) (by omega)).bind ((iShortText x.f0 (by omega)).bind ((iShortText x.f1 (by omega)).bind ?_))
 rw [w.out,pShort_small h0,pShort_small h1]
 rcases hk with c|c
 ·refine Ev.ifn (by omega) (Ev.ifp (by omega) (Ev.ifp (by rw [ByteArray.size_append];omega) ?_))
  have : txI kind x = shT x.f0 ++ shT x.f1:=by unfold txI;rw [if_pos c]
  rw [this] at h
  exact h
 ·have hr:=hg.resolve_left (by omega)
  have hl:=varB_lenB (n:=x.f2.toNat) (by omega)
  have e : (pVarText x.f2).1 = strOfNums (varB x.f2.toNat):=by unfold pVarText;rw [if_pos (by omega)]
  refine Ev.ifp c ((iVarText x.f2).bind ?_)
  rw [e]
  refine Ev.ifp (by rw [str_len];omega) (Ev.ifp (by rw [ByteArray.size_append,str_len];omega) ?_)
  have : txI kind x = shT x.f0 ++ strOfNums (varB x.f2.toNat):=by unfold txI;rw [if_neg (by omega)]
  rw [this] at h
  exact h
theorem iPage_go (kind : Int) (hk : kind = 1 ∨ kind = 2) (L : List S61) (hL : L.length ≤ 1048576) (hO : ∀ x ∈ L,OkIt x) : ∀ (d i : Nat) (acc : ByteArray) (z : Int),i + d = L.length → acc.size ≤ 100 + 2097162 * i → 0 ≤ z → z ≤ 2097162 * i → Ev (fun k=>impl_PageText.l0 k acc z L (L.length : Int) (i : Int) kind L) (imL kind (prevAt L i) acc z (L.drop i))
 | 0,i,acc,z,hi,ha,h0,h1=>by
  rw [List.drop_of_length_le (by omega),imL]
  refine Ev.to (f:=fun k=>if z > 54 then some noText else (impl_Sealed.f k acc).bind fun bt140=>some (bt140.1,bt140.2)) ?_ fun k=>by
   simp only [impl_PageText.l0]
   rw [if_neg (by omega)]
   rfl
  by_cases c : z > 54
  ·rw [if_pos c]
   exact Ev.ifp c (Ev.now _)
  ·rw [if_neg c]
   exact Ev.ifn c ((iSealed acc (by omega)).bind (Ev.now _))
 | d + 1,i,acc,z,hi,ha,h0,h1=>by
  have hlt : i < L.length:=by omega
  have hx:=hO L[i] (List.getElem_mem hlt)
  have w : wrap64 ((i : Int) + 1) = ((i + 1 : Nat) : Int):=by rw [wid (by omega) (by omega)];rfl
  rw [List.drop_eq_getElem_cons hlt,imL]
  refine Ev.to (f:=fun k=>impl_PageText.j2 k acc z L (L.length : Int) (i : Int) (!(itG kind (prevAt L i) L[i] && smI L[i])) kind L L[i].f0 L[i].f1 L[i].f2) ?_ fun k=>iPage_l kind L hL acc z i hlt k
  by_cases g : itG kind (prevAt L i) L[i] = true ∧ L[i].f0.size ≤ 54 ∧ L[i].f1.size ≤ 54
  ·rw [if_pos g,g.1,show smI L[i] = true from decide_eq_true g.2]
   have hg : kind = 1 ∨ 0 ≤ L[i].f2 ∧ L[i].f2 ≤ 399:=by
    by_cases c : kind = 1
    ·exact .inl c
    ·exact .inr (itG_inner g.1 c).2
   have hs:=txI_size kind L[i] hx hg
   have lo:=szT_lo kind L[i]
   have hi':=szT_hi kind L[i] hx.1 hx.2
   have ih:=iPage_go kind hk L hL hO d (i + 1) (acc ++ txI kind L[i]) (z + szT kind L[i]) (by omega) (by rw [ByteArray.size_append];omega) (by omega) (by omega)
   rw [prevAt_succ hlt] at ih
   refine iPage_j kind hk L acc z _ i L[i] g.2.1 g.2.2 hg (by omega) (by omega) (by omega) ?_
   rw [w]
   exact ih
  ·rw [if_neg g,show (itG kind (prevAt L i) L[i] && smI L[i]) = false from by
    unfold smI
    cases hh : itG kind (prevAt L i) L[i] with
    | false=>rfl
    | true=>rw [decide_eq_false (fun h=>g ⟨hh,h⟩)];rfl]
   exact iPage_t kind L L acc z _ i _ _ _
theorem iPageText (kind : Int) (L : List S61) (hL : L.length ≤ 1048576) (hO : ∀ x ∈ L,OkIt x) : Ev (fun k=>impl_PageText.f k kind L) (pPage kind L):=by
 have bad : Ev (fun k=>impl_PageText.j0 k true kind L) noText:=(Ev.now _).to fun k=>by simp only [impl_PageText.j0,if_true];rfl
 have main : (kind = 1 ∨ kind = 2) → Ev (fun k=>impl_PageText.j0 k ((L.length : Int) == 0) kind L) (pPage kind L):=by
  intro hk
  by_cases h0 : L = []
  ·have : pPage kind L = noText:=by unfold pPage;rw [if_neg (fun h=>h.2.1 h0)]
   rw [this,show ((L.length : Int) == 0) = true from by rw [h0];rfl]
   exact bad
  ·have hp : L.length ≠ 0:=fun h=>h0 (List.length_eq_zero_iff.1 h)
   rw [show ((L.length : Int) == 0) = false from beq_eq_false_iff_ne.mpr (by omega)]
   have : pPage kind L = imL kind none (headP kind L.length) 0 L:=by
    rw [imL_eq kind L none _ 0 (by omega),Int.zero_add]
    unfold pPage
    by_cases hs : sumT kind L > 54
    ·rw [if_neg (fun h=>h.2.2 hs),if_pos hs]
    ·rw [if_pos ⟨hk,h0,hs⟩,if_neg hs]
   rw [this]
   have hh:=headP_size kind hL
   have ih:=iPage_go kind hk L hL hO L.length 0 (headP kind L.length) 0 (by omega) (by omega) (by omega) (by omega)
   rw [List.drop_zero,show prevAt L 0 = none from rfl] at ih
   have hv:=varB_lenB hL
   have e : (pVarText (L.length : Int)).1 = strOfNums (varB L.length):=by unfold pVarText;rw [if_pos (by omega),Int.toNat_natCast]
   refine Ev.to (f:=fun k=>(impl_VarText.f k (L.length : Int)).bind fun t139=>if (strOfNums [kind % 256]).size + t139.1.size ≤ 9223372036854775807 then impl_PageText.l0 k (strOfNums [kind % 256] ++ t139.1) 0 L (L.length : Int) 0 kind L else none) ((iVarText (L.length : Int)).bind ?_) fun k=>?_
   ·rw [e]
    exact Ev.ifp (by rw [str_len,str_len];simp only [List.length_singleton];omega) ih
   ·simp only [impl_PageText.j0,Option.bind_some]
    rw [if_neg (by decide)]
 unfold impl_PageText.f
 by_cases h1 : kind = 1
 ·exact Ev.ifp h1 (main (.inl h1))
 ·by_cases h2 : kind = 2
  ·exact Ev.ifn h1 (Ev.ifp h2 (main (.inr h2)))
  ·have : pPage kind L = noText:=by unfold pPage;rw [if_neg (fun h=>by omega)]
   rw [this]
   exact Ev.ifn h1 (Ev.ifn h2 bad)

theorem iRV_go (s : ByteArray) (hs : s.size ≤ 140737488351232) (a : Nat) : ∀ (f c : Nat) (n : Int),c + f = 5 → a + c ≤ s.size → 0 ≤ n → n < 128 ^ c →
  Ev (fun k=>impl_ReadVar.l0 k s a n (128 ^ c) ((a + c : Nat) : Int)) (rvRes a (rvGo f n (128 ^ c) c ((bl s).drop (a + c))))
 | 0,c,n,hf,hc,h0,h1=>by
  have h5 : qn (¬ ((a + c : Nat) : Int) < wrap64 ((a : Int) + 5)):=⟨by rw [wid (by omega) (by omega)];omega⟩
  simp only [rvGo,rvRes]
  have : Ev (fun k=>impl_ReadVar.j1 k s a n (128 ^ c) ((a + c : Nat) : Int) false) (0,0,false):=(Ev.now _).to fun k=>by simp only [impl_ReadVar.j1];rw [if_neg (by decide)]
  refine this.to fun k=>?_
  simp only [impl_ReadVar.l0]
  rw [decide_eq_false h5.out,ite_self]
 | f + 1,c,n,hf,hc,h0,h1=>by
  have h5 : qn (((a + c : Nat) : Int) < wrap64 ((a : Int) + 5)):=⟨by rw [wid (by omega) (by omega)];omega⟩
  by_cases hi : a + c < s.size
  ·have hb:=bt_range s ((a + c : Nat) : Int)
   have hp:=pow128 (c:=c) (by omega)
   rw [bl_cons hi]
   generalize hB : bt s ((a + c : Nat) : Int) = b at *
   have hx0 : 0 ≤ b % 128 * 128 ^ c:=Int.mul_nonneg (by omega) (by omega)
   have hx1 : b % 128 * 128 ^ c ≤ 127 * 128 ^ c:=Int.mul_le_mul_of_nonneg_right (by omega) (by omega)
   have e1 : qn (wrap64 (n + wrap64 (Int.tmod (wrap64 b) 128 * 128 ^ c)) = n + b % 128 * 128 ^ c):=⟨by
    rw [wid (n:=b) (by omega) (by omega),tmod_pos hb.1,wid (n:=b % 128 * 128 ^ c) (by omega) (by omega),wid (by omega) (by omega)]⟩
   have e2 : qn (wrap64 (((a + c : Nat) : Int) + 1) = ((a + (c + 1) : Nat) : Int)):=⟨by rw [wid (by omega) (by omega)];omega⟩
   by_cases h8 : b < 128
   ·simp only [rvGo]
    rw [if_pos h8]
    have : Ev (fun k=>impl_ReadVar.j1 k s a n (128 ^ c) ((a + c : Nat) : Int) true) (rvRes a (if (b = 0 ∧ 0 < c) ∨ n + b % 128 * 128 ^ c > 1000000000 then none else some (n + b % 128 * 128 ^ c,c + 1))):=by
     refine (Ev.now _).to fun k=>?_
     simp only [impl_ReadVar.j1,if_true]
     rw [if_pos (by omega),if_pos (by omega),hB,e1.out,e2.out,wid (n:=b) (by omega) (by omega),if_pos h8]
     by_cases hz : b = 0
     ·rw [if_pos hz]
      by_cases hc0 : 0 < c
      ·rw [if_pos (by omega),if_pos (.inl ⟨hz,hc0⟩)];rfl
      ·rw [if_neg (by omega)]
       by_cases hm : n + b % 128 * 128 ^ c > 1000000000
       ·rw [if_pos hm,if_pos (.inr hm)];rfl
       ·rw [if_neg hm,if_neg (by omega)];simp only [rvRes];congr 3
     ·rw [if_neg hz]
      by_cases hm : n + b % 128 * 128 ^ c > 1000000000
      ·rw [if_pos hm,if_pos (.inr hm)];rfl
      ·rw [if_neg hm,if_neg (by omega)];simp only [rvRes];congr 3
    refine this.to fun k=>?_
    simp only [impl_ReadVar.l0]
    rw [if_pos (by omega),decide_eq_true h5.out]
   ·simp only [rvGo]
    rw [if_neg h8]
    have ih:=iRV_go s hs a f (c + 1) (n + b % 128 * 128 ^ c) (by omega) (by omega) (by omega) (by rw [Int.pow_succ];omega)
    rw [Int.pow_succ] at ih
    have : Ev (fun k=>impl_ReadVar.j1 k s a n (128 ^ c) ((a + c : Nat) : Int) true) (rvRes a (rvGo f (n + b % 128 * 128 ^ c) (128 ^ c * 128) (c + 1) ((bl s).drop (a + (c + 1))))):=by
     refine ih.to fun k=>?_
     simp only [impl_ReadVar.j1,if_true]
     rw [if_pos (by omega),if_pos (by omega),hB,e1.out,e2.out,wid (n:=b) (by omega) (by omega),if_neg h8,wid (n:=128 ^ c * 128) (by omega) (by omega)]
    refine this.to fun k=>?_
    simp only [impl_ReadVar.l0]
    rw [if_pos (by omega),decide_eq_true h5.out]
  ·rw [bl_end (by omega)]
   simp only [rvGo,rvRes]
   have : Ev (fun k=>impl_ReadVar.j1 k s a n (128 ^ c) ((a + c : Nat) : Int) false) (0,0,false):=(Ev.now _).to fun k=>by simp only [impl_ReadVar.j1];rw [if_neg (by decide)]
   refine this.to fun k=>?_
   simp only [impl_ReadVar.l0]
   rw [if_neg (by omega)]
theorem iReadVar (s : ByteArray) (hs : s.size ≤ 140737488351232) (a : Int) : Ev (fun k=>impl_ReadVar.f k s a) (pReadVar s a):=by
 unfold impl_ReadVar.f pReadVar
 by_cases h : 0 ≤ a ∧ a ≤ s.size
 ·rw [i_in_t h,if_pos h]
  simp only [Option.bind_some,if_true]
  have:=iRV_go s hs a.toNat 5 0 0 rfl (by omega) (by omega) (by decide)
  simp only [Nat.add_zero,Int.pow_zero,Int.toNat_of_nonneg h.1] at this
  exact this
 ·rw [i_in_f h,if_neg h]
  simp only [Option.bind_some,Bool.false_eq_true,if_false]
  exact Ev.now _

theorem iReadShort (s : ByteArray) (hs : s.size ≤ 140737488351232) (a : Int) : Ev (fun k=>impl_ReadShort.f k s a) (pReadShort s a):=by
 unfold impl_ReadShort.f
 refine (iReadVar s hs a).bind ?_
 unfold pReadShort
 rcases pReadVar_cases s a with e|⟨n,next,e⟩
 ·rw [e]
  simp only [Bool.false_eq_true,false_and,if_false]
  exact Ev.now _
 ·obtain ⟨c,h0,hn,_,_,hc,h1,h2⟩:=pReadVar_some e
  rw [e]
  simp only [true_and,if_true]
  have w1 : wrap64 ((s.size : Int) - next) = (s.size : Int) - next:=wid (by omega) (by omega)
  have w2 : wrap64 (next + n) = next + n:=wid (by omega) (by omega)
  rw [w1,w2];clear w1 w2
  by_cases h8 : n ≤ 8000
  ·by_cases h9 : n ≤ (s.size : Int) - next
   ·rw [if_neg (by omega),if_neg (by omega),if_pos (by omega),if_pos (by omega),if_pos (by omega),if_pos ⟨h8,h9⟩]
    exact Ev.now _
   ·rw [if_neg (by omega),if_pos (by omega),if_neg (fun h=>h9 h.2)]
    exact Ev.now _
  ·rw [if_pos (by omega),if_neg (fun h=>h8 h.1)]
   exact Ev.now _

theorem sealed_bl (s : ByteArray) : bl (s ++ strOfNums (four (sumB s))) = bl s ++ four (sumB s):=by rw [bl_app,bl_str (four_byt _)]
theorem iUnsealed (s : ByteArray) (hs : s.size ≤ 140737488351232) : Ev (fun k=>impl_Unsealed.f k s) (pUnsealed s):=by
 unfold impl_Unsealed.f pUnsealed
 have w : wrap64 ((s.size : Int) - 4) = (s.size : Int) - 4:=wid (by omega) (by omega)
 rw [w];clear w
 by_cases h4 : 4 ≤ s.size
 ·have e : ((s.size : Int) - 4).toNat = s.size - 4:=by omega
  simp only [if_neg (show ¬ (s.size : Int) < 4 by omega),if_pos (show 0 ≤ (s.size : Int) - 4 by omega),if_pos (show (s.size : Int) - 4 ≤ s.size by omega),e]
  refine (iSealed (cutB s) (by rw [cutB_size];omega)).bind ?_
  have hcs:=cutB_size s
  by_cases h8 : s.size - 4 ≤ 8000
  ·have e1 : pSealed (cutB s) = (cutB s ++ strOfNums (four (sumB (cutB s))),true):=by unfold pSealed;rw [if_neg (by omega)]
   rw [e1]
   have hiff : (cutB s ++ strOfNums (four (sumB (cutB s)))).toList = s.toList ↔ (bl s).drop (s.size - 4) = four (sumB (cutB s)):=by
    rw [tl_bl,sealed_bl,cutB_bl]
    conv=>lhs;rhs;rw [← List.take_append_drop (s.size - 4) (bl s)]
    rw [List.append_cancel_left_eq]
    exact eq_comm
   by_cases hh : (bl s).drop (s.size - 4) = four (sumB (cutB s))
   ·rw [if_pos (⟨h4,h8,hh⟩ : 4 ≤ s.size ∧ s.size - 4 ≤ 8000 ∧ (bl s).drop (s.size - 4) = four (sumB (cutB s)))]
    simp only [if_true]
    exact Ev.same (if_pos (hiff.2 hh))
   ·rw [if_neg (fun h : 4 ≤ s.size ∧ s.size - 4 ≤ 8000 ∧ (bl s).drop (s.size - 4) = four (sumB (cutB s))=>hh h.2.2)]
    simp only [if_true]
    exact Ev.same (if_neg (fun h=>hh (hiff.1 h)))
  ·have e1 : pSealed (cutB s) = (⟨#[]⟩,false):=by unfold pSealed;rw [if_pos (by omega)]
   rw [e1,if_neg (fun h : 4 ≤ s.size ∧ s.size - 4 ≤ 8000 ∧ (bl s).drop (s.size - 4) = four (sumB (cutB s))=>h8 h.2.1)]
   simp only [Bool.false_eq_true,if_false]
   exact Ev.now _
 ·rw [if_neg (fun h : 4 ≤ s.size ∧ s.size - 4 ≤ 8000 ∧ (bl s).drop (s.size - 4) = four (sumB (cutB s))=>h4 h.1)]
  exact Ev.ifp (by omega) (Ev.now _)

theorem rS_b (b : ByteArray) (a : Int) : rS b a true = (noB,a,true):=if_pos rfl
theorem rS_y {b : ByteArray} {a : Int} (h : (pReadShort b a).2.2 = true) : rS b a false = ((pReadShort b a).1,(pReadShort b a).2.1,false):=(if_neg (by decide)).trans (if_pos h)
theorem rS_n {b : ByteArray} {a : Int} (h : ¬ (pReadShort b a).2.2 = true) : rS b a false = (noB,a,true):=(if_neg (by decide)).trans (if_neg h)
theorem rV_b (b : ByteArray) (a : Int) : rV b a true = (0,a,true):=if_pos rfl
theorem rV_y {b : ByteArray} {a : Int} (h : (pReadVar b a).2.2 = true) : rV b a false = ((pReadVar b a).1,(pReadVar b a).2.1,false):=(if_neg (by decide)).trans (if_pos h)
theorem rV_n {b : ByteArray} {a : Int} (h : ¬ (pReadVar b a).2.2 = true) : rV b a false = (0,a,true):=(if_neg (by decide)).trans (if_neg h)
theorem i_short (b : ByteArray) (hb : b.size ≤ 8000) (a : Int) (bad : Bool) : Ev (fun k=>impl_reader_short.f k b a bad) ((rS b a bad).1,b,(rS b a bad).2.1,(rS b a bad).2.2):=by
 unfold impl_reader_short.f
 refine (iReadShort b (by omega) a).bind ?_
 cases bad
 ·refine Ev.ifn (by decide) ?_
  by_cases h' : (pReadShort b a).2.2 = true
  ·rw [rS_y h']
   exact Ev.ifp h' (Ev.now _)
  ·rw [rS_n h']
   exact Ev.ifn h' (Ev.now _)
 ·rw [rS_b]
  exact Ev.ifp rfl (Ev.now _)
theorem i_num (b : ByteArray) (hb : b.size ≤ 8000) (a : Int) (bad : Bool) : Ev (fun k=>impl_reader_num.f k b a bad) ((rV b a bad).1,b,(rV b a bad).2.1,(rV b a bad).2.2):=by
 unfold impl_reader_num.f
 refine (iReadVar b (by omega) a).bind ?_
 cases bad
 ·refine Ev.ifn (by decide) ?_
  by_cases h' : (pReadVar b a).2.2 = true
  ·rw [rV_y h']
   exact Ev.ifp h' (Ev.now _)
  ·rw [rV_n h']
   exact Ev.ifn h' (Ev.now _)
 ·rw [rV_b]
  exact Ev.ifp rfl (Ev.now _)
theorem rS_bd (b : ByteArray) (hb : b.size ≤ 8000) (a : Int) (bad : Bool) : (rS b a bad).1.size ≤ 8000 ∧ ((rS b a bad).2.2 = false → bad = false ∧ a + 1 ≤ (rS b a bad).2.1 ∧ (rS b a bad).2.1 ≤ b.size):=by
 unfold rS
 by_cases h : bad = true
 ·rw [if_pos h];exact ⟨Nat.zero_le _,fun h=>by simp at h⟩
 ·rw [if_neg h]
  by_cases h' : (pReadShort b a).2.2 = true
  ·rw [if_pos h']
   have:=rShort_bd h'
   exact ⟨this.2.2.2,fun _=>⟨by simpa using h,this.2.1,this.2.2.1⟩⟩
  ·rw [if_neg h'];exact ⟨Nat.zero_le _,fun h=>by simp at h⟩
theorem rV_bd (b : ByteArray) (a : Int) (bad : Bool) : 0 ≤ (rV b a bad).1 ∧ (rV b a bad).1 ≤ 1000000000 ∧ ((rV b a bad).2.2 = false → bad = false ∧ a + 1 ≤ (rV b a bad).2.1 ∧ (rV b a bad).2.1 ≤ b.size):=by
 unfold rV
 by_cases h : bad = true
 ·rw [if_pos h];exact ⟨Int.le_refl 0,show (0 : Int) ≤ 1000000000 by decide,fun h=>by simp at h⟩
 ·rw [if_neg h]
  by_cases h' : (pReadVar b a).2.2 = true
  ·rw [if_pos h']
   have:=rVar_bd h'
   exact ⟨this.2.2.2.1,this.2.2.2.2,fun _=>⟨by simpa using h,this.2.1,this.2.2.1⟩⟩
  ·rw [if_neg h'];exact ⟨Int.le_refl 0,show (0 : Int) ≤ 1000000000 by decide,fun h=>by simp at h⟩
theorem iRP_end (s b : ByteArray) (n a : Int) (bad : Bool) (kind : Int) (acc : List It) (hl : acc.length ≤ 1048576) (hO : ∀ x ∈ acc,OkIt x) : Ev (fun k=>impl_ReadPage.j1 k s n false b a bad kind acc) (imEnd s kind b (a,bad,acc)):=by
 refine Ev.to (f:=fun k=>(impl_PageText.f k kind acc).bind fun bt272=>(impl_reader_ends.f b a bad).bind fun bt274=>if bt274.1 = true then (if bt272.2 = true then (if bt272.1.toList = s.toList then (some (kind,acc,true)) else (some (0,([] : List It),false))) else (some (0,([] : List It),false))) else (some (0,([] : List It),false))) ?_ fun k=>by simp only [impl_ReadPage.j1];rw [if_neg (by decide)]
 refine (iPageText kind acc hl hO).bind ?_
 have e : impl_reader_ends.f b a bad = some (decide (bad = false ∧ a = (b.size : Int)),b,a,bad):=by
  unfold impl_reader_ends.f
  cases bad
  ·rw [if_neg (by decide)]
   congr 2
   by_cases h : a = (b.size : Int)
   ·rw [decide_eq_true ⟨rfl,h⟩,beq_iff_eq];exact h
   ·rw [decide_eq_false (fun g=>h g.2),beq_eq_false_iff_ne];exact h
  ·rw [if_pos rfl,decide_eq_false (fun g=>by simp at g)]
 rw [e]
 simp only [Option.bind_some]
 by_cases h1 : bad = false ∧ a = (b.size : Int)
 ·rw [decide_eq_true h1]
  by_cases h2 : (pPage kind acc).2 = true
  ·by_cases h3 : (pPage kind acc).1 = s
   ·rw [imEnd_y ⟨h1,h2,h3⟩]
    exact Ev.ifp rfl (Ev.ifp h2 (Ev.ifp (tl_inj.2 h3) (Ev.now _)))
   ·rw [imEnd_n (fun h=>h3 h.2.2)]
    exact Ev.ifp rfl (Ev.ifp h2 (Ev.ifn (fun h=>h3 (tl_inj.1 h)) (Ev.now _)))
  ·rw [imEnd_n (fun h=>h2 h.2.1)]
   exact Ev.ifp rfl (Ev.ifn h2 (Ev.now _))
 ·rw [imEnd_n (fun h=>h1 h.1),decide_eq_false h1]
  exact Ev.ifn (by decide) (Ev.now _)
theorem iRP_go (s b : ByteArray) (hb : b.size ≤ 8000) (kind : Int) : ∀ (d : Nat) (a : Int) (bad : Bool) (acc : List It),d ≤ 1000000000 → acc.length ≤ 9000 → (bad = false → (acc.length : Int) ≤ a ∧ a ≤ b.size) → (∀ x ∈ acc,OkIt x) → Ev (fun k=>impl_ReadPage.l0 k s (d : Int) b a bad kind acc) (imEnd s kind b (imG kind b d a bad acc))
 | 0,a,bad,acc,hd,hl,hr,hO=>by
  rw [imG]
  refine (iRP_end s b 0 a bad kind acc (by omega) hO).to fun k=>?_
  simp only [impl_ReadPage.l0]
  rw [if_neg (by decide)]
  rfl
 | d + 1,a,bad,acc,hd,hl,hr,hO=>by
  have w : qn (wrap64 (((d + 1 : Nat) : Int) - 1) = (d : Int)):=⟨by rw [wid (by omega) (by omega)];omega⟩
  refine Ev.to (f:=fun k=>impl_ReadPage.j1 k s ((d + 1 : Nat) : Int) (!bad) b a bad kind acc) ?_ fun k=>by simp only [impl_ReadPage.l0];rw [if_pos (by omega)]
  rw [imG]
  by_cases h1 : bad = true
  ·rw [if_pos h1]
   subst h1
   exact iRP_end s b _ a true kind acc (by omega) hO
  ·have e : bad = false:=by simpa using h1
   subst e
   obtain ⟨ha,hab⟩:=hr rfl
   rw [if_neg (by decide)]
   have k1:=rS_bd b hb a false
   by_cases h2 : kind = 2
   ·rw [if_pos h2]
    have k2:=rV_bd b (rS b a false).2.1 (rS b a false).2.2
    have ok : OkIt ⟨(rS b a false).1,noB,(rV b (rS b a false).2.1 (rS b a false).2.2).1⟩:=⟨by show (rS b a false).1.size ≤ _;omega,Nat.zero_le _⟩
    have ih:=iRP_go s b hb kind d (rV b (rS b a false).2.1 (rS b a false).2.2).2.1 (rV b (rS b a false).2.1 (rS b a false).2.2).2.2 (acc ++ [⟨(rS b a false).1,noB,(rV b (rS b a false).2.1 (rS b a false).2.2).1⟩]) (by omega) (by rw [List.length_append,List.length_singleton];omega) (fun h=>by
     have q2:=k2.2.2 h
     have q1:=k1.2 q2.1
     rw [List.length_append,List.length_singleton]
     omega) (snocOk hO ok)
    refine Ev.to (f:=fun k=>(impl_reader_short.f k b a false).bind fun bt253=>(impl_reader_num.f k bt253.2.1 bt253.2.2.1 bt253.2.2.2).bind fun bt258=>if acc.length < 3518437208883 then (impl_ReadPage.l0 k s (d : Int) bt258.2.1 bt258.2.2.1 bt258.2.2.2 kind (acc ++ [(⟨bt253.1,noB,bt258.1⟩ : It)])) else none) ((i_short b hb a false).bind ((i_num b hb _ _).bind (Ev.ifp (by omega) ih))) fun k=>?_
    simp only [impl_ReadPage.j1,w.out,Bool.not_false,if_true,if_pos h2]
    rfl
   ·rw [if_neg h2]
    have k2:=rS_bd b hb (rS b a false).2.1 (rS b a false).2.2
    have ok : OkIt ⟨(rS b a false).1,(rS b (rS b a false).2.1 (rS b a false).2.2).1,0⟩:=⟨by show (rS b a false).1.size ≤ _;omega,by show (rS b (rS b a false).2.1 (rS b a false).2.2).1.size ≤ _;omega⟩
    have ih:=iRP_go s b hb kind d (rS b (rS b a false).2.1 (rS b a false).2.2).2.1 (rS b (rS b a false).2.1 (rS b a false).2.2).2.2 (acc ++ [⟨(rS b a false).1,(rS b (rS b a false).2.1 (rS b a false).2.2).1,0⟩]) (by omega) (by rw [List.length_append,List.length_singleton];omega) (fun h=>by
     have q2:=k2.2 h
     have q1:=k1.2 q2.1
     rw [List.length_append,List.length_singleton]
     omega) (snocOk hO ok)
    refine Ev.to (f:=fun k=>(impl_reader_short.f k b a false).bind fun bt253=>(impl_reader_short.f k bt253.2.1 bt253.2.2.1 bt253.2.2.2).bind fun bt265=>if acc.length < 3518437208883 then (impl_ReadPage.l0 k s (d : Int) bt265.2.1 bt265.2.2.1 bt265.2.2.2 kind (acc ++ [(⟨bt253.1,bt265.1,0⟩ : It)])) else none) ((i_short b hb a false).bind ((i_short b hb _ _).bind (Ev.ifp (by omega) ih))) fun k=>?_
    simp only [impl_ReadPage.j1,w.out,Bool.not_false,if_true,if_neg h2]
theorem i_one (b : ByteArray) (hb : b.size ≤ 8000) : impl_reader_one.f b 0 false = some ((rO b).1,b,(rO b).2.1,(rO b).2.2):=by
 unfold impl_reader_one.f rO
 rw [if_neg (by decide)]
 have w2 : wrap64 (0 + 1) = 1:=wid (by omega) (by omega)
 have w1 : wrap64 (wrap64 (0 + 1) - 1) = 0:=by rw [w2];exact wid (by omega) (by omega)
 rw [w1,w2]
 by_cases h : 1 ≤ b.size
 ·have h0:=bt_range b 0
  have w : wrap64 (bt b 0) = bt b 0:=wid (by omega) (by omega)
  rw [if_neg (by omega),if_pos (by omega),if_pos (by omega),if_pos h,w]
 ·rw [if_pos (by omega),if_neg h]
theorem iReadPage_ (s : ByteArray) (hs : s.size ≤ 140737488351232) : Ev (fun k=>impl_ReadPage.f k s) (iReadP s):=by
 have hb:=unsealed_size (s:=s)
 unfold impl_ReadPage.f
 refine (iUnsealed s hs).bind ?_
 unfold iReadP
 by_cases h : (pUnsealed s).2 = true
 ·rw [if_pos h]
  refine Ev.ifp h ?_
  generalize (pUnsealed s).1 = b at hb ⊢
  simp only [impl_newReader.f,Option.bind_some]
  rw [i_one b hb]
  simp only [Option.bind_some]
  refine (i_num b hb _ _).bind ?_
  have kv:=rV_bd b (rO b).2.1 (rO b).2.2
  have ho : (rO b).2.2 = false → 0 ≤ (rO b).2.1:=by unfold rO;split <;> simp
  have g:=iRP_go s b hb (rO b).1 (rV b (rO b).2.1 (rO b).2.2).1.toNat (rV b (rO b).2.1 (rO b).2.2).2.1 (rV b (rO b).2.1 (rO b).2.2).2.2 [] (by omega) (by simp) (fun h=>by
   have q:=kv.2.2 h
   have:=ho q.1
   simp only [List.length_nil]
   omega) (fun x hx=>by simp at hx)
  rw [Int.toNat_of_nonneg kv.1] at g
  exact g
 ·rw [if_neg h]
  exact Ev.ifn h (Ev.now _)
theorem iReadPage (s : ByteArray) (hs : s.size ≤ 140737488351232) : Ev (fun k=>impl_ReadPage.f k s) (pReadPage s):=by
 rw [← readP_eq]
 exact iReadPage_ s hs

/-! One byte turned: the sum tells it -/
theorem xor_nat {a b : Int} (h : U32 a) (h' : U32 b) : Go.bits .xor .u32 a b = ((a.toNat ^^^ b.toNat : Nat) : Int):=Go.u32_xor a b h.1 h.2 h'.1 h'.2
theorem xor_inj {a b p : Int} (ha : U32 a) (hb : U32 b) (hp : U32 p) (h : Go.bits .xor .u32 a p = Go.bits .xor .u32 b p) : a = b:=by
 rw [xor_nat ha hp,xor_nat hb hp] at h
 have h1 : a.toNat ^^^ p.toNat = b.toNat ^^^ p.toNat:=by exact_mod_cast h
 have h2 : (a.toNat ^^^ p.toNat) ^^^ p.toNat = (b.toNat ^^^ p.toNat) ^^^ p.toNat:=by rw [h1]
 rw [Nat.xor_assoc,Nat.xor_assoc,Nat.xor_self,Nat.xor_zero,Nat.xor_zero] at h2
 have:=ha.1
 have:=hb.1
 omega
theorem xor_injL {a b p : Int} (ha : U32 a) (hb : U32 b) (hp : U32 p) (h : Go.bits .xor .u32 p a = Go.bits .xor .u32 p b) : a = b:=by
 rw [xor_nat hp ha,xor_nat hp hb] at h
 have h1 : p.toNat ^^^ a.toNat = p.toNat ^^^ b.toNat:=by exact_mod_cast h
 have h2 : p.toNat ^^^ (p.toNat ^^^ a.toNat) = p.toNat ^^^ (p.toNat ^^^ b.toNat):=by rw [h1]
 rw [← Nat.xor_assoc,← Nat.xor_assoc,Nat.xor_self,Nat.zero_xor,Nat.zero_xor] at h2
 have:=ha.1
 have:=hb.1
 omega
theorem poly_hi {x : Int} (h0 : 0 ≤ x) (h1 : x < 2147483648) : 2147483648 ≤ Go.bits .xor .u32 x 3558460437:=by
 rw [xor_nat ⟨h0,by omega⟩ ⟨by decide,by decide⟩]
 have hx : x.toNat.testBit 31 = false:=Nat.testBit_lt_two_pow (by omega)
 have ht : (x.toNat ^^^ (3558460437 : Int).toNat).testBit 31 = true:=by
  rw [Nat.testBit_xor,hx];decide
 have:=Nat.ge_two_pow_of_testBit ht
 omega
theorem crcBit_inj {a b : Int} (ha : U32 a) (hb : U32 b) (h : crcBit a = crcBit b) : a = b:=by
 have a0:=ha.1
 have a1:=ha.2
 have b0:=hb.1
 have b1:=hb.2
 unfold crcBit at h
 by_cases ca : a % 2 = 1
 ·by_cases cb : b % 2 = 1
  ·rw [if_pos ca,if_pos cb] at h
   have:=xor_inj (a:=a / 2) (b:=b / 2) ⟨by omega,by omega⟩ ⟨by omega,by omega⟩ ⟨by decide,by decide⟩ h
   omega
  ·rw [if_pos ca,if_neg cb] at h
   have:=poly_hi (x:=a / 2) (by omega) (by omega)
   omega
 ·by_cases cb : b % 2 = 1
  ·rw [if_neg ca,if_pos cb] at h
   have:=poly_hi (x:=b / 2) (by omega) (by omega)
   omega
  ·rw [if_neg ca,if_neg cb] at h
   omega
theorem crcN_inj : ∀ (n : Nat) {a b : Int},U32 a → U32 b → crcN n a = crcN n b → a = b
 | 0,_,_,_,_,h=>h
 | n + 1,_,_,ha,hb,h=>crcBit_inj ha hb (crcN_inj n (crcBit_u32 ha) (crcBit_u32 hb) h)
theorem byte_u32 {b : Int} (h : 0 ≤ b ∧ b < 256) : U32 b:=⟨h.1,by omega⟩
theorem crcByte_inj {a b c : Int} (ha : U32 a) (hb : U32 b) (hc : 0 ≤ c ∧ c < 256) (h : crcByte a c = crcByte b c) : a = b :=
 xor_inj ha hb (byte_u32 hc) (crcN_inj 8 (xor_u32 ha (byte_u32 hc)) (xor_u32 hb (byte_u32 hc)) h)
theorem crcByte_injB {s b c : Int} (hs : U32 s) (hb : 0 ≤ b ∧ b < 256) (hc : 0 ≤ c ∧ c < 256) (h : crcByte s b = crcByte s c) : b = c :=
 xor_injL (byte_u32 hb) (byte_u32 hc) hs (crcN_inj 8 (xor_u32 hs (byte_u32 hb)) (xor_u32 hs (byte_u32 hc)) h)
theorem crcL_inj : ∀ (l : List Int) {a b : Int},Byt l → U32 a → U32 b → crcL a l = crcL b l → a = b
 | [],_,_,_,_,_,h=>h
 | c :: l,_,_,hl,ha,hb,h=>by
  rw [crcL_cons,crcL_cons] at h
  exact crcByte_inj ha hb hl.head (crcL_inj l hl.tail (crcByte_u32 ha hl.head) (crcByte_u32 hb hl.head) h)
theorem crcL_turned {s b c : Int} {P Q : List Int} (hs : U32 s) (hP : Byt P) (hQ : Byt Q) (hb : 0 ≤ b ∧ b < 256) (hc : 0 ≤ c ∧ c < 256) (h : crcL s (P ++ b :: Q) = crcL s (P ++ c :: Q)) : b = c:=by
 rw [crcL_app,crcL_app,crcL_cons,crcL_cons] at h
 have hp:=crcL_u32 P hs hP
 exact crcByte_injB hp hb hc (crcL_inj Q hQ (crcByte_u32 hp hb) (crcByte_u32 hp hc) h)
theorem four_inj {a b : Int} (ha : U32 a) (hb : U32 b) (h : four a = four b) : a = b:=by
 unfold four at h
 simp only [List.cons.injEq,and_true] at h
 have:=ha.1
 have:=ha.2
 have:=hb.1
 have:=hb.2
 omega
/-- A sealed text one of whose bytes is another one isn't unsealed. -/
theorem turned_no {X : List Int} {P Q : List Int} {b c : Int} {s : ByteArray} (hX : Byt X) (hb : 0 ≤ b ∧ b < 256) (hc : 0 ≤ c ∧ c < 256) (hbc : b ≠ c) (hs : X ++ four (crcL 4294967295 X) = P ++ b :: Q) (ht : bl s = P ++ c :: Q) : (pUnsealed s).2 = false:=by
 unfold pUnsealed
 split
 ·rename_i h
  exfalso
  obtain ⟨h4,_,h⟩:=h
  unfold sumB at h
  rw [cutB_bl] at h
  have hlen : s.size = X.length + 4:=by
   rw [bl_size,ht]
   have:=congrArg List.length hs
   simp only [List.length_append,four_len,List.length_cons] at this ⊢
   omega
  have e4 : s.size - 4 = X.length:=by omega
  rw [ht,e4] at h
  have hlP : P.length + (Q.length + 1) = X.length + 4:=by
   have:=congrArg List.length hs
   simp only [List.length_append,four_len,List.length_cons] at this
   omega
  by_cases hp : P.length < X.length
  ·-- the byte stands in the text
   obtain ⟨R,hR,hR'⟩ : ∃ R,X = P ++ b :: R ∧ Q = R ++ four (crcL 4294967295 X):=by
    refine ⟨X.drop (P.length + 1),?_,?_⟩
    ·have:=congrArg (List.take X.length) hs
     rw [List.take_left] at this
     have t2:=congrArg (List.drop (P.length + 1)) this
     rw [this,List.take_append,List.take_of_length_le (by omega)]
     obtain ⟨m,hm⟩ : ∃ m,X.length - P.length = m + 1:=⟨X.length - P.length - 1,by omega⟩
     rw [hm,List.take_succ_cons]
     congr 2
     rw [List.drop_append,List.drop_of_length_le (by omega),List.nil_append,show P.length + 1 - P.length = 1 by omega]
     rfl
    ·have g1 : List.drop (P.length + 1) (X ++ four (crcL 4294967295 X)) = List.drop (P.length + 1) X ++ four (crcL 4294967295 X):=List.drop_append_of_le_length (by omega)
     have g2 : List.drop (P.length + 1) (P ++ b :: Q) = Q:=by
      rw [show P ++ b :: Q = (P ++ [b]) ++ Q by simp,show P.length + 1 = (P ++ [b]).length by simp,List.drop_left]
     rw [← g1,hs,g2]
   have hb' : Byt (P ++ b :: R):=hR ▸ hX
   have e1 : (P ++ c :: Q).drop X.length = four (crcL 4294967295 X):=by
    rw [hR',← List.cons_append,← List.append_assoc,show X.length = (P ++ c :: R).length by rw [hR];simp,List.drop_left]
   have e2 : (P ++ c :: Q).take X.length = P ++ c :: R:=by
    rw [hR',← List.cons_append,← List.append_assoc,show X.length = (P ++ c :: R).length by rw [hR];simp,List.take_left]
   rw [e1,e2] at h
   have hc' : Byt (P ++ c :: R):=hb'.left.app ((hb'.right.tail).cons hc)
   have:=four_inj (crcL_u32 _ u32_top hX) (crcL_u32 _ u32_top hc') h
   rw [hR] at this
   exact hbc (crcL_turned u32_top hb'.left hb'.right.tail hb hc this)
  ·-- it stands in the sum
   have e2 : (P ++ c :: Q).take X.length = X:=by
    have:=congrArg (List.take X.length) hs
    rw [List.take_left,List.take_append_of_le_length (by omega)] at this
    rw [List.take_append_of_le_length (by omega),← this]
   rw [e2] at h
   have e3:=congrArg (List.drop X.length) hs
   rw [List.drop_left,List.drop_append_of_le_length (by omega)] at e3
   rw [List.drop_append_of_le_length (by omega),e3] at h
   have:=List.append_cancel_left h
   simp only [List.cons.injEq,and_true] at this
   exact hbc this.symm
 ·rfl

theorem xr_ne {b p : Int} (hb : 0 ≤ b ∧ b < 256) (hp : 0 < p ∧ p < 256) : Go.bits .xor .u8 b p ≠ b ∧ 0 ≤ Go.bits .xor .u8 b p ∧ Go.bits .xor .u8 b p < 256:=by
 rw [Go.u8_xor b p hb.1 hb.2 (by omega) hp.2]
 have hlt : b.toNat ^^^ p.toNat < 2 ^ 8:=Nat.xor_lt_two_pow (by omega) (by omega)
 refine ⟨fun h=>?_,by omega,by omega⟩
 have h1 : b.toNat ^^^ p.toNat = b.toNat:=by omega
 have h2 : b.toNat ^^^ (b.toNat ^^^ p.toNat) = b.toNat ^^^ b.toNat:=by rw [h1]
 rw [← Nat.xor_assoc,Nat.xor_self,Nat.zero_xor] at h2
 omega
theorem turnB_ln (s : ByteArray) (p q : Int) : (turnB s p q).length = s.size:=by unfold turnB;rw [List.length_set,List.length_map];rfl
/-- A sealed text with one byte turned is no page. -/
theorem turn_no {s B : ByteArray} (hs : s = B ++ strOfNums (four (sumB B))) {p q : Int} (hp : 0 ≤ p) (hq : 0 ≤ q) : (pReadPage (strOfNums (turnB s p q))).2.2 = false:=by
 have hz : s.size = B.size + 4:=by rw [hs,ByteArray.size_append,str_len,four_len]
 have hbt : bl s = bl B ++ four (sumB B):=by rw [hs,sealed_bl]
 have i0 : 0 ≤ p % (s.size : Int):=Int.emod_nonneg _ (by omega)
 have i1 : p % (s.size : Int) < s.size:=Int.emod_lt_of_pos _ (by omega)
 obtain ⟨i,hi⟩:=Int.eq_ofNat_of_zero_le i0
 have hil : i < (bl s).length:=by rw [bl_len];omega
 have hcb:=bl_byt s _ (List.getElem_mem hil)
 have hc : ((s.data.toList.getD i 0).toNat : Int) = (bl s)[i]:=by
  have e : (bl s)[i]? = some (((s.data.toList.getD i 0).toNat : Int)):=by
   unfold bl
   rw [List.getElem?_map,List.getD_eq_getElem?_getD,List.getElem?_eq_getElem (show i < s.data.toList.length by rw [bl_len] at hil;exact hil)]
   rfl
  rw [List.getElem?_eq_getElem hil] at e
  exact (Option.some.inj e).symm
 obtain ⟨n1,n2,n3⟩:=xr_ne (b:=(bl s)[i]) (p:=1 + q % 255) hcb (by omega)
 have hT : turnB s p q = (bl s).set i (Go.bits .xor .u8 (bl s)[i] (1 + q % 255)):=by
  unfold turnB
  rw [hi,Int.toNat_natCast,hc]
  rfl
 rw [hT]
 have hsplit : bl s = (bl s).take i ++ (bl s)[i] :: (bl s).drop (i + 1):=by rw [List.getElem_cons_drop,List.take_append_drop]
 generalize Go.bits .xor .u8 (bl s)[i] (1 + q % 255) = v at n1 n2 n3
 have hset : (bl s).set i v = (bl s).take i ++ v :: (bl s).drop (i + 1):=List.set_eq_take_append_cons_drop .. |>.trans (if_pos hil)
 have hByt : Byt ((bl s).set i v):=by
  rw [hset]
  exact ((bl_byt s).take i).app (((bl_byt s).drop (i + 1)).cons ⟨n2,n3⟩)
 have hno : (pUnsealed (strOfNums ((bl s).set i v))).2 = false:=by
  refine turned_no (X:=bl B) (P:=(bl s).take i) (Q:=(bl s).drop (i + 1)) (b:=(bl s)[i]) (c:=v) (bl_byt B) hcb ⟨n2,n3⟩ (fun h=>n1 h.symm) ?_ ?_
  ·rw [← hsplit];exact hbt.symm
  ·rw [bl_str hByt,hset]
 unfold pReadPage
 rw [hno]
 simp [noPage]
theorem txsI_len {kind : Int} : ∀ (l : List It),(∀ x ∈ l,gI kind x) → ((txsI kind l).length : Int) = sumT kind l
 | [],_=>rfl
 | x :: l,hg=>by
  have ih:=txsI_len l (fun y hy=>hg y (List.mem_cons_of_mem _ hy))
  obtain ⟨_,hk⟩:=hg x (List.mem_cons_self ..)
  rw [txsI_cons,sumT_cons,List.length_append,bl_len]
  have : ((txI kind x).size : Int) = szT kind x:=by
   unfold txI szT
   rw [ByteArray.size_append]
   rcases hk with ⟨rfl,_⟩|⟨rfl,_,h2,h3⟩
   ·rw [if_pos rfl,if_pos rfl];omega
   ·have e : (pVarText x.f2).1 = strOfNums (varB x.f2.toNat):=by unfold pVarText;rw [if_pos (by omega)]
    rw [if_neg (by decide),if_neg (by decide),e];omega
  omega
theorem page_size {kind : Int} {l : List It} {s : ByteArray} (h : pPage kind l = (s,true)) : (s.size : Int) = sumT kind l + 6:=by
 obtain ⟨hk,_,h54,hg,B,_,hs,hB⟩:=pPage_true h
 have hl:=sumT_len54 h54
 have hb:=congrArg List.length hB
 rw [bl_len,List.length_cons,List.length_append,varB_len1 (by omega)] at hb
 have ht:=txsI_len l hg
 rw [hs,ByteArray.size_append,str_len,four_len]
 omega
theorem pages_end {kind : Int} {l : List It} {s : ByteArray} (h : pPage kind l = (s,true)) (b : List Int) (hb : b.length ≤ 140737488351232) : Ev (fun k=>pagesEnd k b s (sumT kind l)) true:=by
 obtain ⟨hk,_,h54,hg,B,_,hs,hB⟩:=pPage_true h
 have hz:=page_size h
 have lo:=sumT_lo kind l
 obtain ⟨P,evP,hP12,hP⟩:=dPlaces b hb
 have r0:=hP _ (List.getElem_mem (show 0 < P.length by omega))
 have r1:=hP _ (List.getElem_mem (show 1 < P.length by omega))
 have q0 : rd P 0 = P[0]'(by omega):=rd_at (i:=0) (by omega)
 have q1 : rd P 1 = P[1]'(by omega):=rd_at (i:=1) (by omega)
 rw [← q0] at r0
 rw [← q1] at r1
 have hno:=turn_no hs r0.1 r1.1
 have evR:=iReadPage (strOfNums (turnB s (rd P 0) (rd P 1))) (by rw [str_len,turnB_ln];omega)
 have w : qn (wrap64 ((s.size : Int) - 6) = sumT kind l):=⟨by rw [wid (by omega) (by omega)];omega⟩
 unfold pagesEnd
 refine evP.bind ?_
 unfold pagesTurn
 refine Ev.ifp ⟨⟨hP12,r0,r1⟩,by omega,by omega⟩ (evR.bind (Ev.same ?_))
 rw [hno,w.out]
 simp
theorem pages_go {kind : Int} {l : List It} {s : ByteArray} (h : pPage kind l = (s,true)) (b : List Int) (hb : b.length ≤ 140737488351232) : ∀ (d i : Nat) (z : Int),i + d = l.length → 0 ≤ z → z + sumT kind (l.drop i) = sumT kind l → Ev (fun k=>laws_FnPages.l0 k b s z (i : Int) kind l kind l) true
 | 0,i,z,hi,h0,hz=>by
  rw [List.drop_of_length_le (by omega)] at hz
  have e : sumT kind [] = 0:=rfl
  have hz' : z = sumT kind l:=by omega
  subst hz'
  refine (pages_end h b hb).to fun k=>?_
  simp only [laws_FnPages.l0]
  rw [if_neg (by omega)]
 | d + 1,i,z,hi,h0,hz=>by
  obtain ⟨hk,_,h54,hg,_⟩:=pPage_true h
  have hlt : i < l.length:=by omega
  rw [List.drop_eq_getElem_cons hlt,sumT_cons] at hz
  have hm:=szT_mem kind l l[i] (List.getElem_mem hlt)
  have lo:=szT_lo kind l[i]
  have lo2:=sumT_lo kind (l.drop (i + 1))
  have f1 : l[i].f1.size ≤ 54:=by
   obtain ⟨_,g⟩:=hg _ (List.getElem_mem hlt)
   rcases g with ⟨rfl,_⟩|⟨_,g,_⟩
   ·have:=szT_lo1 l[i];omega
   ·rw [g];exact Nat.zero_le _
  have hsz : szI kind l[i] = szT kind l[i]:=szI_small hk (by omega) f1
  have w : qn (wrap64 ((i : Int) + 1) = ((i + 1 : Nat) : Int)):=⟨by have:=sumT_len54 h54;rw [wid (by omega) (by omega)];rfl⟩
  have wz : qn (wrap64 (z + szT kind l[i]) = z + szT kind l[i]):=⟨wid (by omega) (by omega)⟩
  have ev:=iItemSize kind l[i] (by omega) (by omega)
  rw [hsz] at ev
  refine Ev.to (f:=fun k=>(impl_ItemSize.f k kind l[i].f0 l[i].f1 l[i].f2).bind fun t406=>laws_FnPages.l0 k b s (wrap64 (z + t406)) ((i + 1 : Nat) : Int) kind l kind l) (ev.bind ?_) fun k=>?_
  ·rw [wz.out]
   exact pages_go h b hb d (i + 1) _ (by omega) (by omega) (by omega)
  ·simp only [laws_FnPages.l0]
   rw [if_pos (by omega),if_pos (by omega),if_pos (by omega),ri_Item hlt,w.out]
   simp
theorem FnPages : laws_FnPages.Pure:=by
 intro b _ hb _
 refine Ev.rounds (g:=fun k=>laws_FnPages.f k b) ?_
 unfold laws_FnPages.f
 by_cases hbig : (b.length : Int) > 1048576
 ·rw [show laws_big.f b = some true from by unfold laws_big.f;rw [decide_eq_true hbig]]
  simp only [Option.bind_some,if_true]
  exact Ev.now _
 rw [show laws_big.f b = some false from by unfold laws_big.f;rw [decide_eq_false hbig]]
 simp only [Option.bind_some,Bool.false_eq_true,if_false]
 obtain ⟨kind,l,evD,hl,hO⟩:=dPageText b (by omega)
 have hO' : ∀ x ∈ l,OkIt x:=fun x hx=>⟨by have:=(hO x hx).1;omega,by have:=(hO x hx).2;omega⟩
 refine evD.bind ((iPageText kind l (by omega) hO').bind ((sPageText kind l (by omega) hO').bind ?_))
 by_cases h : (pPage kind l).2 = true
 ·obtain ⟨s,e⟩ : ∃ s,pPage kind l = (s,true):=⟨_,pair_true h rfl⟩
  rw [e]
  have hz:=page_size e
  have h54:=(pPage_true e).2.2.1
  have evR:=iReadPage s (by omega)
  rw [pReadPage_of e] at evR
  have evG:=pages_go e b (by omega) l.length 0 0 (by omega) (by omega) (by rw [List.drop_zero];omega)
  refine evR.bind (Ev.ifn (by simp) (Ev.ifp rfl (Ev.ifp rfl (Ev.ifp rfl (Ev.ifp rfl ?_)))))
  rw [decide_eq_false (show ¬ (s.size : Int) > 64 by omega)]
  exact evG.to fun k=>by simp only [laws_FnPages.j0];rw [if_neg (by decide)];rfl
 ·have e : pPage kind l = noText:=by
   unfold pPage at h ⊢
   split
   ·rename_i hc
    rw [if_pos hc] at h
    have key : ∀ (l : List It) (prev : Option ByteArray) (acc : ByteArray),¬ (spL kind prev acc l).2 = true → spL kind prev acc l = noText:=by
     intro l
     induction l with
     | nil =>
      intro prev acc h
      rw [spL] at h ⊢
      unfold pSealed at h ⊢
      split at h
      ·rename_i g;rw [if_pos g];rfl
      ·simp at h
     | cons x l ih =>
      intro prev acc h
      rw [spL] at h ⊢
      split at h
      ·rename_i g;rw [if_pos g];exact ih _ _ h
      ·rename_i g;rw [if_neg g]
    exact key _ _ _ h
   ·rfl
  rw [e]
  exact (iReadPage ⟨#[]⟩ (by decide)).bind (Ev.ifn (by simp [noText]) (Ev.ifn (by simp [noText]) (Ev.same (by simp [noText]))))

end Go.Proofs.Ytfmemcffbfahhaa.Pure
