/- A drawn map that is placed as a tree is read back, also once it is flushed; placed again nothing is written and the tree is where it was; a near map placed beside it is read back, and the first one still, whatever the bytes that are drawn from. -/
import Derived.Test.YtcnoccefdejphaaZFnTreesx33
import Derived.Laws.BitsAllLaws
import Derived.Lib.ItoaNum
namespace Go.Proofs.Ytcnoccefdejphaa.Pure
open Go.RowKit Go.Proofs.YtcnoccefdejphaaW.PrintWords Go.Proofs.Ytcnoccefdejphaa.QFnTrees
set_option linter.unusedVariables false
set_option linter.unusedSimpArgs false
set_option maxHeartbeats 4000000

theorem wid {n : Int} (h0 : -9223372036854775808 ≤ n) (h1 : n < 9223372036854775808) : wrap64 n = n:=by unfold wrap64;omega
theorem _root_.Go.Proofs.YtcnoccefdejphaaW.PrintWords.Ev.ofEq {α : Type} {g : Nat → Option α} {r q : α} (h : Ev g r) (e : r = q) : Ev g q:=e ▸ h
theorem _root_.Go.Proofs.YtcnoccefdejphaaW.PrintWords.Ev.same {α : Type} {o : Option α} {r : α} (h : o = some r) : Ev (fun _=>o) r:=⟨0,fun _ _=>h⟩
theorem _root_.Go.Proofs.YtcnoccefdejphaaW.PrintWords.Ev.to {α : Type} {g f : Nat → Option α} {r : α} (k : Ev f r) (h : ∀ k,g (k + 1) = f k) : Ev g r:=Ev.step h k
theorem _root_.Go.Proofs.YtcnoccefdejphaaW.PrintWords.Ev.cg {α : Type} {g f : Nat → Option α} {r : α} (k : Ev f r) (h : ∀ k,g k = f k) : Ev g r:=Ev.congr h k
theorem _root_.Go.Proofs.YtcnoccefdejphaaW.PrintWords.Ev.ifp {α : Type} {c : Prop} [Decidable c] {g f : Nat → Option α} {r : α} (h : c) (e : Ev g r) : Ev (fun k=>if c then g k else f k) r:=by simp only [if_pos h];exact e
theorem _root_.Go.Proofs.YtcnoccefdejphaaW.PrintWords.Ev.ifn {α : Type} {c : Prop} [Decidable c] {g f : Nat → Option α} {r : α} (h : ¬ c) (e : Ev f r) : Ev (fun k=>if c then g k else f k) r:=by simp only [if_neg h];exact e
/-- The bytes of a string, as numbers. -/
def bl (s : ByteArray) : List Int:=s.data.toList.map fun b=>(b.toNat : Int)
theorem bl_len (s : ByteArray) : (bl s).length = s.size:=by unfold bl;rw [List.length_map];rfl
def Byt (xs : List Int) : Prop:=∀ x ∈ xs,0 ≤ x ∧ x < 256
theorem Byt.nil : Byt []:=fun _ h=>by simp at h
theorem Byt.cons {x : Int} {xs : List Int} (h : 0 ≤ x ∧ x < 256) (h' : Byt xs) : Byt (x :: xs):=fun y hy=>by
 rcases List.mem_cons.1 hy with rfl|hy
 ·exact h
 exact h' y hy
theorem Byt.app {xs ys : List Int} (h : Byt xs) (h' : Byt ys) : Byt (xs ++ ys):=fun y hy=>by
 rcases List.mem_append.1 hy with hy|hy
 ·exact h y hy
 exact h' y hy
theorem Byt.left {xs ys : List Int} (h : Byt (xs ++ ys)) : Byt xs:=fun y hy=>h y (List.mem_append_left _ hy)
theorem Byt.right {xs ys : List Int} (h : Byt (xs ++ ys)) : Byt ys:=fun y hy=>h y (List.mem_append_right _ hy)
theorem Byt.tail {x : Int} {xs : List Int} (h : Byt (x :: xs)) : Byt xs:=fun y hy=>h y (List.mem_cons_of_mem _ hy)
theorem Byt.head {x : Int} {xs : List Int} (h : Byt (x :: xs)) : 0 ≤ x ∧ x < 256:=h x (List.mem_cons_self ..)
theorem Byt.drop {xs : List Int} (h : Byt xs) (n : Nat) : Byt (xs.drop n):=fun y hy=>h y (List.mem_of_mem_drop hy)
theorem Byt.take {xs : List Int} (h : Byt xs) (n : Nat) : Byt (xs.take n):=fun y hy=>h y (List.mem_of_mem_take hy)
theorem bl_byt (s : ByteArray) : Byt (bl s):=fun x hx=>by
 obtain ⟨b,_,rfl⟩:=List.mem_map.1 hx
 have:=b.toNat_lt
 omega
theorem bl_str {xs : List Int} (h : Byt xs) : bl (strOfNums xs) = xs:=by
 unfold bl
 rw [strOfNums_data,List.map_map]
 conv=>rhs;rw [← List.map_id xs]
 apply List.map_congr_left
 intro x hx
 have:=h x hx
 simp only [Function.comp,id]
 obtain ⟨n,rfl⟩:=Int.eq_ofNat_of_zero_le this.1
 simp
 omega
theorem str_bl (s : ByteArray) : strOfNums (bl s) = s:=by
 unfold strOfNums bl
 rw [List.map_map]
 have : ((fun n : Int=>UInt8.ofNat n.toNat) ∘ fun b : UInt8=>(b.toNat : Int)) = id:=by
  funext b
  simp
 rw [this,List.map_id]
theorem bl_inj {a b : ByteArray} (h : bl a = bl b) : a = b:=by rw [← str_bl a,← str_bl b,h]
theorem bt_bl (s : ByteArray) (i : Int) : bt s i = (bl s).getD i.toNat 0:=by
 unfold bt
 split
 ·rename_i h
  have hl : i.toNat < s.data.toList.length:=h
  simp only [bl,List.getD_eq_getElem?_getD,List.getElem?_map,List.getElem?_eq_getElem hl,Option.map_some,Option.getD_some]
  rfl
 rename_i h
 rw [List.getD_eq_getElem?_getD,List.getElem?_eq_none (by rw [bl_len];omega)]
 rfl
theorem bl_app (a b : ByteArray) : bl (a ++ b) = bl a ++ bl b:=by
 unfold bl
 rw [ByteArray.data_append,Array.toList_append,List.map_append]
theorem bl_ext (a : ByteArray) (i j : Nat) : bl (a.extract i j) = ((bl a).take j).drop i:=by
 unfold bl
 rw [ByteArray.data_extract,Array.toList_extract,List.extract_eq_take_drop,List.map_take,List.map_drop,List.drop_take]
theorem bl_emp : bl (⟨#[]⟩ : ByteArray) = []:=rfl
theorem bl_cons {s : ByteArray} {i : Nat} (h : i < s.size) : (bl s).drop i = bt s (i : Int) :: (bl s).drop (i + 1):=by
 have hl : i < (bl s).length:=by rw [bl_len];exact h
 rw [List.drop_eq_getElem_cons hl,bt_bl,List.getD_eq_getElem?_getD,Int.toNat_natCast,List.getElem?_eq_getElem hl]
 rfl
theorem bl_end {s : ByteArray} {i : Nat} (h : s.size ≤ i) : (bl s).drop i = []:=List.drop_of_length_le (by rw [bl_len];exact h)
theorem tl_inj {a b : ByteArray} : a.toList = b.toList ↔ a = b:=by
 constructor
 ·intro h
  rw [ByteArray.toList_eq,ByteArray.toList_eq] at h
  apply ByteArray.ext
  exact Array.toList_inj.1 h
 rintro rfl;rfl
theorem tl_bl {a b : ByteArray} : a.toList = b.toList ↔ bl a = bl b:=tl_inj.trans ⟨fun h=>h ▸ rfl,bl_inj⟩
theorem tdiv_pos {a b : Int} (h : 0 ≤ a) : Int.tdiv a b = a / b:=Int.tdiv_eq_ediv_of_nonneg h
theorem tmod_pos {a b : Int} (h : 0 ≤ a) : Int.tmod a b = a % b:=Int.tmod_eq_emod_of_nonneg h
theorem Byt.one {x : Int} (h : 0 ≤ x ∧ x < 256) : Byt [x]:=Byt.nil.cons h
theorem bl_size (s : ByteArray) : s.size = (bl s).length:=(bl_len s).symm
theorem str_len (xs : List Int) : (strOfNums xs).size = xs.length:=strOfNums_size xs
/-! Numbers in bytes -/
def varB (n : Nat) : List Int:=if h : n > 127 then (((n % 128 + 128 : Nat) : Int)) :: varB (n / 128) else [(n : Int)]
termination_by n
decreasing_by omega
theorem varB_big {n : Nat} (h : n > 127) : varB n = (((n % 128 + 128 : Nat) : Int)) :: varB (n / 128):=by rw [varB,dif_pos h]
theorem varB_small {n : Nat} (h : ¬ n > 127) : varB n = [(n : Int)]:=by rw [varB,dif_neg h]
theorem varB_byt (n : Nat) : Byt (varB n):=by
 induction n using Nat.strongRecOn with
 | _ n ih =>
  by_cases h : n > 127
  ·rw [varB_big h];exact (ih _ (by omega)).cons ⟨by omega,by omega⟩
  rw [varB_small h];exact Byt.one ⟨by omega,by omega⟩
theorem varB_pos (n : Nat) : 1 ≤ (varB n).length:=by
 by_cases h : n > 127
 ·rw [varB_big h];simp
 rw [varB_small h];simp
theorem varB_len (n : Nat) : (varB n).length ≤ n + 1:=by
 induction n using Nat.strongRecOn with
 | _ n ih =>
  by_cases h : n > 127
  ·rw [varB_big h];have:=ih (n / 128) (by omega);simp only [List.length_cons];omega
  rw [varB_small h];simp
theorem varB_len1 {n : Nat} (h : n < 128) : (varB n).length = 1:=by rw [varB_small (by omega)];rfl
theorem varB_len2 {n : Nat} (h : n < 16384) : (varB n).length ≤ 2:=by
 by_cases h1 : n > 127
 ·rw [varB_big h1,List.length_cons,varB_len1 (by omega)];omega
 rw [varB_small h1];simp
theorem varB_len5 {n : Nat} (h : n ≤ 1000000000) : (varB n).length ≤ 5:=by
 by_cases h1 : n > 127
 ·rw [varB_big h1,List.length_cons]
  by_cases h2 : n / 128 > 127
  ·rw [varB_big h2,List.length_cons]
   by_cases h3 : n / 128 / 128 > 127
   ·rw [varB_big h3,List.length_cons]
    have:=varB_len2 (n:=n / 128 / 128 / 128) (by omega)
    omega
   rw [varB_small h3];simp
  rw [varB_small h2];simp
 rw [varB_small h1];simp
/-- The number that bytes tell, the first the lowest. -/
def dec : List Int → Int
 | []=>0
 | c :: l=>c % 128 + 128 * dec l
theorem dec_nonneg : ∀ l : List Int,0 ≤ dec l
 | []=>by simp [dec]
 | c :: l=>by have:=dec_nonneg l;simp only [dec];omega
theorem dec_snoc : ∀ (l : List Int) (c : Int),dec (l ++ [c]) = dec l + c % 128 * 128 ^ l.length
 | [],c=>by simp [dec]
 | a :: l,c=>by
  have:=dec_snoc l c
  simp only [List.cons_append,dec,this,List.length_cons,Int.pow_succ]
  rw [Int.mul_add]
  have : 128 * (c % 128 * 128 ^ l.length) = c % 128 * (128 ^ l.length * 128):=by rw [Int.mul_comm 128,Int.mul_assoc]
  omega
/-- Bytes above 127, and one more. -/
def Hi (l : List Int) : Prop:=∀ x ∈ l,128 ≤ x ∧ x < 256
theorem dec_pos : ∀ (l : List Int) (c : Int),0 < c → c < 128 → 1 ≤ dec (l ++ [c])
 | [],c,h,h'=>by simp only [List.nil_append,dec];omega
 | a :: l,c,h,h'=>by have:=dec_pos l c h h';simp only [List.cons_append,dec];omega
theorem varB_dec : ∀ (l : List Int) (c : Int),Hi l → 0 ≤ c → c < 128 → (l = [] ∨ c ≠ 0) → varB (dec (l ++ [c])).toNat = l ++ [c]
 | [],c,_,h,h',_=>by
  simp only [List.nil_append,dec]
  rw [varB_small (by omega)]
  congr 1
  omega
 | a :: l,c,hl,h,h',hc=>by
  have ha:=hl a (List.mem_cons_self ..)
  have hp:=dec_pos l c (by rcases hc with h|h <;> simp_all <;> omega) h'
  have ih:=varB_dec l c (fun x hx=>hl x (List.mem_cons_of_mem _ hx)) h h' (by rcases hc with h|h <;> simp_all)
  simp only [List.cons_append,dec]
  rw [varB_big (by omega)]
  have e : (a % 128 + 128 * dec (l ++ [c])).toNat / 128 = (dec (l ++ [c])).toNat:=by omega
  rw [e,ih]
  congr 1
  omega
theorem varB_last (n : Nat) : ∃ l c,varB n = l ++ [c] ∧ Hi l ∧ 0 ≤ c ∧ c < 128 ∧ (l = [] ∨ c ≠ 0) ∧ dec (l ++ [c]) = n:=by
 induction n using Nat.strongRecOn with
 | _ n ih =>
  by_cases h : n > 127
  ·obtain ⟨l,c,e,hl,h0,h1,hc,hd⟩:=ih (n / 128) (by omega)
   refine ⟨((n % 128 + 128 : Nat) : Int) :: l,c,by rw [varB_big h,e];rfl,fun x hx=>?_,h0,h1,Or.inr ?_,?_⟩
   ·rcases List.mem_cons.1 hx with rfl|hx
    ·omega
    exact hl x hx
   ·rintro rfl
    have : l = []:=by simpa using hc
    subst this
    simp [dec] at hd
    omega
   simp only [List.cons_append,dec,hd];omega
  exact ⟨[],n,by rw [varB_small h];rfl,fun _ hx=>by simp at hx,by omega,by omega,.inl rfl,by simp only [List.nil_append,dec];omega⟩
/-- What is read off bytes: the number, and how many bytes it took. -/
def rvGo : Nat → Int → Int → Nat → List Int → Option (Int × Nat)
 | 0,_,_,_,_=>none
 | _ + 1,_,_,_,[]=>none
 | f + 1,n,sc,c,b :: l=>if b < 128 then (if (b = 0 ∧ 0 < c) ∨ n + b % 128 * sc > 1000000000 then none else some (n + b % 128 * sc,c + 1)) else rvGo f (n + b % 128 * sc) (sc * 128) (c + 1) l
def rv (l : List Int) : Option (Int × Nat):=rvGo 5 0 1 0 l
theorem rvGo_some : ∀ (f : Nat) (P l : List Int),P.length + f = 5 → Byt l → Hi P → ∀ n c,rvGo f (dec P) (128 ^ P.length) P.length l = some (n,c) →
  ∃ rest,P ++ l = varB n.toNat ++ rest ∧ c = (varB n.toNat).length ∧ 0 ≤ n ∧ n ≤ 1000000000
 | 0,P,l,_,_,_,n,c,h=>by simp [rvGo] at h
 | f + 1,P,[],_,_,_,n,c,h=>by simp [rvGo] at h
 | f + 1,P,b :: l,hf,hb,hP,n,c,h=>by
  have hbb:=hb.head
  simp only [rvGo] at h
  by_cases h1 : b < 128
  ·rw [if_pos h1] at h
   split at h
   ·cases h
   rename_i h2
   simp only [Option.some.injEq,Prod.mk.injEq] at h
   obtain ⟨rfl,rfl⟩:=h
   have hd:=dec_snoc P b
   have hv:=varB_dec P b hP hbb.1 h1 (by
    rcases P with _|⟨a,P⟩
    ·exact .inl rfl
    refine .inr fun e=>h2 (.inl ⟨e,by simp⟩))
   rw [hd] at hv
   have hnn:=dec_nonneg (P ++ [b])
   rw [hd] at hnn
   refine ⟨l,by rw [hv];simp,by rw [hv];simp,hnn,by omega⟩
  rw [if_neg h1] at h
  have:=rvGo_some f (P ++ [b]) l (by simp;omega) hb.tail (fun x hx=>by
   rcases List.mem_append.1 hx with hx|hx
   ·exact hP x hx
   simp at hx;subst hx;omega) n c (by rw [dec_snoc,List.length_append,Int.pow_add];simpa using h)
  obtain ⟨rest,e,r⟩:=this
  exact ⟨rest,by rw [← e];simp,r⟩
theorem rvGo_hi : ∀ (Q : List Int) (f : Nat) (P l : List Int),Hi Q → rvGo (f + Q.length) (dec P) (128 ^ P.length) P.length (Q ++ l) = rvGo f (dec (P ++ Q)) (128 ^ (P ++ Q).length) (P ++ Q).length l
 | [],f,P,l,_=>by simp
 | b :: Q,f,P,l,h=>by
  have hb:=h b (List.mem_cons_self ..)
  have:=rvGo_hi Q f (P ++ [b]) l (fun x hx=>h x (List.mem_cons_of_mem _ hx))
  rw [show f + (b :: Q).length = (f + Q.length) + 1 by simp;omega,List.cons_append]
  simp only [rvGo]
  rw [if_neg (by omega)]
  rw [dec_snoc,List.length_append,Int.pow_add] at this
  simp only [List.append_assoc,List.singleton_append,List.length_cons,List.length_nil] at this
  rw [← this]
  simp
theorem rv_var (n : Nat) (h : n ≤ 1000000000) (rest : List Int) : rv (varB n ++ rest) = some ((n : Int),(varB n).length):=by
 obtain ⟨l,c,e,hl,h0,h1,hc,hd⟩:=varB_last n
 have h5:=varB_len5 h
 rw [e] at h5
 have hlen : l.length ≤ 4:=by simpa using h5
 unfold rv
 have:=rvGo_hi l (5 - l.length) [] ([c] ++ rest) hl
 simp only [dec,List.nil_append,List.length_nil] at this
 rw [show 5 - l.length + l.length = 5 by omega] at this
 rw [e,List.append_assoc]
 refine Eq.trans this ?_
 obtain ⟨f,hf⟩ : ∃ f,5 - l.length = f + 1:=⟨4 - l.length,by omega⟩
 rw [hf,List.singleton_append]
 simp only [rvGo]
 rw [if_pos h1,if_neg,← dec_snoc,hd]
 ·simp
 rintro (⟨h2,h3⟩|h2)
 ·rcases hc with rfl|hc
  ·simp at h3
  exact hc h2
 rw [← dec_snoc,hd] at h2
 omega
theorem rv_some {l : List Int} (hl : Byt l) {n : Int} {c : Nat} (h : rv l = some (n,c)) : ∃ rest,l = varB n.toNat ++ rest ∧ c = (varB n.toNat).length ∧ 0 ≤ n ∧ n ≤ 1000000000:=by
 have:=rvGo_some 5 [] l rfl hl (fun _ hx=>by simp at hx) n c h
 simpa using this
theorem pow128 {c : Nat} (h : c ≤ 4) : 1 ≤ (128 : Int) ^ c ∧ (128 : Int) ^ c ≤ 268435456:=by
 rcases (by omega : c = 0 ∨ c = 1 ∨ c = 2 ∨ c = 3 ∨ c = 4) with rfl|rfl|rfl|rfl|rfl <;> decide
def rvRes (at_ : Int) : Option (Int × Nat) → Int × Int × Bool
 | some (n,c)=>(n,at_ + c,true)
 | none=>(0,0,false)
def pReadVar (s : ByteArray) (a : Int) : Int × Int × Bool:=if 0 ≤ a ∧ a ≤ s.size then rvRes a (rv ((bl s).drop a.toNat)) else (0,0,false)
theorem i_in (a b c : Int) : impl_in.f a b c = some (decide (b ≤ a ∧ a ≤ c)):=by
 unfold impl_in.f
 by_cases h : a ≥ b
 ·rw [if_pos h];simp [show b ≤ a from h]
 rw [if_neg h];simp [show ¬ b ≤ a from h]
theorem i_in_t {a b c : Int} (h : b ≤ a ∧ a ≤ c) : impl_in.f a b c = some true:=by rw [i_in,decide_eq_true h]
theorem i_in_f {a b c : Int} (h : ¬ (b ≤ a ∧ a ≤ c)) : impl_in.f a b c = some false:=by rw [i_in,decide_eq_false h]
theorem iVarText_go (n : Nat) : ∀ acc : List Int,acc.length + n ≤ 100000000000 → Ev (fun k=>impl_VarText.l0 k (n : Int) acc) (strOfNums (acc ++ varB n),true):=by
 induction n using Nat.strongRecOn with
 | _ n ih =>
  intro acc hacc
  by_cases h : n > 127
  ·have:=ih (n / 128) (by omega) (acc ++ [((n % 128 + 128 : Nat) : Int)]) (by simp;omega)
   rw [varB_big h]
   rw [List.append_assoc,List.singleton_append] at this
   refine this.to fun k=>?_
   simp only [impl_VarText.l0]
   rw [if_pos (by omega),if_pos (by omega),tdiv_pos (by omega),tmod_pos (by omega),wid (by omega) (by omega),wid (by omega) (by omega)]
   congr 3
   omega
  rw [varB_small h]
  refine (Ev.now _).to fun k=>?_
  simp only [impl_VarText.l0]
  rw [if_neg (by omega),if_pos (by omega),show (n : Int) % 256 = n by omega]
def pVarText (n : Int) : ByteArray × Bool:=if 0 ≤ n ∧ n ≤ 1000000000 then (strOfNums (varB n.toNat),true) else (⟨#[]⟩,false)
theorem iVarText (n : Int) : Ev (fun k=>impl_VarText.f k n) (pVarText n):=by
 unfold impl_VarText.f pVarText
 by_cases h : 0 ≤ n ∧ n ≤ 1000000000
 ·rw [i_in_t h,if_pos h]
  simp only [Option.bind_some,if_true]
  have:=iVarText_go n.toNat [] (by simp;omega)
  rw [Int.toNat_of_nonneg h.1] at this
  exact this
 rw [i_in_f h,if_neg h]
 simp only [Option.bind_some,Bool.false_eq_true,if_false]
 exact Ev.now _
def pShort (s : ByteArray) : ByteArray × Bool:=if s.size > 8000 then (⟨#[]⟩,false) else (strOfNums (varB s.size) ++ s,true)
theorem iShortText (s : ByteArray) (hs : s.size ≤ 140737488351232) : Ev (fun k=>impl_ShortText.f k s) (pShort s):=by
 unfold impl_ShortText.f pShort
 by_cases h : s.size > 8000
 ·rw [if_pos h]
  simp only [if_pos (show (s.size : Int) > 8000 by omega)]
  exact Ev.now _
 rw [if_neg h]
 simp only [if_neg (show ¬ (s.size : Int) > 8000 by omega)]
 have hl:=varB_len s.size
 refine (iVarText s.size).bind ?_
 have e : pVarText (s.size : Int) = (strOfNums (varB s.size),true):=by unfold pVarText;rw [if_pos (by omega),Int.toNat_natCast]
 rw [e]
 exact Ev.same (if_pos (by rw [str_len];omega))
def szI (kind : Int) (x : S71) : Int:=if kind = 1 then ((pShort x.f0).1.size : Int) + (pShort x.f1).1.size else if kind = 2 then ((pShort x.f0).1.size : Int) + (pVarText x.f2).1.size else 0
theorem pShort_size (s : ByteArray) : (pShort s).1.size ≤ 9000:=by
 unfold pShort
 split
 ·exact Nat.zero_le _
 rw [ByteArray.size_append,str_len]
 have:=varB_len5 (n:=s.size) (by omega)
 omega
theorem pVar_size (n : Int) : (pVarText n).1.size ≤ 5:=by
 unfold pVarText
 split
 ·rename_i h
  rw [str_len]
  exact varB_len5 (by omega)
 exact Nat.zero_le _
theorem szI_bd (kind : Int) (x : S71) : 0 ≤ szI kind x ∧ szI kind x ≤ 18000:=by
 have h0:=pShort_size x.f0
 have h1:=pShort_size x.f1
 have h2:=pVar_size x.f2
 unfold szI
 split
 ·omega
 split <;> omega
theorem iItemSize (kind : Int) (x : S71) (h0 : x.f0.size ≤ 140737488351232) (h1 : x.f1.size ≤ 140737488351232) : Ev (fun k=>impl_ItemSize.f k kind x.f0 x.f1 x.f2) (szI kind x):=by
 unfold impl_ItemSize.f szI
 have b0:=pShort_size x.f0
 have b1:=pShort_size x.f1
 have b2:=pVar_size x.f2
 refine (iShortText x.f0 h0).bind ?_
 by_cases c1 : kind = 1
 ·rw [if_pos c1]
  refine Ev.ifp c1 ((iShortText x.f1 h1).bind (Ev.same ?_))
  rw [wid (by omega) (by omega)]
 rw [if_neg c1]
 refine Ev.ifn c1 ?_
 by_cases c2 : kind = 2
 ·rw [if_pos c2]
  refine Ev.ifp c2 ((iVarText x.f2).bind (Ev.same ?_))
  rw [wid (by omega) (by omega)]
 rw [if_neg c2]
 exact Ev.ifn c2 (Ev.now _)
theorem getD_at {α : Type} {xs : List α} {i : Nat} (z : α) (h : i < xs.length) : xs.getD ((i : Int)).toNat z = xs[i]:=by
 rw [Int.toNat_natCast,List.getD_eq_getElem?_getD,List.getElem?_eq_getElem h];rfl
theorem rdOf_at {α : Type} {xs : List α} {i : Nat} (z : α) (h : i < xs.length) : rdOf z xs (i : Int) = xs[i]:=getD_at z h
theorem rd_at {xs : List Int} {i : Nat} (h : i < xs.length) : rd xs (i : Int) = xs[i]:=getD_at 0 h
theorem ri_Item {xs : List S71} {i : Nat} (h : i < xs.length) : rd_T71 xs (i : Int) = xs[i]:=getD_at _ h
/-! Sums -/
def U32 (s : Int) : Prop:=0 ≤ s ∧ s < 4294967296
theorem xor_u32 {a b : Int} (h : U32 a) (h' : U32 b) : U32 (Go.bits .xor .u32 a b):=by
 rw [Go.u32_xor a b h.1 h.2 h'.1 h'.2]
 have : a.toNat ^^^ b.toNat < 2 ^ 32:=Nat.xor_lt_two_pow (by have:=h.2;have:=h.1;omega) (by have:=h'.2;have:=h'.1;omega)
 exact ⟨by omega,by omega⟩
theorem and1_u32 {a : Int} (h : U32 a) : Go.bits .and .u32 a 1 = a % 2:=by
 rw [Go.u32_and a 1 h.1 h.2 (by decide) (by decide)]
 have : (1 : Int).toNat = 1:=rfl
 rw [this,Nat.and_one_is_mod]
 have:=h.1
 omega
def crcBit (s : Int) : Int:=if s % 2 = 1 then Go.bits .xor .u32 (s / 2) 3558460437 else s / 2
def crcN : Nat → Int → Int
 | 0,s=>s
 | n + 1,s=>crcN n (crcBit s)
def crcByte (s b : Int) : Int:=crcN 8 (Go.bits .xor .u32 s b)
def crcL (s : Int) (l : List Int) : Int:=l.foldl crcByte s
theorem crcBit_u32 {s : Int} (h : U32 s) : U32 (crcBit s):=by
 unfold crcBit
 have : U32 (s / 2):=⟨by have:=h.1;omega,by have:=h.2;omega⟩
 split
 ·exact xor_u32 this ⟨by decide,by decide⟩
 exact this
theorem crcN_u32 : ∀ (n : Nat) {s : Int},U32 s → U32 (crcN n s)
 | 0,_,h=>h
 | n + 1,_,h=>crcN_u32 n (crcBit_u32 h)
theorem crcByte_u32 {s b : Int} (h : U32 s) (hb : 0 ≤ b ∧ b < 256) : U32 (crcByte s b):=crcN_u32 8 (xor_u32 h ⟨hb.1,by omega⟩)
theorem crcL_cons (s b : Int) (l : List Int) : crcL s (b :: l) = crcL (crcByte s b) l:=by unfold crcL;rw [List.foldl_cons]
theorem u32_top : U32 4294967295:=⟨by decide,by decide⟩
def sumB (s : ByteArray) : Int:=crcL 4294967295 (bl s)
def four (n : Int) : List Int:=[(n / 16777216) % 256,(n / 65536) % 256,(n / 256) % 256,n % 256]
theorem four_byt (n : Int) : Byt (four n):=(((Byt.one ⟨by omega,by omega⟩).cons ⟨by omega,by omega⟩).cons ⟨by omega,by omega⟩).cons ⟨by omega,by omega⟩
theorem four_len (n : Int) : (four n).length = 4:=rfl
def pSealed (s : ByteArray) : ByteArray × Bool:=if s.size > 8000 then (⟨#[]⟩,false) else (s ++ strOfNums (four (sumB s)),true)
theorem impl_sm_l1 (s : ByteArray) (z i : Int) {r : Int} : ∀ (n : Nat) (x : Int),n ≤ 8 → U32 x → Ev (fun k=>impl_SumMore.l0 k (crcN n x) s z (wrap64 (i + 1))) r → Ev (fun k=>impl_SumMore.l1 k x s z i (8 - (n : Int))) r
 | 0,x,_,_,h=>h.to fun k=>by simp only [impl_SumMore.l1];rw [if_neg (by omega)];rfl
 | n + 1,x,hn,hx,h=>by
  have h1:=hx.1
  have h2:=hx.2
  refine (impl_sm_l1 s z i n (crcBit x) (by omega) (crcBit_u32 hx) h).to fun k=>?_
  simp only [impl_SumMore.l1]
  rw [if_pos (by omega),and1_u32 hx,wid (by omega) (by omega),show (8 - ((n + 1 : Nat) : Int) + 1) = 8 - (n : Int) by omega]
  unfold crcBit
  by_cases hb : x % 2 = 1
  ·rw [if_pos hb,if_pos hb]
  rw [if_neg hb,if_neg hb]
theorem impl_sm_l0 (s : ByteArray) (hs : s.size ≤ 140737488351232) : ∀ (d i : Nat) (x : Int),i + d = s.size → U32 x → Ev (fun k=>impl_SumMore.l0 k x s (s.size : Int) (i : Int)) (crcL x ((bl s).drop i))
 | 0,i,x,hi,_=>by
  refine (Ev.now _).to fun k=>?_
  simp only [impl_SumMore.l0]
  rw [if_neg (by omega),bl_end (by omega)]
  rfl
 | d + 1,i,x,hi,hx=>by
  have hb:=bt_range s (i : Int)
  rw [bl_cons (by omega),crcL_cons]
  have hx' : U32 (Go.bits .xor .u32 x (bt s i)):=xor_u32 hx ⟨hb.1,by omega⟩
  have:=impl_sm_l0 s hs d (i + 1) (crcByte x (bt s i)) (by omega) (crcByte_u32 hx ⟨hb.1,by omega⟩)
  refine (impl_sm_l1 s _ i 8 _ (Nat.le_refl _) hx' (by rw [wid (by omega) (by omega)];exact this)).to fun k=>?_
  simp only [impl_SumMore.l0]
  rw [if_pos (by omega),if_pos (by omega),if_pos (by omega),show bt s (i : Int) % 4294967296 = bt s i by omega]
  rfl
theorem impl_sm (x : Int) (s : ByteArray) (hs : s.size ≤ 140737488351232) (hx : U32 x) : Ev (fun k=>impl_SumMore.f k x s) (crcL x (bl s)):=impl_sm_l0 s hs s.size 0 x (by omega) hx
theorem iSumOf (s : ByteArray) (hs : s.size ≤ 140737488351232) : Ev (fun k=>impl_SumOf.f k s) (sumB s):=by
 unfold impl_SumOf.f
 exact (impl_sm _ s hs u32_top).bind (Ev.now _)
theorem iEndsPage (s : ByteArray) (hs : s.size ≤ 140737488351232) : Ev (fun k=>impl_EndsPage.f k s) (Int.tmod (sumB s) 4 == 0):=by
 unfold impl_EndsPage.f
 exact (iSumOf s hs).bind (Ev.now _)
/-! Items in groups -/
def endsI (kind : Int) (x : S71) : Bool:=decide (kind = 1) && (Int.tmod (sumB x.f0) 4 == 0)
def sumI (kind : Int) (l : List S71) : Int:=(l.map (szI kind)).sum
theorem sumI_app (kind : Int) (l m : List S71) : sumI kind (l ++ m) = sumI kind l + sumI kind m:=by unfold sumI;rw [List.map_append,List.sum_append]
theorem sumI_one (kind : Int) (x : S71) : sumI kind [x] = szI kind x:=by unfold sumI;simp
theorem sumI_bd (kind : Int) : ∀ l : List S71,0 ≤ sumI kind l ∧ sumI kind l ≤ 18000 * l.length
 | []=>by simp [sumI]
 | x :: l=>by
  have h:=szI_bd kind x
  have ih:=sumI_bd kind l
  have e : sumI kind (x :: l) = szI kind x + sumI kind l:=by unfold sumI;simp
  rw [e,List.length_cons]
  omega
def cutP (kind : Int) : List S71 → List S71 → List (List S71)
 | g,[]=>if g.length > 0 then [g] else []
 | g,x :: l=>if g.length > 0 ∧ sumI kind g + szI kind x > 54 then g :: (if endsI kind x = true then [x] :: cutP kind [] l else cutP kind [x] l) else (if endsI kind x = true then (g ++ [x]) :: cutP kind [] l else cutP kind (g ++ [x]) l)
def okG (kind : Int) (g : List S71) : Prop:=g.length > 0 ∧ (g.length > 1 → sumI kind g ≤ 54)
theorem cutP_ok (kind : Int) : ∀ (l g : List S71),(g.length > 1 → sumI kind g ≤ 54) → (cutP kind g l).flatten = g ++ l ∧ ∀ h ∈ cutP kind g l,okG kind h
 | [],g,hg=>by
  unfold cutP
  by_cases c : g.length > 0
  ·rw [if_pos c]
   exact ⟨by simp,fun h hh=>by rw [List.mem_singleton.1 hh];exact ⟨c,hg⟩⟩
  rw [if_neg c]
  have : g = []:=List.length_eq_zero_iff.1 (by omega)
  subst this
  exact ⟨rfl,fun h hh=>by simp at hh⟩
 | x :: l,g,hg=>by
  have i0:=cutP_ok kind l [] (fun h=>by simp at h)
  have i1:=cutP_ok kind l [x] (fun h=>by simp at h)
  unfold cutP
  by_cases c : g.length > 0 ∧ sumI kind g + szI kind x > 54
  ·rw [if_pos c]
   by_cases e : endsI kind x = true
   ·rw [if_pos e]
    refine ⟨by simp only [List.flatten_cons];rw [i0.1];simp,fun h hh=>?_⟩
    rcases List.mem_cons.1 hh with rfl|hh
    ·exact ⟨c.1,hg⟩
    rcases List.mem_cons.1 hh with rfl|hh
    ·exact ⟨by simp,fun h=>by simp at h⟩
    exact i0.2 h hh
   rw [if_neg e]
   refine ⟨by simp only [List.flatten_cons];rw [i1.1];simp,fun h hh=>?_⟩
   rcases List.mem_cons.1 hh with rfl|hh
   ·exact ⟨c.1,hg⟩
   exact i1.2 h hh
  rw [if_neg c]
  have hx : (g ++ [x]).length > 1 → sumI kind (g ++ [x]) ≤ 54:=fun h=>by
   rw [sumI_app,sumI_one]
   have : g.length > 0:=by rw [List.length_append] at h;simp at h;omega
   omega
  by_cases e : endsI kind x = true
  ·rw [if_pos e]
   refine ⟨by simp only [List.flatten_cons];rw [i0.1];simp,fun h hh=>?_⟩
   rcases List.mem_cons.1 hh with rfl|hh
   ·exact ⟨by rw [List.length_append];simp,hx⟩
   exact i0.2 h hh
  rw [if_neg e]
  have i2:=cutP_ok kind l (g ++ [x]) hx
  exact ⟨by rw [i2.1];simp,i2.2⟩
def OkI (x : S71) : Prop:=x.f0.size ≤ 8000 ∧ x.f1.size ≤ 8000
theorem iEnds (kind : Int) (x : S71) (hx : OkI x) {α : Type} {A B : Nat → Option α} {r : α} (hA : endsI kind x = true → Ev A r) (hB : ¬ endsI kind x = true → Ev B r) :
  Ev (fun k=>if kind = 1 then (impl_EndsPage.f k x.f0).bind fun t=>if t = true then A k else B k else B k) r:=by
 by_cases c : kind = 1
 ·refine Ev.ifp c ((iEndsPage x.f0 (by have:=hx.1;omega)).bind ?_)
  by_cases e : (Int.tmod (sumB x.f0) 4 == 0) = true
  ·exact Ev.ifp e (hA (by unfold endsI;rw [decide_eq_true c,e];rfl))
  exact Ev.ifn e (hB (by unfold endsI;rw [decide_eq_true c,Bool.true_and];exact e))
 exact Ev.ifn c (hB (by unfold endsI;rw [decide_eq_false c];simp))
theorem iCut_go (kind : Int) (L : List S71) (hL : L.length ≤ 1000000) (hO : ∀ x ∈ L,OkI x) : ∀ (d i : Nat) (out : List (List S71)) (g : List S71),i + d = L.length → out.length + g.length ≤ i →
  Ev (fun k=>impl_CutItems.l0 k kind out g (sumI kind g) L (L.length : Int) (i : Int)) (out ++ cutP kind g (L.drop i))
 | 0,i,out,g,hi,ho=>by
  rw [List.drop_of_length_le (by omega),cutP]
  by_cases c : g.length > 0
  ·rw [if_pos c]
   refine (Ev.now _).to fun k=>?_
   simp only [impl_CutItems.l0]
   rw [if_neg (by omega),if_pos (by omega),if_pos (by omega)]
  rw [if_neg c,List.append_nil]
  refine (Ev.now _).to fun k=>?_
  simp only [impl_CutItems.l0]
  rw [if_neg (by omega),if_neg (by omega)]
 | d + 1,i,out,g,hi,ho=>by
  have hlt : i < L.length:=by omega
  have hri:=ri_Item hlt
  have hx:=hO L[i] (List.getElem_mem hlt)
  have hsz:=szI_bd kind L[i]
  have hsg:=sumI_bd kind g
  have iz0:=fun o (h : o.length ≤ i + 1)=>iCut_go kind L hL hO d (i + 1) o [] (by omega) (by simpa using h)
  have e0 : sumI kind [] = 0:=rfl
  have i1:=fun o (h : o.length ≤ i)=>iCut_go kind L hL hO d (i + 1) o [L[i]] (by omega) (by simpa using h)
  have i2:=fun o (h : o.length + g.length ≤ i)=>iCut_go kind L hL hO d (i + 1) o (g ++ [L[i]]) (by omega) (by rw [List.length_append];simp;omega)
  have w : qo (wrap64 ((i : Int) + 1) = ((i + 1 : Nat) : Int)):=⟨by rw [wid (by omega) (by omega)];rfl⟩
  have wz : qo (wrap64 (sumI kind g + szI kind L[i]) = sumI kind g + szI kind L[i]):=⟨wid (by omega) (by omega)⟩
  have w0 : qo (wrap64 (0 + szI kind L[i]) = szI kind L[i]):=⟨by rw [Int.zero_add];exact wid (by omega) (by omega)⟩
  rw [e0] at iz0
  rw [sumI_one] at i1
  rw [sumI_app,sumI_one] at i2
  rw [List.drop_eq_getElem_cons hlt,cutP]
  have hj : Ev (fun k=>impl_CutItems.j1 k kind out g (sumI kind g) (szI kind L[i]) L (L.length : Int) (i : Int) (decide (g.length > 0 ∧ sumI kind g + szI kind L[i] > 54)) L[i].f0 L[i].f1 L[i].f2) (out ++ (if g.length > 0 ∧ sumI kind g + szI kind L[i] > 54 then g :: (if endsI kind L[i] = true then [L[i]] :: cutP kind [] (L.drop (i + 1)) else cutP kind [L[i]] (L.drop (i + 1))) else (if endsI kind L[i] = true then (g ++ [L[i]]) :: cutP kind [] (L.drop (i + 1)) else cutP kind (g ++ [L[i]]) (L.drop (i + 1))))):=by
   by_cases c : g.length > 0 ∧ sumI kind g + szI kind L[i] > 54
   ·rw [if_pos c,decide_eq_true c]
    refine Ev.to (f:=fun k=>if kind = 1 then (impl_EndsPage.f k L[i].f0).bind fun t=>if t = true then impl_CutItems.l0 k kind ((out ++ [g]) ++ [[L[i]]]) [] 0 L (L.length : Int) ((i + 1 : Nat) : Int) else impl_CutItems.l0 k kind (out ++ [g]) [L[i]] (szI kind L[i]) L (L.length : Int) ((i + 1 : Nat) : Int) else impl_CutItems.l0 k kind (out ++ [g]) [L[i]] (szI kind L[i]) L (L.length : Int) ((i + 1 : Nat) : Int)) (iEnds kind L[i] hx (fun e=>?_) (fun e=>?_)) fun k=>?_
    ·rw [if_pos e]
     exact Ev.ofEq (iz0 _ (by simp;omega)) (by simp)
    ·rw [if_neg e]
     exact Ev.ofEq (i1 _ (by simp;omega)) (by simp)
    simp only [impl_CutItems.j1,if_true,w.out,w0.out,Option.bind_some,List.nil_append]
    rw [if_pos (by omega),if_pos (by simp)]
    by_cases c1 : kind = 1
    ·simp only [if_pos c1]
     congr 1
     funext t
     split
     ·rw [if_pos (by simp;omega)]
     rfl
    simp only [if_neg c1]
   rw [if_neg c,decide_eq_false c]
   refine Ev.to (f:=fun k=>if kind = 1 then (impl_EndsPage.f k L[i].f0).bind fun t=>if t = true then impl_CutItems.l0 k kind (out ++ [g ++ [L[i]]]) [] 0 L (L.length : Int) ((i + 1 : Nat) : Int) else impl_CutItems.l0 k kind out (g ++ [L[i]]) (sumI kind g + szI kind L[i]) L (L.length : Int) ((i + 1 : Nat) : Int) else impl_CutItems.l0 k kind out (g ++ [L[i]]) (sumI kind g + szI kind L[i]) L (L.length : Int) ((i + 1 : Nat) : Int)) (iEnds kind L[i] hx (fun e=>?_) (fun e=>?_)) fun k=>?_
   ·rw [if_pos e]
    exact Ev.ofEq (iz0 _ (by simp;omega)) (by simp)
   ·rw [if_neg e]
    exact Ev.ofEq (i2 _ (by omega)) (by simp)
   simp only [impl_CutItems.j1,Bool.false_eq_true,if_false,w.out,wz.out,Option.bind_some]
   rw [if_pos (by omega)]
   by_cases c1 : kind = 1
   ·simp only [if_pos c1]
    congr 1
    funext t
    split
    ·rw [if_pos (by omega)]
    rfl
   simp only [if_neg c1]
  refine Ev.to (f:=fun k=>(impl_ItemSize.f k kind L[i].f0 L[i].f1 L[i].f2).bind fun t=>if (g.length : Int) > 0 then impl_CutItems.j1 k kind out g (sumI kind g) t L (L.length : Int) (i : Int) (decide (wrap64 (sumI kind g + t) > 54)) L[i].f0 L[i].f1 L[i].f2 else impl_CutItems.j1 k kind out g (sumI kind g) t L (L.length : Int) (i : Int) false L[i].f0 L[i].f1 L[i].f2) ((iItemSize kind L[i] (by have:=hx.1;omega) (by have:=hx.2;omega)).bind ?_) fun k=>?_
  ·by_cases c : g.length > 0
   ·refine Ev.ifp (by omega) ?_
    rw [show decide (g.length > 0 ∧ sumI kind g + szI kind L[i] > 54) = decide (sumI kind g + szI kind L[i] > 54) from by rw [decide_eq_decide];omega] at hj
    rw [wz.out]
    exact hj
   refine Ev.ifn (by omega) ?_
   rw [show decide (g.length > 0 ∧ sumI kind g + szI kind L[i] > 54) = false from decide_eq_false (by omega)] at hj
   exact hj
  simp only [impl_CutItems.l0]
  rw [if_pos (by omega),if_pos (by omega),if_pos (by omega),hri]
theorem iCutItems (kind : Int) (L : List S71) (hL : L.length ≤ 1000000) (hO : ∀ x ∈ L,OkI x) : Ev (fun k=>impl_CutItems.f k kind L) (cutP kind [] L):=by
 unfold impl_CutItems.f
 have:=iCut_go kind L hL hO L.length 0 [] [] (by omega) (by simp)
 rw [List.drop_zero,List.nil_append] at this
 exact this
theorem iSealed (s : ByteArray) (hs : s.size ≤ 140737488351232) : Ev (fun k=>impl_Sealed.f k s) (pSealed s):=by
 unfold impl_Sealed.f pSealed
 by_cases h : s.size > 8000
 ·rw [if_pos h]
  simp only [if_pos (show (s.size : Int) > 8000 by omega)]
  exact Ev.now _
 rw [if_neg h]
 simp only [if_neg (show ¬ (s.size : Int) > 8000 by omega)]
 refine (iSumOf s hs).bind ?_
 simp only [Option.bind_some]
 exact Ev.same (if_pos (by rw [str_len];show s.size + 4 ≤ _;omega))
/-! A page's text -/
def shT (s : ByteArray) : ByteArray:=strOfNums (varB s.size) ++ s
def itG (kind : Int) (prev : Option ByteArray) (x : S71) : Bool :=
 decide (¬ x.f0.toList = []) && ((match prev with|none=>true|some p=>Op.bytesLess p.toList x.f0.toList) && (if kind = 1 then decide (x.f2 = 0) else decide (x.f1.toList = [] ∧ 0 ≤ x.f2 ∧ x.f2 ≤ 399)))
def txI (kind : Int) (x : S71) : ByteArray:=shT x.f0 ++ (if kind = 1 then shT x.f1 else strOfNums (varB x.f2.toNat))
def szT (kind : Int) (x : S71) : Int:=((shT x.f0).size : Int) + (if kind = 1 then ((shT x.f1).size : Int) else (pVarText x.f2).1.size)
def sumT (kind : Int) (l : List S71) : Int:=(l.map (szT kind)).sum
def noText : ByteArray × Bool:=(⟨#[]⟩,false)
def spL (kind : Int) : Option ByteArray → ByteArray → List S71 → ByteArray × Bool
 | _,acc,[]=>pSealed acc
 | prev,acc,x :: l=>if itG kind prev x = true then spL kind (some x.f0) (acc ++ txI kind x) l else noText
def imL (kind : Int) : Option ByteArray → ByteArray → Int → List S71 → ByteArray × Bool
 | _,acc,z,[]=>if z > 54 then noText else pSealed acc
 | prev,acc,z,x :: l=>if itG kind prev x = true ∧ x.f0.size ≤ 54 ∧ x.f1.size ≤ 54 then imL kind (some x.f0) (acc ++ txI kind x) (z + szT kind x) l else noText
theorem varB_lenB {n : Nat} (h : n ≤ 1048576) : (varB n).length ≤ 5:=varB_len5 (by omega)
theorem shT_size (s : ByteArray) : (shT s).size = (varB s.size).length + s.size:=by unfold shT;rw [ByteArray.size_append,str_len]
theorem shT_lo (s : ByteArray) : s.size + 1 ≤ (shT s).size:=by rw [shT_size];have:=varB_pos s.size;omega
theorem shT_hi {s : ByteArray} (h : s.size ≤ 1048576) : (shT s).size ≤ 1048581:=by rw [shT_size];have:=varB_lenB h;omega
theorem szT_lo (kind : Int) (x : S71) : (x.f0.size : Int) + 1 ≤ szT kind x:=by
 have:=shT_lo x.f0
 unfold szT
 split <;> omega
theorem szT_lo1 (x : S71) : (x.f1.size : Int) + 1 ≤ szT 1 x:=by
 have:=shT_lo x.f1
 unfold szT
 rw [if_pos rfl]
 omega
theorem szT_hi (kind : Int) (x : S71) (h0 : x.f0.size ≤ 1048576) (h1 : x.f1.size ≤ 1048576) : szT kind x ≤ 2097162:=by
 have a:=shT_hi h0
 have b:=shT_hi h1
 have c:=pVar_size x.f2
 unfold szT
 split <;> omega
theorem sumT_cons (kind : Int) (x : S71) (l : List S71) : sumT kind (x :: l) = szT kind x + sumT kind l:=by unfold sumT;simp
theorem sumT_lo (kind : Int) : ∀ l : List S71,(l.length : Int) ≤ sumT kind l
 | []=>by simp [sumT]
 | x :: l=>by
  have ih:=sumT_lo kind l
  have:=szT_lo kind x
  rw [sumT_cons,List.length_cons]
  omega
theorem tl_nil {s : ByteArray} (h : s.toList = []) : s.size = 0:=by
 rw [ByteArray.toList_eq] at h
 have : s.data.toList.length = 0:=by rw [h];rfl
 exact this
theorem itG_inner {kind : Int} {prev : Option ByteArray} {x : S71} (h : itG kind prev x = true) (hk : ¬ kind = 1) : x.f1.toList = [] ∧ 0 ≤ x.f2 ∧ x.f2 ≤ 399:=by
 unfold itG at h
 rw [if_neg hk] at h
 simp only [Bool.and_eq_true,decide_eq_true_eq] at h
 exact h.2.2
/-- Both ways to count come to the same. -/
theorem imL_eq (kind : Int) : ∀ (l : List S71) (prev : Option ByteArray) (acc : ByteArray) (z : Int),0 ≤ z → imL kind prev acc z l = if z + sumT kind l > 54 then noText else spL kind prev acc l
 | [],prev,acc,z,hz=>by unfold imL spL sumT;simp
 | x :: l,prev,acc,z,hz=>by
  have lo:=szT_lo kind x
  have hs:=sumT_lo kind l
  rw [imL,spL,sumT_cons]
  by_cases h : itG kind prev x = true ∧ x.f0.size ≤ 54 ∧ x.f1.size ≤ 54
  ·rw [if_pos h,if_pos h.1,imL_eq kind l (some x.f0) (acc ++ txI kind x) (z + szT kind x) (by omega),Int.add_assoc]
  rw [if_neg h]
  by_cases c : z + (szT kind x + sumT kind l) > 54
  ·rw [if_pos c]
  rw [if_neg c,if_neg]
  intro g
  apply h
  refine ⟨g,by omega,?_⟩
  by_cases hk : kind = 1
  ·subst hk
   have:=szT_lo1 x
   omega
  rw [tl_nil (itG_inner g hk).1]
  omega
def headP (kind : Int) (n : Nat) : ByteArray:=strOfNums [kind % 256] ++ strOfNums (varB n)
def pPage (kind : Int) (l : List S71) : ByteArray × Bool:=if (kind = 1 ∨ kind = 2) ∧ l ≠ [] ∧ ¬ sumT kind l > 54 then spL kind none (headP kind l.length) l else noText
def OkIt (x : S71) : Prop:=x.f0.size ≤ 1048576 ∧ x.f1.size ≤ 1048576
def prevAt (l : List S71) (i : Nat) : Option ByteArray:=if i = 0 then none else (l[i - 1]?).map fun x=>x.f0
theorem prevAt_succ {l : List S71} {i : Nat} (h : i < l.length) : prevAt l (i + 1) = some l[i].f0:=by
 unfold prevAt
 rw [if_neg (by omega),Nat.add_sub_cancel,List.getElem?_eq_getElem h]
 rfl
theorem txI_size (kind : Int) (x : S71) (h : OkIt x) (hk : kind = 1 ∨ 0 ≤ x.f2 ∧ x.f2 ≤ 399) : (txI kind x).size ≤ 2097162:=by
 have a:=shT_hi h.1
 have b:=shT_hi h.2
 unfold txI
 rw [ByteArray.size_append]
 split
 ·omega
 rename_i hn
 rw [str_len]
 have:=varB_lenB (n:=x.f2.toNat) (by omega)
 omega
theorem headP_size (kind : Int) {n : Nat} (h : n ≤ 1048576) : (headP kind n).size ≤ 6:=by
 unfold headP
 rw [ByteArray.size_append,str_len,str_len]
 have:=varB_lenB h
 simp only [List.length_singleton]
 omega
def kgP (kind : Int) (x : S71) : Bool:=if kind = 1 then decide (x.f2 = 0) else decide (x.f1.toList = [] ∧ 0 ≤ x.f2 ∧ x.f2 ≤ 399)
theorem i_itemOk (kind : Int) (x : S71) : impl_itemOk.f kind x.f0 x.f1 x.f2 = some (decide (¬ x.f0.toList = []) && kgP kind x):=by
 unfold impl_itemOk.f kgP
 by_cases e : x.f0.toList = []
 ·rw [if_pos e];simp [e]
 rw [if_neg e,decide_eq_true e,Bool.true_and]
 by_cases c : kind = 1
 ·rw [if_pos c,if_pos c]
  congr 1
 rw [if_neg c,if_neg c]
 by_cases g : x.f1.toList = []
 ·rw [if_pos g,i_in];simp [g]
 rw [if_neg g];simp [g]
theorem iPage_t (kind : Int) (L M : List S71) (acc : ByteArray) (z n i : Int) (a b : ByteArray) (c : Int) : Ev (fun k=>impl_PageText.j2 k acc z L n i true kind M a b c) noText:=(Ev.now _).to fun k=>by simp only [impl_PageText.j2,if_true];rfl
def smI (x : S71) : Bool:=decide (x.f0.size ≤ 54 ∧ x.f1.size ≤ 54)
theorem iPage_sm (L : List S71) (kind : Int) (acc : ByteArray) (z n i : Int) (x : S71) (k : Nat) : (if (x.f0.size : Int) > 54 then (impl_PageText.j2 k acc z L n i true kind L x.f0 x.f1 x.f2) else (impl_PageText.j2 k acc z L n i (decide ((x.f1.size : Int) > 54)) kind L x.f0 x.f1 x.f2)) = impl_PageText.j2 k acc z L n i (!smI x) kind L x.f0 x.f1 x.f2:=by
 unfold smI
 by_cases e : (x.f0.size : Int) > 54
 ·rw [if_pos e,decide_eq_false (by omega)];rfl
 rw [if_neg e]
 congr 1
 by_cases g : (x.f1.size : Int) > 54
 ·rw [decide_eq_true g,decide_eq_false (by omega)];rfl
 rw [decide_eq_false g,decide_eq_true (by omega)];rfl
theorem iPage_l (kind : Int) (L : List S71) (hL : L.length ≤ 1048576) (acc : ByteArray) (z : Int) (i : Nat) (hlt : i < L.length) (k : Nat) : impl_PageText.l0 (k + 1) acc z L (L.length : Int) (i : Int) kind L = impl_PageText.j2 k acc z L (L.length : Int) (i : Int) (!(itG kind (prevAt L i) L[i] && smI L[i])) kind L L[i].f0 L[i].f1 L[i].f2:=by
 simp only [impl_PageText.l0]
 rw [if_pos (by omega),if_pos (by omega),if_pos (by omega),ri_Item hlt,i_itemOk]
 simp only [Option.bind_some]
 by_cases e : (decide (¬ L[i].f0.toList = []) && kgP kind L[i]) = true
 ·rw [if_pos e]
  have e1 : decide (¬ L[i].f0.toList = []) = true:=(Bool.and_eq_true _ _ ▸ e).1
  have e2 : kgP kind L[i] = true:=(Bool.and_eq_true _ _ ▸ e).2
  by_cases hi : i = 0
  ·have hp : prevAt L i = none:=by unfold prevAt;rw [if_pos hi]
   have g : itG kind (prevAt L i) L[i] = true:=by unfold itG;rw [hp,e1];unfold kgP at e2;rw [e2];rfl
   rw [if_neg (by omega),iPage_sm,g,Bool.true_and]
  have hj : i - 1 < L.length:=by omega
  have w : wrap64 ((i : Int) - 1) = ((i - 1 : Nat) : Int):=by rw [wid (by omega) (by omega)];omega
  have hp : prevAt L i = some L[i - 1].f0:=by unfold prevAt;rw [if_neg hi,List.getElem?_eq_getElem hj];rfl
  rw [if_pos (by omega),w];clear w
  rw [if_pos (by omega),if_pos (by omega),ri_Item hj]
  by_cases b : Op.bytesLess L[i - 1].f0.toList L[i].f0.toList = true
  ·have g : itG kind (prevAt L i) L[i] = true:=by unfold itG;rw [hp,e1];unfold kgP at e2;rw [e2];simp only [b];rfl
   rw [if_pos b,iPage_sm,g,Bool.true_and]
  have g : itG kind (prevAt L i) L[i] = false:=by unfold itG;rw [hp];simp [b]
  rw [if_neg b,g];rfl
 rw [if_neg e]
 have g : itG kind (prevAt L i) L[i] = false:=by
  unfold itG
  unfold kgP at e
  generalize (if kind = 1 then decide (L[i].f2 = 0) else decide (L[i].f1.toList = [] ∧ 0 ≤ L[i].f2 ∧ L[i].f2 ≤ 399)) = q at e ⊢
  generalize decide (¬ L[i].f0.toList = []) = p at e ⊢
  cases p <;> cases q <;> simp_all
 rw [g];rfl
theorem pShort_small {s : ByteArray} (h : s.size ≤ 54) : (pShort s).1 = shT s:=by unfold pShort shT;rw [if_neg (by omega)]
theorem szI_small {kind : Int} {x : S71} (hk : kind = 1 ∨ kind = 2) (h0 : x.f0.size ≤ 54) (h1 : x.f1.size ≤ 54) : szI kind x = szT kind x:=by
 unfold szI szT
 rw [pShort_small h0,pShort_small h1]
 rcases hk with rfl|rfl
 ·rw [if_pos rfl,if_pos rfl]
 rw [if_neg (by decide),if_pos rfl,if_neg (by decide)]
theorem iPage_j (kind : Int) (hk : kind = 1 ∨ kind = 2) (L : List S71) (acc : ByteArray) (z n i : Int) (x : S71) (h0 : x.f0.size ≤ 54) (h1 : x.f1.size ≤ 54) (hg : kind = 1 ∨ 0 ≤ x.f2 ∧ x.f2 ≤ 399) (ha : acc.size ≤ 100000000000000) (hz0 : 0 ≤ z) (hz1 : z ≤ 100000000000000) {r : ByteArray × Bool} (h : Ev (fun k=>impl_PageText.l0 k (acc ++ txI kind x) (z + szT kind x) L n (wrap64 (i + 1)) kind L) r) : Ev (fun k=>impl_PageText.j2 k acc z L n i false kind L x.f0 x.f1 x.f2) r:=by
 have b0:=shT_hi (s:=x.f0) (by omega)
 have b1:=shT_hi (s:=x.f1) (by omega)
 have bz:=szI_bd kind x
 rw [← szI_small hk h0 h1] at h
 have w : qo (wrap64 (z + szI kind x) = z + szI kind x):=⟨wid (by omega) (by omega)⟩
 refine Ev.to (f:=fun k=>(impl_ItemSize.f k kind x.f0 x.f1 x.f2).bind fun t204=>(impl_ShortText.f k x.f0).bind fun bt205=>(impl_ShortText.f k x.f1).bind fun bt207=>if kind = 2 then (impl_VarText.f k x.f2).bind fun bt209=>if bt205.1.size + bt209.1.size ≤ 9223372036854775807 then (if acc.size + (bt205.1 ++ bt209.1).size ≤ 9223372036854775807 then impl_PageText.l0 k (acc ++ (bt205.1 ++ bt209.1)) (wrap64 (z + t204)) L n (wrap64 (i + 1)) kind L else none) else none else if bt205.1.size + bt207.1.size ≤ 9223372036854775807 then (if acc.size + (bt205.1 ++ bt207.1).size ≤ 9223372036854775807 then impl_PageText.l0 k (acc ++ (bt205.1 ++ bt207.1)) (wrap64 (z + t204)) L n (wrap64 (i + 1)) kind L else none) else none) ?_ fun k=>by simp only [impl_PageText.j2];rw [if_neg (by decide)]
 refine (iItemSize kind x (by omega) (by omega)).bind ((iShortText x.f0 (by omega)).bind ((iShortText x.f1 (by omega)).bind ?_))
 rw [w.out,pShort_small h0,pShort_small h1]
 rcases hk with c|c
 ·refine Ev.ifn (by omega) (Ev.ifp (by omega) (Ev.ifp (by rw [ByteArray.size_append];omega) ?_))
  have : txI kind x = shT x.f0 ++ shT x.f1:=by unfold txI;rw [if_pos c]
  rw [this] at h
  exact h
 have hr:=hg.resolve_left (by omega)
 have hl:=varB_lenB (n:=x.f2.toNat) (by omega)
 have e : (pVarText x.f2).1 = strOfNums (varB x.f2.toNat):=by unfold pVarText;rw [if_pos (by omega)]
 refine Ev.ifp c ((iVarText x.f2).bind ?_)
 rw [e]
 refine Ev.ifp (by rw [str_len];omega) (Ev.ifp (by rw [ByteArray.size_append,str_len];omega) ?_)
 have : txI kind x = shT x.f0 ++ strOfNums (varB x.f2.toNat):=by unfold txI;rw [if_neg (by omega)]
 rw [this] at h
 exact h
theorem iPage_go (kind : Int) (hk : kind = 1 ∨ kind = 2) (L : List S71) (hL : L.length ≤ 1048576) (hO : ∀ x ∈ L,OkIt x) : ∀ (d i : Nat) (acc : ByteArray) (z : Int),i + d = L.length → acc.size ≤ 100 + 2097162 * i → 0 ≤ z → z ≤ 2097162 * i → Ev (fun k=>impl_PageText.l0 k acc z L (L.length : Int) (i : Int) kind L) (imL kind (prevAt L i) acc z (L.drop i))
 | 0,i,acc,z,hi,ha,h0,h1=>by
  rw [List.drop_of_length_le (by omega),imL]
  refine Ev.to (f:=fun k=>if z > 54 then some noText else (impl_Sealed.f k acc).bind fun bt140=>some (bt140.1,bt140.2)) ?_ fun k=>by
   simp only [impl_PageText.l0]
   rw [if_neg (by omega)]
   rfl
  by_cases c : z > 54
  ·rw [if_pos c]
   exact Ev.ifp c (Ev.now _)
  rw [if_neg c]
  exact Ev.ifn c ((iSealed acc (by omega)).bind (Ev.now _))
 | d + 1,i,acc,z,hi,ha,h0,h1=>by
  have hlt : i < L.length:=by omega
  have hx:=hO L[i] (List.getElem_mem hlt)
  have w : wrap64 ((i : Int) + 1) = ((i + 1 : Nat) : Int):=by rw [wid (by omega) (by omega)];rfl
  rw [List.drop_eq_getElem_cons hlt,imL]
  refine Ev.to (f:=fun k=>impl_PageText.j2 k acc z L (L.length : Int) (i : Int) (!(itG kind (prevAt L i) L[i] && smI L[i])) kind L L[i].f0 L[i].f1 L[i].f2) ?_ fun k=>iPage_l kind L hL acc z i hlt k
  by_cases g : itG kind (prevAt L i) L[i] = true ∧ L[i].f0.size ≤ 54 ∧ L[i].f1.size ≤ 54
  ·rw [if_pos g,g.1,show smI L[i] = true from decide_eq_true g.2]
   have hg : kind = 1 ∨ 0 ≤ L[i].f2 ∧ L[i].f2 ≤ 399:=by
    by_cases c : kind = 1
    ·exact .inl c
    exact .inr (itG_inner g.1 c).2
   have hs:=txI_size kind L[i] hx hg
   have lo:=szT_lo kind L[i]
   have hi':=szT_hi kind L[i] hx.1 hx.2
   have ih:=iPage_go kind hk L hL hO d (i + 1) (acc ++ txI kind L[i]) (z + szT kind L[i]) (by omega) (by rw [ByteArray.size_append];omega) (by omega) (by omega)
   rw [prevAt_succ hlt] at ih
   refine iPage_j kind hk L acc z _ i L[i] g.2.1 g.2.2 hg (by omega) (by omega) (by omega) ?_
   rw [w]
   exact ih
  rw [if_neg g,show (itG kind (prevAt L i) L[i] && smI L[i]) = false from by
   unfold smI
   cases hh : itG kind (prevAt L i) L[i] with
   | false=>rfl
   | true=>rw [decide_eq_false (fun h=>g ⟨hh,h⟩)];rfl]
  exact iPage_t kind L L acc z _ i _ _ _
theorem iPageText (kind : Int) (L : List S71) (hL : L.length ≤ 1048576) (hO : ∀ x ∈ L,OkIt x) : Ev (fun k=>impl_PageText.f k kind L) (pPage kind L):=by
 have bad : Ev (fun k=>impl_PageText.j0 k true kind L) noText:=(Ev.now _).to fun k=>by simp only [impl_PageText.j0,if_true];rfl
 have main : (kind = 1 ∨ kind = 2) → Ev (fun k=>impl_PageText.j0 k ((L.length : Int) == 0) kind L) (pPage kind L):=by
  intro hk
  by_cases h0 : L = []
  ·have : pPage kind L = noText:=by unfold pPage;rw [if_neg (fun h=>h.2.1 h0)]
   rw [this,show ((L.length : Int) == 0) = true from by rw [h0];rfl]
   exact bad
  have hp : L.length ≠ 0:=fun h=>h0 (List.length_eq_zero_iff.1 h)
  rw [show ((L.length : Int) == 0) = false from beq_eq_false_iff_ne.mpr (by omega)]
  have : pPage kind L = imL kind none (headP kind L.length) 0 L:=by
   rw [imL_eq kind L none _ 0 (by omega),Int.zero_add]
   unfold pPage
   by_cases hs : sumT kind L > 54
   ·rw [if_neg (fun h=>h.2.2 hs),if_pos hs]
   rw [if_pos ⟨hk,h0,hs⟩,if_neg hs]
  rw [this]
  have hh:=headP_size kind hL
  have ih:=iPage_go kind hk L hL hO L.length 0 (headP kind L.length) 0 (by omega) (by omega) (by omega) (by omega)
  rw [List.drop_zero,show prevAt L 0 = none from rfl] at ih
  have hv:=varB_lenB hL
  have e : (pVarText (L.length : Int)).1 = strOfNums (varB L.length):=by unfold pVarText;rw [if_pos (by omega),Int.toNat_natCast]
  refine Ev.to (f:=fun k=>(impl_VarText.f k (L.length : Int)).bind fun t139=>if (strOfNums [kind % 256]).size + t139.1.size ≤ 9223372036854775807 then impl_PageText.l0 k (strOfNums [kind % 256] ++ t139.1) 0 L (L.length : Int) 0 kind L else none) ((iVarText (L.length : Int)).bind ?_) fun k=>?_
  ·rw [e]
   exact Ev.ifp (by rw [str_len,str_len];simp only [List.length_singleton];omega) ih
  simp only [impl_PageText.j0,Option.bind_some]
  rw [if_neg (by decide)]
 unfold impl_PageText.f
 by_cases h1 : kind = 1
 ·exact Ev.ifp h1 (main (.inl h1))
 by_cases h2 : kind = 2
 ·exact Ev.ifn h1 (Ev.ifp h2 (main (.inr h2)))
 have : pPage kind L = noText:=by unfold pPage;rw [if_neg (fun h=>by omega)]
 rw [this]
 exact Ev.ifn h1 (Ev.ifn h2 bad)
def inL (l : List Int) (x : Int) : Bool:=decide (x ∈ l)
theorem inL_cons (y : Int) (l : List Int) (x : Int) : inL (y :: l) x = if y = x then true else inL l x:=by
 unfold inL
 by_cases h : y = x
 ·rw [if_pos h];simp [h]
 rw [if_neg h,decide_eq_decide];simp [show ¬ x = y from fun e=>h e.symm]
/-- Numbers with one more, ascending where they were. -/
def insW (U : List Int) (x : Int) : List Int:=(U.filter (fun y=>decide (y < x)) ++ [x]) ++ U.filter (fun y=>decide (y > x))
/-- Ascending. -/
def Asc (U : List Int) : Prop:=U.Pairwise (· < ·)
theorem asc_filter {U : List Int} (h : Asc U) (p : Int → Bool) : Asc (U.filter p):=List.Pairwise.filter p h
theorem insW_asc {U : List Int} (h : Asc U) (x : Int) : Asc (insW U x):=by
 unfold insW Asc
 rw [List.pairwise_append]
 refine ⟨?_,asc_filter h _,?_⟩
 ·rw [List.pairwise_append]
  refine ⟨asc_filter h _,List.pairwise_singleton _ _,?_⟩
  intro a ha b hb
  have:=(List.mem_filter.1 ha).2
  rw [List.mem_singleton.1 hb]
  simpa using this
 intro a ha b hb
 have hb2 : x < b:=by simpa using (List.mem_filter.1 hb).2
 rcases List.mem_append.1 ha with ha|ha
 ·have : a < x:=by simpa using (List.mem_filter.1 ha).2
  omega
 rw [List.mem_singleton.1 ha];exact hb2
theorem insW_mem {U : List Int} {x y : Int} (h : y ∈ insW U x) : y = x ∨ y ∈ U:=by
 unfold insW at h
 rcases List.mem_append.1 h with h|h
 ·rcases List.mem_append.1 h with h|h
  ·exact .inr (List.mem_filter.1 h).1
  exact .inl (List.mem_singleton.1 h)
 exact .inr (List.mem_filter.1 h).1
/-- Ascending numbers of a .. b-1 are at most b - a. -/
theorem asc_len : ∀ (U : List Int) (a b : Int),Asc U → (∀ y ∈ U,a ≤ y ∧ y < b) → (U.length : Int) ≤ if a ≤ b then b - a else 0
 | [],a,b,_,_=>by split <;> simp <;> omega
 | y :: U,a,b,h,hm=>by
  have hy:=hm y List.mem_cons_self
  unfold Asc at h
  rw [List.pairwise_cons] at h
  have:=asc_len U (y + 1) b h.2 (fun z hz=>⟨by have:=h.1 z hz;omega,(hm z (List.mem_cons_of_mem _ hz)).2⟩)
  rw [if_pos (by omega)] at this
  rw [if_pos (by omega),List.length_cons]
  omega
theorem with_lo {U : List Int} (h : Asc U) (x : Int) : U.take (impl_with.at U x) = U.filter (fun y=>decide (y < x)) ∧ U.drop (impl_with.at U x) = U.filter (fun y=>decide (¬ y < x)):=by
 induction U with
 | nil=>exact ⟨rfl,rfl⟩
 | cons y U ih =>
  unfold Asc at h
  rw [List.pairwise_cons] at h
  have ih:=ih h.2
  unfold impl_with.at at ih ⊢
  by_cases c : y < x
  ·rw [List.takeWhile_cons_of_pos (by simpa using c),List.length_cons,List.take_succ_cons,List.drop_succ_cons,List.filter_cons_of_pos (by simpa using c),List.filter_cons_of_neg (by simpa using c),ih.1,ih.2]
   exact ⟨rfl,rfl⟩
  rw [List.takeWhile_cons_of_neg (by simpa using c),List.filter_cons_of_neg (by simpa using c),List.filter_cons_of_pos (by simpa using c)]
  have h1 : U.filter (fun y=>decide (y < x)) = []:=by
   rw [List.filter_eq_nil_iff]
   intro z hz
   have:=h.1 z hz
   simp only [decide_eq_true_eq]
   omega
  have h2 : U.filter (fun y=>decide (¬ y < x)) = U:=by
   rw [List.filter_eq_self]
   intro z hz
   have:=h.1 z hz
   simp only [decide_eq_true_eq]
   omega
  rw [h1,h2]
  exact ⟨rfl,rfl⟩
theorem with_eq {U : List Int} (h : Asc U) (x : Int) : impl_with.f U x = insW U x:=by
 have hl:=with_lo h x
 have hs : U = U.filter (fun y=>decide (y < x)) ++ U.filter (fun y=>decide (¬ y < x)):=by
  conv=>lhs;rw [← List.take_append_drop (impl_with.at U x) U,hl.1,hl.2]
 unfold impl_with.f insW
 by_cases c : impl_with.at U x < U.length ∧ rd U (impl_with.at U x : Int) = x
 ·rw [if_pos c]
  have hd : U.drop (impl_with.at U x) = x :: U.drop (impl_with.at U x + 1):=by
   rw [List.drop_eq_getElem_cons c.1]
   congr 1
   have:=c.2
   unfold rd at this
   rw [Int.toNat_natCast,List.getD_eq_getElem?_getD,List.getElem?_eq_getElem c.1] at this
   exact this
  rw [hl.2] at hd
  have ha : Asc (x :: U.drop (impl_with.at U x + 1)):=by rw [← hd];exact asc_filter h _
  unfold Asc at ha
  rw [List.pairwise_cons] at ha
  have hg : U.filter (fun y=>decide (y > x)) = U.drop (impl_with.at U x + 1):=by
   have h3 : U.filter (fun y=>decide (y > x)) = (U.filter (fun y=>decide (¬ y < x))).filter (fun y=>decide (y > x)):=by
    rw [List.filter_filter]
    congr 1
    funext y
    by_cases q : y > x
    ·rw [decide_eq_true q,decide_eq_true (by omega : ¬ y < x)];rfl
    rw [decide_eq_false q];rfl
   rw [h3,hd,List.filter_cons_of_neg (by simp),List.filter_eq_self]
   intro z hz
   exact decide_eq_true (ha.1 z hz)
  conv=>lhs;rw [hs,hd]
  rw [hg]
  simp
 rw [if_neg c,hl.1,hl.2]
 congr 1
 refine List.filter_congr ?_
 intro y hy
 rw [decide_eq_decide]
 constructor
 ·intro hyx
  rcases Int.lt_or_eq_of_le (Int.not_lt.1 hyx) with q|q
  ·exact q
  exfalso
  apply c
  have hm : y ∈ U.drop (impl_with.at U x):=by rw [hl.2];exact List.mem_filter.2 ⟨hy,decide_eq_true hyx⟩
  have hlt : impl_with.at U x < U.length:=by
   rcases Nat.lt_or_ge (impl_with.at U x) U.length with q|q
   ·exact q
   rw [List.drop_of_length_le q] at hm;cases hm
  refine ⟨hlt,?_⟩
  rw [List.drop_eq_getElem_cons hlt] at hm
  have hrd : rd U (impl_with.at U x : Int) = U[impl_with.at U x]:=by unfold rd;rw [Int.toNat_natCast,List.getD_eq_getElem?_getD,List.getElem?_eq_getElem hlt];rfl
  rw [hrd]
  have hge:=impl_with.at_ge hlt
  rw [hrd] at hge
  rcases List.mem_cons.1 hm with e|e
  ·omega
  have h4 : Asc (U.drop (impl_with.at U x)):=List.Pairwise.sublist (List.drop_sublist _ _) h
  rw [List.drop_eq_getElem_cons hlt] at h4
  unfold Asc at h4
  rw [List.pairwise_cons] at h4
  have:=h4.1 y e
  omega
 intro q;omega
theorem ri_Pair {xs : List S69} {i : Nat} (h : i < xs.length) : rd_T69 xs (i : Int) = xs[i]:=getD_at _ h
/-! Right maps -/
def pairOk (x : S69) : Bool:=decide (1 ≤ x.f0.size ∧ x.f0.size ≤ 8 ∧ x.f1.size ≤ 40)
def keyLt (a b : ByteArray) : Bool:=Op.bytesLess a.toList b.toList
def pairsOk : Option S69 → List S69 → Bool
 | _,[]=>true
 | none,x :: l=>pairOk x && pairsOk (some x) l
 | some p,x :: l=>pairOk x && (keyLt p.f0 x.f0 && pairsOk (some x) l)
def mapOk (l : List S69) : Bool:=decide (l.length ≤ 120) && pairsOk none l
def prevP (l : List S69) : Nat → Option S69
 | 0=>none
 | i + 1=>l[i]?
theorem prevP_succ {l : List S69} {i : Nat} (h : i < l.length) : prevP l (i + 1) = some l[i]:=List.getElem?_eq_getElem h
theorem iMO_go (l : List S69) (hl : l.length ≤ 1048576) : ∀ (d i : Nat),i + d = l.length → Ev (fun k=>impl_MapOk.l0 k l l (l.length : Int) (i : Int)) (decide (l.length ≤ 120) && pairsOk (prevP l i) (l.drop i))
 | 0,i,hi=>by
  rw [List.drop_of_length_le (by omega)]
  refine Ev.ofEq ((Ev.now (decide ((l.length : Int) ≤ 120))).to fun k=>?_) (by cases prevP l i <;> simp only [pairsOk,Bool.and_true] <;> rw [decide_eq_decide] <;> omega)
  simp only [impl_MapOk.l0]
  rw [if_neg (by omega)]
 | d + 1,i,hi=>by
  have hlt : i < l.length:=by omega
  have ih:=iMO_go l hl d (i + 1) (by omega)
  rw [List.drop_eq_getElem_cons hlt]
  have w2 : qo (wrap64 ((i : Int) + 1) = ((i + 1 : Nat) : Int)):=⟨by rw [wid (by omega) (by omega)];rfl⟩
  cases hb : pairOk l[i] with
  | false =>
   have e : pairsOk (prevP l i) (l[i] :: l.drop (i + 1)) = false:=by cases prevP l i <;> simp [pairsOk,hb]
   rw [e,Bool.and_false]
   unfold pairOk at hb
   rw [decide_eq_false_iff_not] at hb
   refine (Ev.now _).to fun k=>?_
   simp only [impl_MapOk.l0]
   rw [if_pos (by omega),if_pos (by omega),if_pos (by omega),ri_Pair hlt,i_in]
   simp only [Option.bind_some]
   by_cases h1 : 1 ≤ (l[i].f0.size : Int) ∧ (l[i].f0.size : Int) ≤ 8
   ·rw [if_pos (decide_eq_true h1),if_pos (by omega)]
   rw [if_neg (by simpa using h1)]
  | true =>
   have hb':=hb
   unfold pairOk at hb'
   rw [decide_eq_true_eq] at hb'
   rcases i with _|i
   ·have e : pairsOk (prevP l 0) (l[0] :: l.drop (0 + 1)) = pairsOk (prevP l (0 + 1)) (l.drop (0 + 1)):=by rw [prevP_succ hlt];simp [pairsOk,hb,prevP]
    rw [e]
    refine ih.to fun k=>?_
    simp only [impl_MapOk.l0]
    rw [if_pos (by omega),if_pos (by omega),if_pos (by omega),ri_Pair hlt,i_in_t (by omega)]
    simp only [Option.bind_some,if_true]
    rw [if_neg (by omega),if_neg (by omega),w2.out]
   have hlt' : i < l.length:=by omega
   have e : pairsOk (prevP l (i + 1)) (l[i + 1] :: l.drop (i + 1 + 1)) = (keyLt l[i].f0 l[i + 1].f0 && pairsOk (prevP l (i + 1 + 1)) (l.drop (i + 1 + 1))):=by rw [prevP_succ hlt',prevP_succ hlt];simp [pairsOk,hb]
   rw [e]
   have w1 : qo (wrap64 (((i + 1 : Nat) : Int) - 1) = (i : Int)):=⟨by rw [wid (by omega) (by omega)];omega⟩
   cases hk : keyLt l[i].f0 l[i + 1].f0 with
   | false =>
    rw [Bool.false_and,Bool.and_false]
    refine (Ev.now _).to fun k=>?_
    simp only [impl_MapOk.l0]
    rw [if_pos (by omega),if_pos (by omega),if_pos (by omega),ri_Pair hlt,i_in_t (by omega)]
    simp only [Option.bind_some,if_true]
    rw [if_neg (by omega),if_pos (by omega),w1.out,if_pos (by omega),if_pos (by omega),ri_Pair hlt',if_neg (by unfold keyLt at hk;rw [hk];decide)]
   | true =>
    rw [Bool.true_and]
    refine ih.to fun k=>?_
    simp only [impl_MapOk.l0]
    rw [if_pos (by omega),if_pos (by omega),if_pos (by omega),ri_Pair hlt,i_in_t (by omega)]
    simp only [Option.bind_some,if_true]
    rw [if_neg (by omega),if_pos (by omega),w1.out,if_pos (by omega),if_pos (by omega),ri_Pair hlt',if_pos (show Op.bytesLess l[i].f0.toList l[i + 1].f0.toList = true from hk),w2.out]
theorem iMapOk (l : List S69) (hl : l.length ≤ 1048576) : Ev (fun k=>impl_MapOk.f k l) (mapOk l):=by
 unfold impl_MapOk.f mapOk
 exact iMO_go l hl l.length 0 (by omega)
theorem ri_Put {xs : List S96} {i : Nat} (h : i < xs.length) : rd_T96 xs (i : Int) = xs[i]:=getD_at _ h
/-! Right devices -/
def putOk (n : Nat) (p : S96) : Bool:=decide (0 ≤ p.f0 ∧ p.f0 < (n : Int) ∧ p.f1.size ≤ 64)
def devOk (s : List ByteArray) (p : List S96) : Bool:=decide (1 ≤ s.length ∧ s.length ≤ 400 ∧ p.length ≤ 400) && ((s.all fun x=>decide (x.size ≤ 64)) && (p.all fun x=>putOk s.length x))
theorem devOk_t {s : List ByteArray} {p : List S96} (h : devOk s p = true) : (1 ≤ s.length ∧ s.length ≤ 400 ∧ p.length ≤ 400) ∧ (∀ x ∈ s,x.size ≤ 64) ∧ ∀ x ∈ p,0 ≤ x.f0 ∧ x.f0 < (s.length : Int) ∧ x.f1.size ≤ 64:=by
 unfold devOk putOk at h
 simp only [Bool.and_eq_true,decide_eq_true_eq,List.all_eq_true] at h
 exact h
theorem devOk_mk {s : List ByteArray} {p : List S96} (h : (1 ≤ s.length ∧ s.length ≤ 400 ∧ p.length ≤ 400) ∧ (∀ x ∈ s,x.size ≤ 64) ∧ ∀ x ∈ p,0 ≤ x.f0 ∧ x.f0 < (s.length : Int) ∧ x.f1.size ≤ 64) : devOk s p = true:=by
 unfold devOk putOk
 simp only [Bool.and_eq_true,decide_eq_true_eq,List.all_eq_true]
 exact h
theorem iDO_l1 (s : List ByteArray) (p : List S96) (hs : s.length ≤ 400) (hp : p.length ≤ 1048576) : ∀ (d i : Nat),i + d = p.length → Ev (fun k=>impl_DeviceOk.l1 k p (p.length : Int) (i : Int) s p) ((p.drop i).all fun x=>putOk s.length x)
 | 0,i,hi=>by
  rw [List.drop_of_length_le (by omega)]
  exact (Ev.now _).to fun k=>by simp only [impl_DeviceOk.l1];rw [if_neg (by omega)];rfl
 | d + 1,i,hi=>by
  have hlt : i < p.length:=by omega
  have ih:=iDO_l1 s p hs hp d (i + 1) (by omega)
  rw [List.drop_eq_getElem_cons hlt,List.all_cons]
  have w : qo (wrap64 ((s.length : Int) - 1) = (s.length : Int) - 1):=⟨wid (by omega) (by omega)⟩
  cases hb : putOk s.length p[i] with
  | false =>
   rw [Bool.false_and]
   refine (Ev.now _).to fun k=>?_
   simp only [impl_DeviceOk.l1]
   rw [if_pos (by omega),if_pos (by omega),if_pos (by omega),ri_Put hlt,w.out,i_in]
   simp only [Option.bind_some]
   unfold putOk at hb
   rw [decide_eq_false_iff_not] at hb
   by_cases h : 0 ≤ p[i].f0 ∧ p[i].f0 ≤ (s.length : Int) - 1
   ·rw [if_pos (decide_eq_true h),if_pos (by omega)]
   rw [if_neg (by simpa using h)]
  | true =>
   rw [Bool.true_and]
   refine ih.to fun k=>?_
   simp only [impl_DeviceOk.l1]
   rw [if_pos (by omega),if_pos (by omega),if_pos (by omega),ri_Put hlt,w.out,i_in]
   simp only [Option.bind_some]
   unfold putOk at hb
   rw [decide_eq_true_eq] at hb
   rw [if_pos (decide_eq_true ⟨hb.1,by omega⟩),if_neg (by omega),wid (by omega) (by omega)]
   rfl
theorem iDO_l0 (s : List ByteArray) (p : List S96) (hs : s.length ≤ 400) (hp : p.length ≤ 1048576) : ∀ (d i : Nat),i + d = s.length → Ev (fun k=>impl_DeviceOk.l0 k s (s.length : Int) (i : Int) s p) (((s.drop i).all fun x=>decide (x.size ≤ 64)) && (p.all fun x=>putOk s.length x))
 | 0,i,hi=>by
  rw [List.drop_of_length_le (by omega)]
  refine Ev.to (iDO_l1 s p hs hp p.length 0 (by omega)) fun k=>?_
  simp only [impl_DeviceOk.l0];rw [if_neg (by omega)];rfl
 | d + 1,i,hi=>by
  have hlt : i < s.length:=by omega
  have ih:=iDO_l0 s p hs hp d (i + 1) (by omega)
  rw [List.drop_eq_getElem_cons hlt,List.all_cons]
  by_cases hb : s[i].size ≤ 64
  ·rw [decide_eq_true hb,Bool.true_and]
   refine ih.to fun k=>?_
   simp only [impl_DeviceOk.l0]
   rw [if_pos (by omega),if_pos (by omega),if_pos (by omega),rdOf_at _ hlt,if_neg (by omega),wid (by omega) (by omega)]
   rfl
  rw [decide_eq_false hb,Bool.false_and,Bool.false_and]
  refine (Ev.now _).to fun k=>?_
  simp only [impl_DeviceOk.l0]
  rw [if_pos (by omega),if_pos (by omega),if_pos (by omega),rdOf_at _ hlt,if_pos (by omega)]
theorem iDeviceOk (s : List ByteArray) (p : List S96) (hs : s.length ≤ 1048576) (hp : p.length ≤ 1048576) : Ev (fun k=>impl_DeviceOk.f k s p) (devOk s p):=by
 unfold impl_DeviceOk.f devOk
 by_cases h : 1 ≤ (s.length : Int) ∧ (s.length : Int) ≤ 400
 ·rw [i_in_t h]
  simp only [Option.bind_some,if_true]
  by_cases h2 : p.length ≤ 400
  ·rw [decide_eq_false (show ¬ (p.length : Int) > 400 by omega),decide_eq_true (show 1 ≤ s.length ∧ s.length ≤ 400 ∧ p.length ≤ 400 by omega),Bool.true_and]
   exact (iDO_l0 s p (by omega) hp s.length 0 (by omega)).to fun k=>by simp only [impl_DeviceOk.j0];rw [if_neg (by decide)];rfl
  rw [decide_eq_true (show (p.length : Int) > 400 by omega),decide_eq_false (show ¬ (1 ≤ s.length ∧ s.length ≤ 400 ∧ p.length ≤ 400) by omega),Bool.false_and]
  exact (Ev.now _).to fun k=>by simp only [impl_DeviceOk.j0,if_true]
 rw [i_in_f h,decide_eq_false (show ¬ (1 ≤ s.length ∧ s.length ≤ 400 ∧ p.length ≤ 400) by omega),Bool.false_and]
 simp only [Option.bind_some,Bool.false_eq_true,if_false]
 exact (Ev.now _).to fun k=>by simp only [impl_DeviceOk.j0,if_true]
def pWrite (s : List ByteArray) (p : List S96) (a : Int) (t : ByteArray) : List ByteArray × List S96 × Bool:=if devOk s p = true ∧ putOk s.length ⟨a,t⟩ = true ∧ p.length < 400 then (s,p ++ [⟨a,t⟩],true) else ([],[],false)
theorem pWrite_t {s : List ByteArray} {p : List S96} {a : Int} {t : ByteArray} (h : devOk s p = true ∧ putOk s.length ⟨a,t⟩ = true ∧ p.length < 400) : pWrite s p a t = (s,p ++ [⟨a,t⟩],true):=by unfold pWrite;exact if_pos h
theorem pWrite_f {s : List ByteArray} {p : List S96} {a : Int} {t : ByteArray} (h : ¬ (devOk s p = true ∧ putOk s.length ⟨a,t⟩ = true ∧ p.length < 400)) : pWrite s p a t = ([],[],false):=by unfold pWrite;exact if_neg h
theorem devOk_put (s : List ByteArray) (p : List S96) (x : S96) (h : devOk s p = true) : devOk s (p ++ [x]) = true ↔ putOk s.length x = true ∧ p.length < 400:=by
 obtain ⟨h1,h2,h3⟩:=devOk_t h
 unfold putOk
 rw [decide_eq_true_eq]
 constructor
 ·intro g
  obtain ⟨g1,_,g3⟩:=devOk_t g
  rw [List.length_append] at g1
  have:=g3 x (by simp)
  exact ⟨this,by simp at g1;omega⟩
 rintro ⟨g1,g2⟩
 refine devOk_mk ⟨⟨h1.1,h1.2.1,by rw [List.length_append];simp;omega⟩,h2,fun y hy=>?_⟩
 rcases List.mem_append.1 hy with hy|hy
 ·exact h3 y hy
 rw [List.mem_singleton.1 hy];exact g1
theorem icopyDevice (s : List ByteArray) (p : List S96) (hs : s.length ≤ 10000000) (hp : p.length ≤ 10000000) : impl_copyDevice.f s p = some (s,p):=by
 unfold impl_copyDevice.f
 simp only [List.length_nil,List.nil_append]
 rw [if_pos (by omega),if_pos (by omega)]
theorem iWriteSector (s : List ByteArray) (p : List S96) (a : Int) (t : ByteArray) (hs : s.length ≤ 1048576) (hp : p.length ≤ 1048576) : Ev (fun k=>impl_WriteSector.f k s p a t) (pWrite s p a t):=by
 unfold impl_WriteSector.f
 rw [icopyDevice s p (by omega) (by omega)]
 simp only [Option.bind_some]
 refine Ev.ifp (by omega) ((iDeviceOk s p hs hp).bind ?_)
 by_cases h : devOk s p = true
 ·refine Ev.ifp h ((iDeviceOk s _ hs (by rw [List.length_append];have:=(devOk_t h).1;simp;omega)).bind ?_)
  by_cases h4 : devOk s (p ++ [⟨a,t⟩]) = true
  ·rw [pWrite_t ⟨h,(devOk_put s p _ h).1 h4⟩]
   exact Ev.ifp h4 (Ev.now _)
  rw [pWrite_f (fun g=>h4 ((devOk_put s p _ h).2 g.2))]
  exact Ev.ifn h4 (Ev.now _)
 rw [pWrite_f (fun g=>h g.1)]
 exact Ev.ifn h (Ev.now _)
def readF (a : Int) (acc : ByteArray) (p : List S96) : ByteArray:=p.foldl (fun acc x=>if x.f0 = a then x.f1 else acc) acc
theorem readF_snoc (a : Int) (acc : ByteArray) (p : List S96) (x : S96) : readF a acc (p ++ [x]) = if x.f0 = a then x.f1 else readF a acc p:=by unfold readF;rw [List.foldl_append];rfl
theorem readF_cons (a : Int) (acc : ByteArray) (p : List S96) (x : S96) : readF a acc (x :: p) = readF a (if x.f0 = a then x.f1 else acc) p:=rfl
def secAt (s : List ByteArray) (a : Int) : ByteArray:=rdOf ByteArray.empty s a
def pReadSector (s : List ByteArray) (p : List S96) (a : Int) : ByteArray × Bool:=if devOk s p = true ∧ 0 ≤ a ∧ a < s.length then (readF a (secAt s a) p,true) else (⟨#[]⟩,false)
theorem iRS_go (s : List ByteArray) (p : List S96) (a : Int) (hp : p.length ≤ 1048576) (h0 : 0 ≤ a) (h1 : a < s.length) : ∀ (i : Nat),i ≤ p.length → Ev (fun k=>impl_readSector.l0 k a ((i : Int) - 1) s p) (readF a (secAt s a) (p.take i))
 | 0,hi=>by
  refine (Ev.now _).to fun k=>?_
  simp only [impl_readSector.l0]
  rw [if_neg (by omega),if_pos h0,if_pos h1]
  rfl
 | i + 1,hi=>by
  have hlt : i < p.length:=by omega
  have e : ((i + 1 : Nat) : Int) - 1 = (i : Int):=by omega
  have w : qo (wrap64 ((i : Int) - 1) = (i : Int) - 1):=⟨wid (by omega) (by omega)⟩
  rw [e,List.take_succ_eq_append_getElem hlt,readF_snoc]
  by_cases h : p[i].f0 = a
  ·rw [if_pos h]
   refine (Ev.now _).to fun k=>?_
   simp only [impl_readSector.l0]
   rw [if_pos (by omega),if_pos (by omega),if_pos (by omega),ri_Put hlt,if_pos h]
  rw [if_neg h]
  refine (iRS_go s p a hp h0 h1 i (by omega)).to fun k=>?_
  simp only [impl_readSector.l0]
  rw [if_pos (by omega),if_pos (by omega),if_pos (by omega),ri_Put hlt,if_neg h,w.out]
theorem ireadSector (s : List ByteArray) (p : List S96) (a : Int) (hp : p.length ≤ 1048576) (h0 : 0 ≤ a) (h1 : a < s.length) : Ev (fun k=>impl_readSector.f k s p a) (readF a (secAt s a) p):=by
 unfold impl_readSector.f
 rw [wid (by omega) (by omega)]
 have:=iRS_go s p a hp h0 h1 p.length (by omega)
 rwa [List.take_length] at this
theorem ihasInt_go (l : List Int) (x : Int) (hl : l.length ≤ 100000000) : ∀ (d i : Nat),i + d = l.length → Ev (fun k=>impl_hasInt.l0 k x l (l.length : Int) (i : Int)) (inL (l.drop i) x)
 | 0,i,hi=>by
  rw [List.drop_of_length_le (by omega)]
  exact (Ev.now _).to fun k=>by simp only [impl_hasInt.l0];rw [if_neg (by omega)];rfl
 | d + 1,i,hi=>by
  have hlt : i < l.length:=by omega
  have w2 : qo (wrap64 ((i : Int) + 1) = ((i + 1 : Nat) : Int)):=⟨by rw [wid (by omega) (by omega)];rfl⟩
  rw [List.drop_eq_getElem_cons hlt,inL_cons]
  by_cases h : l[i] = x
  ·rw [if_pos h]
   refine (Ev.now _).to fun k=>?_
   simp only [impl_hasInt.l0]
   rw [if_pos (by omega),if_pos (by omega),if_pos (by omega),rd_at hlt,if_pos h]
  rw [if_neg h]
  refine (ihasInt_go l x hl d (i + 1) (by omega)).to fun k=>?_
  simp only [impl_hasInt.l0]
  rw [if_pos (by omega),if_pos (by omega),if_pos (by omega),rd_at hlt,if_neg h,w2.out]
theorem ihasInt (l : List Int) (x : Int) (hl : l.length ≤ 100000000) : Ev (fun k=>impl_hasInt.f k l x) (inL l x):=by
 unfold impl_hasInt.f
 exact ihasInt_go l x hl l.length 0 (by omega)
theorem txI_sz {kind : Int} (hk : kind = 1 ∨ kind = 2) {prev : Option ByteArray} {x : S71} (h : itG kind prev x = true) : ((txI kind x).size : Int) = szT kind x:=by
 unfold txI szT
 rw [ByteArray.size_append]
 by_cases c : kind = 1
 ·rw [if_pos c,if_pos c];omega
 have:=itG_inner h c
 rw [if_neg c,if_neg c]
 unfold pVarText
 rw [if_pos (by omega)]
 simp only
 omega
theorem spL_sz {kind : Int} (hk : kind = 1 ∨ kind = 2) {s : ByteArray} : ∀ (l : List S71) (prev : Option ByteArray) (acc : ByteArray),spL kind prev acc l = (s,true) → (s.size : Int) ≤ acc.size + sumT kind l + 4
 | [],prev,acc,h=>by
  unfold spL pSealed at h
  split at h
  ·cases h
  injection h with h _
  rw [← h,ByteArray.size_append,str_len,four_len]
  unfold sumT
  simp
 | x :: l,prev,acc,h=>by
  unfold spL at h
  by_cases c : itG kind prev x = true
  ·rw [if_pos c] at h
   have ih:=spL_sz hk l _ _ h
   rw [ByteArray.size_append] at ih
   have:=txI_sz hk c
   rw [sumT_cons]
   omega
  rw [if_neg c] at h
  unfold noText at h
  cases h
theorem pPage_sz {kind : Int} {l : List S71} {s : ByteArray} (h : pPage kind l = (s,true)) : s.size ≤ 64:=by
 unfold pPage at h
 split at h
 ·rename_i c
  obtain ⟨hk,hl,hs⟩:=c
  have h1:=spL_sz hk l _ _ h
  have h2:=sumT_lo kind l
  have h3:=headP_size kind (n:=l.length) (by omega)
  omega
 unfold noText at h
 cases h
/-- The first sector from i on that isn't free and reads as the text. -/
def fnd (S : List ByteArray) (P : List S96) (F : List Int) (t : ByteArray) : Nat → Nat → Option Nat
 | 0,_=>none
 | d + 1,i=>if inL F (i : Int) = true then fnd S P F t d (i + 1) else if (readF (i : Int) (secAt S (i : Int)) P).toList = t.toList then some i else fnd S P F t d (i + 1)
theorem fnd_lt {S : List ByteArray} {P : List S96} {F : List Int} {t : ByteArray} : ∀ (d i j : Nat),fnd S P F t d i = some j → i ≤ j ∧ j < i + d
 | 0,i,j,h=>by cases h
 | d + 1,i,j,h=>by
  unfold fnd at h
  split at h
  ·have:=fnd_lt d (i + 1) j h;omega
  split at h
  ·injection h with h;omega
  have:=fnd_lt d (i + 1) j h;omega
theorem iFind (S : List ByteArray) (P : List S96) (F : List Int) (t : ByteArray) (hP : P.length ≤ 400) (hF : F.length ≤ 1048576) : ∀ (d i : Nat),i + d = S.length → impl_page.find S P F t d i = some (fnd S P F t d i)
 | 0,i,hi=>by unfold impl_page.find fnd;rfl
 | d + 1,i,hi=>by
  have ih:=iFind S P F t hP hF d (i + 1) (by omega)
  unfold impl_page.find fnd
  rw [ev_lim (ihasInt F (i : Int) (by omega)),Option.bind_some]
  split
  ·exact ih
  rw [ev_lim (ireadSector S P (i : Int) (by omega) (by omega) (by omega)),Option.bind_some]
  split
  ·rfl
  exact ih
/-- Where a page is put, and the builder behind it; none: nowhere. -/
def pgF (S : List ByteArray) (P : List S96) (F L U : List Int) (kind : Int) (it : List S71) : Option (Int × List S96 × List Int × List Int) :=
 if (pPage kind it).2 = false then none else match fnd S P F (pPage kind it).1 S.length 0 with
  | some i=>some ((i : Int),P,L,insW U (i : Int))
  | none=>if L.length = 0 ∨ ¬ P.length < 400 then none else some (rd L 0,P ++ [⟨rd L 0,(pPage kind it).1⟩],L.drop 1,insW U (rd L 0))
structure Inv (S : List ByteArray) (P : List S96) (L U : List Int) : Prop where
 dev : devOk S P = true
 left : ∀ x ∈ L,0 ≤ x ∧ x < (S.length : Int)
 asc : Asc U
 used : ∀ x ∈ U,0 ≤ x ∧ x < (S.length : Int)
theorem Inv.ul {S : List ByteArray} {P : List S96} {L U : List Int} (h : Inv S P L U) : U.length ≤ 400:=by
 have h1:=asc_len U 0 S.length h.asc h.used
 have h2:=(devOk_t h.dev).1
 rw [if_pos (by omega)] at h1
 omega
theorem rd_0 {L : List Int} (h : ¬ L.length = 0) : rd L 0 ∈ L:=by
 have:=List.getElem_mem (l:=L) (n:=0) (by omega)
 unfold rd
 rw [Int.toNat_zero,List.getD_eq_getElem?_getD,List.getElem?_eq_getElem (by omega)]
 exact this
theorem ins_in {S : List ByteArray} {P : List S96} {L U : List Int} (h : Inv S P L U) {x : Int} (hx : 0 ≤ x ∧ x < (S.length : Int)) : ∀ y ∈ insW U x,0 ≤ y ∧ y < (S.length : Int):=by
 intro y hy
 rcases insW_mem hy with rfl|hy
 ·exact hx
 exact h.used y hy
theorem pgF_inv {S : List ByteArray} {P P' : List S96} {F L L' U U' : List Int} {kind r : Int} {it : List S71} (h : Inv S P L U) (hp : pgF S P F L U kind it = some (r,P',L',U')) : Inv S P' L' U' ∧ 0 ≤ r ∧ r < (S.length : Int):=by
 unfold pgF at hp
 split at hp
 ·cases hp
 rename_i hok
 split at hp
 ·rename_i i hi
  injection hp with hp
  simp only [Prod.mk.injEq] at hp
  obtain ⟨rfl,rfl,rfl,rfl⟩:=hp
  have hlt:=fnd_lt _ _ _ hi
  exact ⟨⟨h.dev,h.left,insW_asc h.asc _,ins_in h (by omega)⟩,by omega,by omega⟩
 split at hp
 ·cases hp
 rename_i hc
 injection hp with hp
 simp only [Prod.mk.injEq] at hp
 obtain ⟨rfl,rfl,rfl,rfl⟩:=hp
 have hr:=h.left _ (rd_0 (L:=L) (by omega))
 have hz : (pPage kind it).1.size ≤ 64:=pPage_sz (kind:=kind) (l:=it) (s:=(pPage kind it).1) (by
  cases hpp : pPage kind it with
  | mk a b=>rw [hpp] at hok;simp only at hok ⊢;rw [show b = true by simpa using hok])
 refine ⟨⟨(devOk_put S P _ h.dev).2 ⟨?_,by omega⟩,fun x hx=>h.left x (List.mem_of_mem_drop hx),insW_asc h.asc _,ins_in h hr⟩,hr.1,hr.2⟩
 unfold putOk
 exact decide_eq_true ⟨hr.1,hr.2,hz⟩
theorem iPlace {S : List ByteArray} {P : List S96} {F L U : List Int} {kind : Int} {it : List S71} (h : Inv S P L U) (hF : F.length ≤ 1048576) (hl : it.length ≤ 1048576) (ho : ∀ x ∈ it,OkIt x) :
  impl_page.f S P F L U kind it = some (match pgF S P F L U kind it with|none=>(-1,S,P,L,U)|some q=>(q.1,S,q.2.1,q.2.2.1,q.2.2.2)):=by
 have hd:=(devOk_t h.dev).1
 have hul:=h.ul
 unfold impl_page.f pgF
 rw [ev_lim (iPageText kind it hl ho),Option.bind_some,if_pos (by omega)]
 by_cases c : (pPage kind it).2 = false
 ·rw [if_pos c,if_pos c]
 rw [if_neg c,if_neg c,iFind S P F _ (by omega) hF S.length 0 (by omega),Option.bind_some]
 cases fnd S P F (pPage kind it).1 S.length 0 with
 | some i =>
  simp only
  rw [with_eq h.asc]
 | none =>
  simp only
  by_cases c1 : L.length = 0
  ·rw [if_pos c1,if_pos (.inl c1)]
  have hr:=h.left _ (rd_0 c1)
  have hz : (pPage kind it).1.size ≤ 64:=pPage_sz (kind:=kind) (l:=it) (s:=(pPage kind it).1) (by
   cases hpp : pPage kind it with
   | mk a b=>rw [hpp] at c;simp only at c ⊢;rw [show b = true by simpa using c])
  have hpo : putOk S.length ⟨rd L 0,(pPage kind it).1⟩ = true:=by unfold putOk;exact decide_eq_true ⟨hr.1,hr.2,hz⟩
  rw [if_neg c1,ev_lim (iWriteSector S P (rd L 0) (pPage kind it).1 (by omega) (by omega)),Option.bind_some]
  by_cases c2 : P.length < 400
  ·rw [pWrite_t ⟨h.dev,hpo,c2⟩,if_neg (by simp),if_neg (by omega)]
   simp only
   rw [with_eq h.asc]
  rw [pWrite_f (fun g=>c2 g.2.2),if_pos rfl,if_pos (.inr c2)]
/-- The groups of a level placed one behind another: the builder, the last place, the next level's items; none: one couldn't be placed. -/
def gsF (S : List ByteArray) (F : List Int) (kind : Int) : List (List S71) → List S96 → List Int → List Int → Int → List S71 → Option (List S96 × List Int × List Int × Int × List S71)
 | [],P,L,U,r,n=>some (P,L,U,r,n)
 | it :: gs,P,L,U,_,n=>match pgF S P F L U kind it with
  | none=>none
  | some q=>gsF S F kind gs q.2.1 q.2.2.1 q.2.2.2 q.1 (n ++ [⟨(rd_T71 it 0).f0,⟨#[]⟩,q.1⟩])
/-- An item of an inner level. -/
def InnI (n : Nat) (x : S71) : Prop:=x.f0.size ≤ 8 ∧ x.f1.size = 0 ∧ 0 ≤ x.f2 ∧ x.f2 < (n : Int)
theorem cut_len (kind : Int) : ∀ (l g : List S71),(cutP kind g l).length ≤ (if g.length > 0 then 1 else 0) + l.length
 | [],g=>by
  unfold cutP
  split <;> simp
 | x :: l,g=>by
  have h0:=cut_len kind l []
  have h1:=cut_len kind l [x]
  have h2:=cut_len kind l (g ++ [x])
  simp only [List.length_nil,List.length_singleton,List.length_append] at h0 h1 h2
  rw [if_neg (by omega)] at h0
  rw [if_pos (by omega)] at h1 h2
  unfold cutP
  rw [List.length_cons]
  split
  ·rename_i c
   rw [if_pos c.1]
   split
   ·simp only [List.length_cons];omega
   simp only [List.length_cons];omega
  split
  ·simp only [List.length_cons];omega
  omega
theorem cut_ne {kind : Int} {l : List S71} (h : ¬ l.length = 0) : 0 < (cutP kind [] l).length:=by
 have:=(cutP_ok kind l [] (fun h=>by simp at h)).1
 rcases Nat.eq_zero_or_pos (cutP kind [] l).length with e|e
 ·rw [List.length_eq_zero_iff.1 e] at this
  have e2 : l = []:=by simpa using this.symm
  rw [e2] at h
  simp at h
 exact e
theorem inn_sz {n : Nat} {x : S71} (h : InnI n x) : szI 2 x ≤ 27:=by
 have h1:=pVar_size x.f2
 unfold szI pShort
 rw [if_neg (by decide),if_pos rfl,if_neg (by have:=h.1;omega)]
 simp only
 rw [ByteArray.size_append,str_len]
 have:=varB_len5 (n:=x.f0.size) (by have:=h.1;omega)
 have:=h.1
 omega
/-- What a level's items are like. -/
def LvI (kind : Int) (n : Nat) (its : List S71) : Prop:=(kind = 1 ∧ ∀ x ∈ its,x.f0.size ≤ 8 ∧ x.f1.size ≤ 40) ∨ (kind = 2 ∧ ∀ x ∈ its,InnI n x)
theorem LvI.sm {kind : Int} {n : Nat} {its : List S71} (h : LvI kind n its) : (kind = 1 ∨ kind = 2) ∧ ∀ x ∈ its,x.f0.size ≤ 8 ∧ x.f1.size ≤ 40:=by
 rcases h with ⟨rfl,h⟩|⟨rfl,h⟩
 ·exact ⟨.inl rfl,h⟩
 exact ⟨.inr rfl,fun x hx=>⟨(h x hx).1,by rw [(h x hx).2.1];omega⟩⟩
theorem flat_len {α : Type} {it : List α} : ∀ (gs : List (List α)),it ∈ gs → it.length ≤ gs.flatten.length
 | g :: gs,h=>by
  rw [List.flatten_cons,List.length_append]
  rcases List.mem_cons.1 h with rfl|h
  ·omega
  have:=flat_len gs h;omega
/-! Keys in order -/
def ltI : List Int → List Int → Bool
 | _,[]=>false
 | [],_ :: _=>true
 | a :: x,b :: y=>decide (a < b) || (decide (a = b) && ltI x y)
theorem bytesLess_map : ∀ a b : List UInt8,Op.bytesLess a b = ltI (a.map fun b=>(b.toNat : Int)) (b.map fun b=>(b.toNat : Int))
 | [],[]=>rfl
 | _ :: _,[]=>rfl
 | [],_ :: _=>rfl
 | a :: x,b :: y=>by
  rw [Op.bytesLess,List.map_cons,List.map_cons,ltI,bytesLess_map x y]
  congr 1
  ·rw [decide_eq_decide,UInt8.lt_iff_toNat_lt];omega
  congr 1
  rw [Bool.eq_iff_iff,beq_iff_eq,decide_eq_true_eq]
  constructor
  ·rintro rfl;rfl
  intro h;exact UInt8.toNat_inj.1 (by omega)
theorem keyLt_bl (a b : ByteArray) : keyLt a b = ltI (bl a) (bl b):=by
 unfold keyLt bl
 rw [bytesLess_map,ByteArray.toList_eq,ByteArray.toList_eq]
theorem ltI_irr : ∀ a : List Int,ltI a a = false
 | []=>rfl
 | a :: x=>by rw [ltI,ltI_irr x];simp
theorem ltI_trans : ∀ a b c : List Int,ltI a b = true → ltI b c = true → ltI a c = true
 | _,[],_,h,_=>by simp [ltI] at h
 | _,_ :: _,[],_,h=>by simp [ltI] at h
 | [],_ :: _,_ :: _,_,_=>rfl
 | a :: x,b :: y,c :: z,h1,h2=>by
  have ih:=ltI_trans x y z
  simp only [ltI,Bool.or_eq_true,Bool.and_eq_true,decide_eq_true_eq] at h1 h2 ⊢
  rcases h1 with h1|⟨rfl,h1⟩
  ·rcases h2 with h2|⟨rfl,h2⟩
   ·exact .inl (by omega)
   exact .inl h1
  rcases h2 with h2|⟨rfl,h2⟩
  ·exact .inl h2
  exact .inr ⟨rfl,ih h1 h2⟩
theorem keyLt_irr (a : ByteArray) : keyLt a a = false:=by rw [keyLt_bl,ltI_irr]
theorem keyLt_trans {a b c : ByteArray} (h1 : keyLt a b = true) (h2 : keyLt b c = true) : keyLt a c = true:=by
 rw [keyLt_bl] at h1 h2 ⊢
 exact ltI_trans _ _ _ h1 h2
theorem pReadVar_some {s : ByteArray} {a n next : Int} (h : pReadVar s a = (n,next,true)) : ∃ c : Nat,0 ≤ a ∧ next = a + c ∧ (bl s).drop a.toNat = varB n.toNat ++ (bl s).drop next.toNat ∧ c = (varB n.toNat).length ∧ a + c ≤ s.size ∧ 0 ≤ n ∧ n ≤ 1000000000:=by
 unfold pReadVar at h
 by_cases h0 : 0 ≤ a ∧ a ≤ s.size
 ·rw [if_pos h0] at h
  cases hr : rv ((bl s).drop a.toNat) with
  | none=>rw [hr] at h;simp [rvRes] at h
  | some p =>
   obtain ⟨m,c⟩:=p
   rw [hr] at h
   simp only [rvRes,Prod.mk.injEq,and_true] at h
   obtain ⟨rfl,rfl⟩:=h
   obtain ⟨rest,e,hc,h1,h2⟩:=rv_some ((bl_byt s).drop _) hr
   have hl:=congrArg List.length e
   rw [List.length_drop,List.length_append,bl_len] at hl
   refine ⟨c,h0.1,rfl,?_,hc,by omega,h1,h2⟩
   have hd : rest = (bl s).drop (a + c).toNat:=by
    have:=congrArg (List.drop c) e
    rw [List.drop_drop,hc,List.drop_left] at this
    rw [← this]
    congr 1
    omega
   rw [e,hd]
 rw [if_neg h0] at h;simp at h
theorem pReadVar_cases (s : ByteArray) (a : Int) : pReadVar s a = (0,0,false) ∨ ∃ n next,pReadVar s a = (n,next,true):=by
 unfold pReadVar
 split
 ·cases rv ((bl s).drop a.toNat) with
  | none=>exact .inl rfl
  | some p=>exact .inr ⟨_,_,rfl⟩
 exact .inl rfl
def pReadShort (s : ByteArray) (a : Int) : ByteArray × Int × Bool :=
 if (pReadVar s a).2.2 = true ∧ (pReadVar s a).1 ≤ 8000 ∧ (pReadVar s a).1 ≤ s.size - (pReadVar s a).2.1 then (s.extract (pReadVar s a).2.1.toNat ((pReadVar s a).2.1 + (pReadVar s a).1).toNat,(pReadVar s a).2.1 + (pReadVar s a).1,true) else (⟨#[]⟩,0,false)
def cutB (s : ByteArray) : ByteArray:=s.extract 0 (s.size - 4)
def pUnsealed (s : ByteArray) : ByteArray × Bool:=if 4 ≤ s.size ∧ s.size - 4 ≤ 8000 ∧ (bl s).drop (s.size - 4) = four (sumB (cutB s)) then (cutB s,true) else (⟨#[]⟩,false)
theorem cutB_bl (s : ByteArray) : bl (cutB s) = (bl s).take (s.size - 4):=by unfold cutB;rw [bl_ext,List.drop_zero]
theorem cutB_size (s : ByteArray) : (cutB s).size = s.size - 4:=by rw [bl_size,cutB_bl,List.length_take,bl_len];omega
/-! Roots -/
def two (n : Int) : List Int:=[(n / 256) % 256,n % 256]
theorem bt_nat (s : ByteArray) (i : Nat) : bt s (i : Int) = (bl s).getD i 0:=by rw [bt_bl,Int.toNat_natCast]
/-- What is sealed is unsealed. -/
theorem unseal_seal (x : ByteArray) (h : x.size ≤ 8000) : pUnsealed (x ++ strOfNums (four (sumB x))) = (x,true):=by
 have hs : (x ++ strOfNums (four (sumB x))).size = x.size + 4:=by rw [ByteArray.size_append,str_len];rfl
 have hb : bl (x ++ strOfNums (four (sumB x))) = bl x ++ four (sumB x):=by rw [bl_app,bl_str (four_byt _)]
 have hc : cutB (x ++ strOfNums (four (sumB x))) = x:=by
  apply bl_inj
  rw [cutB_bl,hs,hb,Nat.add_sub_cancel,← bl_len x,List.take_left]
 unfold pUnsealed
 rw [hc,if_pos]
 refine ⟨by omega,by omega,?_⟩
 rw [hb,hs,Nat.add_sub_cancel,← bl_len x,List.drop_left]
/-! Pages read back -/
abbrev It:=S71
def noB : ByteArray:=⟨#[]⟩
def spG (kind : Int) (b : ByteArray) : Nat → Int → Bool → List It → Bool × List It
 | 0,_,r,acc=>(r,acc)
 | d + 1,a,r,acc=>if r = true then (if (pReadShort b a).2.2 = true then (if kind = 1 then spG kind b d (pReadShort b (pReadShort b a).2.1).2.1 (pReadShort b (pReadShort b a).2.1).2.2 (acc ++ [⟨(pReadShort b a).1,(pReadShort b (pReadShort b a).2.1).1,0⟩]) else spG kind b d (pReadVar b (pReadShort b a).2.1).2.1 (pReadVar b (pReadShort b a).2.1).2.2 (acc ++ [⟨(pReadShort b a).1,noB,(pReadVar b (pReadShort b a).2.1).1⟩])) else (false,acc ++ [⟨(pReadShort b a).1,noB,0⟩])) else (false,acc)
def rS (b : ByteArray) (a : Int) (bad : Bool) : ByteArray × Int × Bool:=if bad = true then (noB,a,true) else if (pReadShort b a).2.2 = true then ((pReadShort b a).1,(pReadShort b a).2.1,false) else (noB,a,true)
def rV (b : ByteArray) (a : Int) (bad : Bool) : Int × Int × Bool:=if bad = true then (0,a,true) else if (pReadVar b a).2.2 = true then ((pReadVar b a).1,(pReadVar b a).2.1,false) else (0,a,true)
def imG (kind : Int) (b : ByteArray) : Nat → Int → Bool → List It → Int × Bool × List It
 | 0,a,bad,acc=>(a,bad,acc)
 | d + 1,a,bad,acc=>if bad = true then (a,true,acc) else if kind = 2 then imG kind b d (rV b (rS b a false).2.1 (rS b a false).2.2).2.1 (rV b (rS b a false).2.1 (rS b a false).2.2).2.2 (acc ++ [⟨(rS b a false).1,noB,(rV b (rS b a false).2.1 (rS b a false).2.2).1⟩]) else imG kind b d (rS b (rS b a false).2.1 (rS b a false).2.2).2.1 (rS b (rS b a false).2.1 (rS b a false).2.2).2.2 (acc ++ [⟨(rS b a false).1,(rS b (rS b a false).2.1 (rS b a false).2.2).1,0⟩])
def noPage : Int × List It × Bool:=(0,[],false)
def spEnd (s : ByteArray) (kind : Int) (R : Bool × List It) : Int × List It × Bool:=if R.1 = true ∧ (pPage kind R.2).2 = true ∧ (pPage kind R.2).1 = s then (kind,R.2,true) else noPage
def imEnd (s : ByteArray) (kind : Int) (b : ByteArray) (R : Int × Bool × List It) : Int × List It × Bool:=if (R.2.1 = false ∧ R.1 = (b.size : Int)) ∧ (pPage kind R.2.2).2 = true ∧ (pPage kind R.2.2).1 = s then (kind,R.2.2,true) else noPage
def pReadPage (s : ByteArray) : Int × List It × Bool:=if (pUnsealed s).2 = true ∧ 2 ≤ (pUnsealed s).1.size then spEnd s (bt (pUnsealed s).1 0) (spG (bt (pUnsealed s).1 0) (pUnsealed s).1 (pReadVar (pUnsealed s).1 1).1.toNat (pReadVar (pUnsealed s).1 1).2.1 (pReadVar (pUnsealed s).1 1).2.2 []) else noPage
def rO (b : ByteArray) : Int × Int × Bool:=if 1 ≤ b.size then (bt b 0,1,false) else (0,0,true)
def iReadP (s : ByteArray) : Int × List It × Bool:=if (pUnsealed s).2 = true then imEnd s (rO (pUnsealed s).1).1 (pUnsealed s).1 (imG (rO (pUnsealed s).1).1 (pUnsealed s).1 (rV (pUnsealed s).1 (rO (pUnsealed s).1).2.1 (rO (pUnsealed s).1).2.2).1.toNat (rV (pUnsealed s).1 (rO (pUnsealed s).1).2.1 (rO (pUnsealed s).1).2.2).2.1 (rV (pUnsealed s).1 (rO (pUnsealed s).1).2.1 (rO (pUnsealed s).1).2.2).2.2 []) else noPage
theorem imEnd_y {s b : ByteArray} {kind a : Int} {r : Bool} {acc : List It} (h : (r = false ∧ a = (b.size : Int)) ∧ (pPage kind acc).2 = true ∧ (pPage kind acc).1 = s) : imEnd s kind b (a,r,acc) = (kind,acc,true):=if_pos h
theorem imEnd_n {s b : ByteArray} {kind a : Int} {r : Bool} {acc : List It} (h : ¬ ((r = false ∧ a = (b.size : Int)) ∧ (pPage kind acc).2 = true ∧ (pPage kind acc).1 = s)) : imEnd s kind b (a,r,acc) = noPage:=if_neg h
theorem rShort_bd {b : ByteArray} {a : Int} (h : (pReadShort b a).2.2 = true) : 0 ≤ a ∧ a + 1 ≤ (pReadShort b a).2.1 ∧ (pReadShort b a).2.1 ≤ b.size ∧ (pReadShort b a).1.size ≤ 8000:=by
 unfold pReadShort at h ⊢
 split at h
 ·rename_i hc
  rw [if_pos hc]
  obtain ⟨h1,h2,h3⟩:=hc
  obtain ⟨c,p0,p1,_,p3,p4,p5,p6⟩:=pReadVar_some (s:=b) (a:=a) (n:=(pReadVar b a).1) (next:=(pReadVar b a).2.1) (by rw [← h1])
  have hv:=varB_pos (pReadVar b a).1.toNat
  simp only
  refine ⟨p0,by omega,by omega,?_⟩
  rw [ByteArray.size_extract]
  omega
 simp at h
theorem rVar_bd {b : ByteArray} {a : Int} (h : (pReadVar b a).2.2 = true) : 0 ≤ a ∧ a + 1 ≤ (pReadVar b a).2.1 ∧ (pReadVar b a).2.1 ≤ b.size ∧ 0 ≤ (pReadVar b a).1 ∧ (pReadVar b a).1 ≤ 1000000000:=by
 obtain ⟨c,p0,p1,_,p3,p4,p5,p6⟩:=pReadVar_some (s:=b) (a:=a) (n:=(pReadVar b a).1) (next:=(pReadVar b a).2.1) (by rw [← h])
 have hv:=varB_pos (pReadVar b a).1.toNat
 exact ⟨p0,by omega,by omega,p5,p6⟩
/-! What was written is read. -/
theorem rv_at {b : ByteArray} {p n : Nat} {rest : List Int} (h : (bl b).drop p = varB n ++ rest) (hn : n ≤ 1000000000) : pReadVar b (p : Int) = ((n : Int),((p + (varB n).length : Nat) : Int),true) ∧ p + (varB n).length ≤ b.size ∧ (bl b).drop (p + (varB n).length) = rest:=by
 have hl:=congrArg List.length h
 rw [List.length_drop,List.length_append,bl_len] at hl
 have hv:=varB_pos n
 have hd : (bl b).drop (p + (varB n).length) = rest:=by
  have:=congrArg (List.drop (varB n).length) h
  rw [List.drop_drop,List.drop_left] at this
  exact this
 refine ⟨?_,by omega,hd⟩
 unfold pReadVar
 rw [if_pos (by omega),Int.toNat_natCast,h,rv_var n hn rest]
 rfl
theorem shT_bl (s : ByteArray) : bl (shT s) = varB s.size ++ bl s:=by unfold shT;rw [bl_app,bl_str (varB_byt _)]
theorem rs_at {b s : ByteArray} {p : Nat} {rest : List Int} (h : (bl b).drop p = bl (shT s) ++ rest) (hs : s.size ≤ 8000) : pReadShort b (p : Int) = (s,((p + (shT s).size : Nat) : Int),true) ∧ p + (shT s).size ≤ b.size ∧ (bl b).drop (p + (shT s).size) = rest:=by
 rw [shT_bl,List.append_assoc] at h
 obtain ⟨h1,h2,h3⟩:=rv_at h (by omega)
 have hl:=congrArg List.length h3
 rw [List.length_drop,List.length_append,bl_len,bl_len] at hl
 have hz:=shT_size s
 have hd : (bl b).drop (p + (shT s).size) = rest:=by
  have:=congrArg (List.drop s.size) h3
  rw [List.drop_drop,← bl_len s,List.drop_left,bl_len] at this
  rw [hz,← Nat.add_assoc]
  exact this
 refine ⟨?_,by omega,hd⟩
 unfold pReadShort
 rw [h1]
 simp only
 rw [if_pos ⟨trivial,by omega,by omega⟩]
 have e1 : (((p + (varB s.size).length : Nat) : Int) + (s.size : Int)) = ((p + (shT s).size : Nat) : Int):=by omega
 rw [e1,Int.toNat_natCast,Int.toNat_natCast]
 have e2 : b.extract (p + (varB s.size).length) (p + (shT s).size) = s:=by
  apply bl_inj
  rw [bl_ext,List.drop_take,h3,show p + (shT s).size - (p + (varB s.size).length) = s.size by omega,← bl_len s,List.take_left]
 rw [e2]
def txsI (kind : Int) (l : List It) : List Int:=(l.map fun x=>bl (txI kind x)).flatten
theorem txsI_cons (kind : Int) (x : It) (l : List It) : txsI kind (x :: l) = bl (txI kind x) ++ txsI kind l:=by unfold txsI;rw [List.map_cons,List.flatten_cons]
/-- An item that a page may have. -/
def gI (kind : Int) (x : It) : Prop:=x.f0.size ≤ 8000 ∧ (kind = 1 ∧ x.f1.size ≤ 8000 ∧ x.f2 = 0 ∨ kind = 2 ∧ x.f1 = noB ∧ 0 ≤ x.f2 ∧ x.f2 ≤ 399)
theorem txI_1 (x : It) : bl (txI 1 x) = bl (shT x.f0) ++ bl (shT x.f1):=by unfold txI;rw [if_pos rfl,bl_app]
theorem txI_2 (x : It) : bl (txI 2 x) = bl (shT x.f0) ++ varB x.f2.toNat:=by unfold txI;rw [if_neg (by decide),bl_app,bl_str (varB_byt _)]
theorem spG_back (kind : Int) (b : ByteArray) : ∀ (l : List It) (p : Nat) (acc : List It),(bl b).drop p = txsI kind l → (∀ x ∈ l,gI kind x) → spG kind b l.length (p : Int) true acc = (true,acc ++ l)
 | [],p,acc,_,_=>by rw [List.append_nil];rfl
 | x :: l,p,acc,h,hg=>by
  obtain ⟨h0,hk⟩:=hg x (List.mem_cons_self ..)
  have hg':=fun y hy=>hg y (List.mem_cons_of_mem _ hy)
  rw [txsI_cons] at h
  rw [List.length_cons,spG,if_pos rfl]
  rcases hk with ⟨rfl,h1,h2⟩|⟨rfl,h1,h2,h3⟩
  ·rw [txI_1,List.append_assoc] at h
   obtain ⟨a1,a2,a3⟩:=rs_at h h0
   obtain ⟨b1,b2,b3⟩:=rs_at a3 h1
   rw [a1]
   simp only [if_true]
   rw [b1]
   simp only
   rw [spG_back 1 b l _ (acc ++ [(⟨x.f0,x.f1,0⟩ : It)]) b3 hg',List.append_assoc,List.singleton_append,← h2]
  rw [txI_2,List.append_assoc] at h
  obtain ⟨a1,a2,a3⟩:=rs_at h h0
  obtain ⟨b1,b2,b3⟩:=rv_at a3 (by omega)
  rw [a1]
  simp only [if_true]
  rw [if_neg (by decide),b1]
  simp only
  rw [Int.toNat_of_nonneg h2,spG_back 2 b l _ (acc ++ [(⟨x.f0,noB,x.f2⟩ : It)]) b3 hg',List.append_assoc,List.singleton_append,← h1]
theorem rS_ok {b s : ByteArray} {a c : Int} (h : pReadShort b a = (s,c,true)) : rS b a false = (s,c,false):=by unfold rS;rw [h];simp
theorem rV_ok {b : ByteArray} {a n c : Int} (h : pReadVar b a = (n,c,true)) : rV b a false = (n,c,false):=by unfold rV;rw [h];simp
theorem imG_back (kind : Int) (b : ByteArray) : ∀ (l : List It) (p : Nat) (acc : List It),p ≤ b.size → (bl b).drop p = txsI kind l → (∀ x ∈ l,gI kind x) → imG kind b l.length (p : Int) false acc = ((b.size : Int),false,acc ++ l)
 | [],p,acc,hp,h,_=>by
  have hl:=congrArg List.length h
  rw [List.length_drop,bl_len] at hl
  have e : txsI kind [] = []:=rfl
  rw [e,List.length_nil] at hl
  rw [List.append_nil,List.length_nil,imG]
  congr 1
  omega
 | x :: l,p,acc,hp,h,hg=>by
  obtain ⟨h0,hk⟩:=hg x (List.mem_cons_self ..)
  have hg':=fun y hy=>hg y (List.mem_cons_of_mem _ hy)
  rw [txsI_cons] at h
  rw [List.length_cons,imG,if_neg (by decide)]
  rcases hk with ⟨rfl,h1,h2⟩|⟨rfl,h1,h2,h3⟩
  ·rw [txI_1,List.append_assoc] at h
   obtain ⟨a1,a2,a3⟩:=rs_at h h0
   obtain ⟨b1,b2,b3⟩:=rs_at a3 h1
   rw [if_neg (by decide),rS_ok a1]
   simp only
   rw [rS_ok b1]
   simp only
   rw [imG_back 1 b l _ (acc ++ [(⟨x.f0,x.f1,0⟩ : It)]) b2 b3 hg',List.append_assoc,List.singleton_append,← h2]
  rw [txI_2,List.append_assoc] at h
  obtain ⟨a1,a2,a3⟩:=rs_at h h0
  obtain ⟨b1,b2,b3⟩:=rv_at a3 (by omega)
  rw [if_pos rfl,rS_ok a1]
  simp only
  rw [rV_ok b1]
  simp only
  rw [Int.toNat_of_nonneg h2,imG_back 2 b l _ (acc ++ [(⟨x.f0,noB,x.f2⟩ : It)]) b2 b3 hg',List.append_assoc,List.singleton_append,← h1]
theorem noB_of {s : ByteArray} (h : s.toList = []) : s = noB:=by
 apply bl_inj
 have : (bl s).length = 0:=by rw [bl_len];exact tl_nil h
 rw [List.length_eq_zero_iff.1 this];rfl
theorem spL_true {kind : Int} {s : ByteArray} : ∀ (l : List It) (prev : Option ByteArray) (acc : ByteArray),spL kind prev acc l = (s,true) → ∃ B,pSealed B = (s,true) ∧ bl B = bl acc ++ txsI kind l ∧ ∀ x ∈ l,(if kind = 1 then x.f2 = 0 else x.f1.toList = [] ∧ 0 ≤ x.f2 ∧ x.f2 ≤ 399)
 | [],prev,acc,h=>by
  rw [spL] at h
  exact ⟨acc,h,by rw [show txsI kind [] = [] from rfl,List.append_nil],fun x hx=>by simp at hx⟩
 | x :: l,prev,acc,h=>by
  rw [spL] at h
  by_cases g : itG kind prev x = true
  ·rw [if_pos g] at h
   obtain ⟨B,h1,h2,h3⟩:=spL_true l _ _ h
   refine ⟨B,h1,by rw [h2,txsI_cons,bl_app,List.append_assoc],fun y hy=>?_⟩
   rcases List.mem_cons.1 hy with rfl|hy
   ·unfold itG at g
    by_cases c : kind = 1
    ·rw [if_pos c] at g ⊢
     simp only [Bool.and_eq_true,decide_eq_true_eq] at g
     exact g.2.2
    rw [if_neg c] at g ⊢
    simp only [Bool.and_eq_true,decide_eq_true_eq] at g
    exact g.2.2
   exact h3 y hy
  rw [if_neg g] at h
  simp [noText] at h
theorem szT_mem (kind : Int) : ∀ (l : List It) (x : It),x ∈ l → szT kind x ≤ sumT kind l
 | [],x,h=>by simp at h
 | y :: l,x,h=>by
  rw [sumT_cons]
  have hl:=sumT_lo kind l
  have hy:=szT_lo kind y
  rcases List.mem_cons.1 h with rfl|h
  ·omega
  have:=szT_mem kind l x h
  omega
theorem pSealed_true {B s : ByteArray} (h : pSealed B = (s,true)) : s = B ++ strOfNums (four (sumB B)) ∧ B.size ≤ 8000:=by
 unfold pSealed at h
 split at h
 ·simp at h
 simp only [Prod.mk.injEq,and_true] at h
 exact ⟨h.symm,by omega⟩
/-- What a right page's text is made of. -/
theorem pPage_true {kind : Int} {l : List It} {s : ByteArray} (h : pPage kind l = (s,true)) : (kind = 1 ∨ kind = 2) ∧ l ≠ [] ∧ sumT kind l ≤ 54 ∧ (∀ x ∈ l,gI kind x) ∧ ∃ B,pUnsealed s = (B,true) ∧ s = B ++ strOfNums (four (sumB B)) ∧ bl B = kind :: (varB l.length ++ txsI kind l):=by
 unfold pPage at h
 split at h
 ·rename_i hc
  obtain ⟨hk,h0,hs⟩:=hc
  obtain ⟨B,h1,h2,h3⟩:=spL_true l _ _ h
  obtain ⟨h4,h5⟩:=pSealed_true h1
  refine ⟨hk,h0,by omega,fun x hx=>?_,B,by rw [h4];exact unseal_seal B h5,h4,?_⟩
  ·have hz:=szT_mem kind l x hx
   have lo:=szT_lo kind x
   have hg:=h3 x hx
   refine ⟨by omega,?_⟩
   rcases hk with rfl|rfl
   ·rw [if_pos rfl] at hg
    have:=szT_lo1 x
    exact .inl ⟨rfl,by omega,hg⟩
   rw [if_neg (by decide)] at hg
   exact .inr ⟨rfl,noB_of hg.1,hg.2⟩
  rw [h2]
  unfold headP
  rw [bl_app,bl_str (varB_byt _),bl_str (Byt.one ⟨by omega,by omega⟩)]
  have : kind % 256 = kind:=by omega
  rw [this]
  simp
 simp [noText] at h
theorem sumT_len54 {kind : Int} {l : List It} (h : sumT kind l ≤ 54) : l.length ≤ 54:=by have:=sumT_lo kind l;omega
theorem bt0_of {B : ByteArray} {v : Int} {r : List Int} (h : bl B = v :: r) : bt B 0 = v:=by have:=bt_nat B 0;rw [h] at this;exact this
theorem body_facts {kind : Int} {l : List It} {s B : ByteArray} (h : sumT kind l ≤ 54) (hB : bl B = kind :: (varB l.length ++ txsI kind l)) : 2 ≤ B.size ∧ pReadVar B 1 = ((l.length : Int),((1 + (varB l.length).length : Nat) : Int),true) ∧ 1 + (varB l.length).length ≤ B.size ∧ (bl B).drop (1 + (varB l.length).length) = txsI kind l:=by
 have hl:=sumT_len54 h
 have hd : (bl B).drop 1 = varB l.length ++ txsI kind l:=by rw [hB];rfl
 obtain ⟨h1,h2,h3⟩:=rv_at hd (by omega)
 have:=varB_pos l.length
 exact ⟨by omega,h1,h2,h3⟩
theorem pReadPage_of {kind : Int} {l : List It} {s : ByteArray} (h : pPage kind l = (s,true)) : pReadPage s = (kind,l,true):=by
 obtain ⟨hk,_,h54,hg,B,hU,_,hB⟩:=pPage_true h
 obtain ⟨h2,hv,_,hd⟩:=body_facts (s:=s) h54 hB
 unfold pReadPage
 rw [hU]
 simp only
 rw [if_pos ⟨trivial,h2⟩,bt0_of hB,hv]
 simp only
 rw [Int.toNat_natCast,spG_back kind B l _ [] hd hg,List.nil_append]
 unfold spEnd
 rw [h]
 simp
theorem iReadP_of {kind : Int} {l : List It} {s : ByteArray} (h : pPage kind l = (s,true)) : iReadP s = (kind,l,true):=by
 obtain ⟨hk,_,h54,hg,B,hU,_,hB⟩:=pPage_true h
 obtain ⟨h2,hv,hle,hd⟩:=body_facts (s:=s) h54 hB
 have ho : rO B = (kind,1,false):=by unfold rO;rw [if_pos (by omega),bt0_of hB]
 unfold iReadP
 rw [hU]
 simp only
 rw [if_pos trivial,ho]
 simp only
 rw [rV_ok hv]
 simp only
 rw [Int.toNat_natCast,imG_back kind B l _ [] hle hd hg,List.nil_append]
 unfold imEnd
 rw [h]
 simp
theorem pair_true {x : ByteArray × Bool} {s : ByteArray} (h : x.2 = true) (h' : x.1 = s) : x = (s,true):=by cases x;simp_all
theorem readP_eq (s : ByteArray) : iReadP s = pReadPage s:=by
 by_cases h : ∃ (kind : Int) (l : List It),pPage kind l = (s,true)
 ·obtain ⟨kind,l,h⟩:=h
  rw [iReadP_of h,pReadPage_of h]
 have h1 : pReadPage s = noPage:=by
  unfold pReadPage
  split
  ·unfold spEnd
   split
   ·rename_i hc
    exact absurd ⟨_,_,pair_true hc.2.1 hc.2.2⟩ h
   rfl
  rfl
 have h2 : iReadP s = noPage:=by
  unfold iReadP
  split
  ·unfold imEnd
   split
   ·rename_i hc
    exact absurd ⟨_,_,pair_true hc.2.1 hc.2.2⟩ h
   rfl
  rfl
 rw [h1,h2]
theorem snocOk {acc : List It} (h : ∀ x ∈ acc,OkIt x) {x : It} (hx : OkIt x) : ∀ y ∈ acc ++ [x],OkIt y:=fun y hy=>by
 rcases List.mem_append.1 hy with hy|hy
 ·exact h y hy
 rw [List.mem_singleton.1 hy];exact hx
theorem noB_size : noB.size = 0:=rfl
theorem unsealed_size {s : ByteArray} : (pUnsealed s).1.size ≤ 8000:=by
 unfold pUnsealed
 split
 ·rename_i h
  have:=cutB_size s
  simp only
  omega
 exact Nat.zero_le _
/-! Pages that are cut out of a right map's items, and of the items of the levels above -/
abbrev Itm:=S71
def hdK (l : List Itm) : ByteArray:=(rd_T71 l 0).f0
theorem hdK_mem {l : List Itm} (h : l ≠ []) : ∃ x ∈ l,x.f0 = hdK l ∧ l.head? = some x:=by
 match l,h with
 | x :: l,_=>exact ⟨x,List.mem_cons_self,rfl,rfl⟩
/-- An item of a page of a kind (n: how many sectors). -/
def GoodI (kind : Int) (n : Nat) (x : Itm) : Prop:=(1 ≤ x.f0.size ∧ x.f0.size ≤ 8) ∧ (kind = 1 ∧ x.f1.size ≤ 40 ∧ x.f2 = 0 ∨ kind = 2 ∧ x.f1 = noB ∧ 0 ≤ x.f2 ∧ x.f2 < (n : Int))
def KAsc (l : List Itm) : Prop:=l.Pairwise fun a b=>keyLt a.f0 b.f0 = true
theorem GoodI.sm {kind : Int} {n : Nat} {x : Itm} (h : GoodI kind n x) : x.f0.size ≤ 8 ∧ x.f1.size ≤ 40:=by
 refine ⟨h.1.2,?_⟩
 rcases h.2 with ⟨_,h,_⟩|⟨_,h,_⟩
 ·exact h
 rw [h,noB_size];omega
theorem GoodI.szT {kind : Int} {n : Nat} {x : Itm} (h : GoodI kind n x) : szT kind x ≤ 54:=by
 have h1:=h.sm
 have e : ∀ s : ByteArray,s.size ≤ 40 → (shT s).size ≤ 41:=fun s hs=>by
  rw [shT_size,varB_small (by omega)]
  simp
  omega
 have hf0 : (shT x.f0).size ≤ 9:=by
  rw [shT_size,varB_small (by omega)]
  simp
  omega
 unfold Pure.szT
 split
 ·have:=e x.f1 h1.2;omega
 have:=pVar_size x.f2;omega
theorem itG_ok {kind : Int} {n : Nat} (hn : n ≤ 400) {prev : Option ByteArray} {x : Itm} (h : GoodI kind n x) (hp : ∀ p,prev = some p → keyLt p x.f0 = true) : itG kind prev x = true:=by
 unfold itG
 have h0 : decide (¬ x.f0.toList = []) = true:=decide_eq_true (fun e=>by have:=tl_nil e;have:=h.1.1;omega)
 rw [h0,Bool.true_and]
 rw [Bool.and_eq_true]
 refine ⟨?_,?_⟩
 ·cases prev with
  | none=>rfl
  | some p=>exact hp p rfl
 rcases h.2 with ⟨rfl,_,h2⟩|⟨rfl,h2,h3,h4⟩
 ·rw [if_pos rfl];exact decide_eq_true h2
 rw [if_neg (by decide)];exact decide_eq_true ⟨by rw [h2,ByteArray.toList_eq];rfl,h3,by omega⟩
theorem spL_ok {kind : Int} (hk : kind = 1 ∨ kind = 2) {n : Nat} (hn : n ≤ 400) : ∀ (l : List Itm) (prev : Option ByteArray) (acc : ByteArray),(∀ x ∈ l,GoodI kind n x) → KAsc l → (∀ p,prev = some p → ∀ x ∈ l,keyLt p x.f0 = true) → (acc.size : Int) + sumT kind l ≤ 8000 → (spL kind prev acc l).2 = true
 | [],prev,acc,_,_,_,hs=>by
  unfold spL pSealed
  have : sumT kind ([] : List Itm) = 0:=rfl
  rw [if_neg (by omega)]
 | x :: l,prev,acc,hg,ha,hp,hs=>by
  have hx:=itG_ok (prev:=prev) hn (hg x List.mem_cons_self) (fun p e=>hp p e x List.mem_cons_self)
  have:=txI_sz hk hx
  rw [sumT_cons] at hs
  unfold KAsc at ha
  rw [List.pairwise_cons] at ha
  unfold spL
  rw [if_pos hx]
  refine spL_ok hk hn l _ _ (fun y hy=>hg y (List.mem_cons_of_mem _ hy)) ha.2 (fun p e y hy=>?_) (by rw [ByteArray.size_append];omega)
  injection e with e
  rw [← e]
  exact ha.1 y hy
theorem sum_IT {kind : Int} (hk : kind = 1 ∨ kind = 2) : ∀ l : List Itm,(∀ x ∈ l,x.f0.size ≤ 54 ∧ x.f1.size ≤ 54) → sumI kind l = sumT kind l
 | [],_=>rfl
 | x :: l,h=>by
  have ih:=sum_IT hk l (fun y hy=>h y (List.mem_cons_of_mem _ hy))
  have hx:=h x List.mem_cons_self
  rw [sumT_cons,← ih,← szI_small hk hx.1 hx.2]
  unfold sumI
  simp
theorem page_ok {kind : Int} (hk : kind = 1 ∨ kind = 2) {n : Nat} (hn : n ≤ 400) {l : List Itm} (hl : l ≠ []) (hg : ∀ x ∈ l,GoodI kind n x) (ha : KAsc l) (hs : l.length > 1 → sumI kind l ≤ 54) : (pPage kind l).2 = true:=by
 have h54 : sumT kind l ≤ 54:=by
  by_cases c : l.length > 1
  ·rw [← sum_IT hk l (fun x hx=>by have:=(hg x hx).sm;omega)];exact hs c
  match l,hl with
  | x :: l,_ =>
   have : l = []:=by
    rw [List.length_cons] at c
    exact List.length_eq_zero_iff.1 (by omega)
   subst this
   rw [sumT_cons]
   have h1:=(hg x List.mem_cons_self).szT
   have : sumT kind ([] : List Itm) = 0:=rfl
   omega
 have hlen:=sumT_len54 h54
 unfold pPage
 rw [if_pos ⟨hk,hl,by omega⟩]
 have:=headP_size kind (n:=l.length) (by omega)
 exact spL_ok hk hn l none _ hg ha (fun p e=>by cases e) (by omega)
/-- The cut of an inner level: at least two items a page, but the last one. -/
theorem cut_half : ∀ (l g : List Itm),(∀ x ∈ g ++ l,szI 2 x ≤ 27) → (cutP 2 g l).length ≤ (if g.length = 0 then (l.length + 1) / 2 else if g.length = 1 then (l.length + 2) / 2 else 1 + (l.length + 1) / 2)
 | [],g,h=>by
  unfold cutP
  split
  ·simp only [List.length_singleton,List.length_nil]
   split
   ·omega
   split <;> omega
  simp
 | x :: l,g,h=>by
  have e : ¬ endsI 2 x = true:=by unfold endsI;simp
  have h1:=cut_half l [x] (fun y hy=>h y (by
   rcases List.mem_append.1 hy with hy|hy
   ·rw [List.mem_singleton.1 hy];simp
   simp [hy]))
  have h2:=cut_half l (g ++ [x]) (fun y hy=>h y (by
   simp only [List.mem_append,List.mem_cons,List.not_mem_nil,or_false] at hy ⊢
   rcases hy with (hy|hy)|hy
   ·exact .inl hy
   ·exact .inr (.inl hy)
   exact .inr (.inr hy)))
  simp only [List.length_singleton,List.length_append] at h1 h2
  rw [if_neg (by omega),if_pos trivial] at h1
  unfold cutP
  rw [if_neg e,if_neg e,List.length_cons]
  by_cases c : g.length > 0 ∧ sumI 2 g + szI 2 x > 54
  ·rw [if_pos c,List.length_cons]
   have hg2 : ¬ g.length = 1:=fun hg1=>by
    match g,hg1 with
    | [y],_ =>
     rw [sumI_one] at c
     have:=h y (by simp)
     have:=h x (by simp)
     omega
   rw [if_neg (by omega),if_neg hg2]
   omega
  rw [if_neg c]
  rw [if_neg (by omega)] at h2
  by_cases c0 : g.length = 0
  ·rw [if_pos c0]
   rw [if_pos (by omega)] at h2
   omega
  rw [if_neg c0]
  rw [if_neg (by omega)] at h2
  split <;> omega
theorem GoodI.inn {n : Nat} {x : Itm} (h : GoodI 2 n x) : szI 2 x ≤ 27:=by
 have h2 : x.f1 = noB ∧ 0 ≤ x.f2 ∧ x.f2 < (n : Int):=by
  rcases h.2 with ⟨h,_⟩|⟨_,h⟩
  ·cases h
  exact h
 exact inn_sz (n:=n) ⟨h.1.2,by rw [h2.1];rfl,h2.2.1,h2.2.2⟩
/-- The pages of a cut. -/
theorem cut_pages {kind : Int} (hk : kind = 1 ∨ kind = 2) {n : Nat} (hn : n ≤ 400) {its : List Itm} (hg : ∀ x ∈ its,GoodI kind n x) (ha : KAsc its) :
  (cutP kind [] its).flatten = its ∧ (∀ g ∈ cutP kind [] its,g ≠ [] ∧ (pPage kind g).2 = true ∧ g.length ≤ its.length ∧ ∀ x ∈ g,GoodI kind n x) ∧ (cutP kind [] its).Pairwise (fun a b=>keyLt (hdK a) (hdK b) = true):=by
 obtain ⟨h1,h2⟩:=cutP_ok kind its [] (fun h=>by simp at h)
 rw [List.nil_append] at h1
 have ha':=ha
 unfold KAsc at ha'
 rw [← h1,List.pairwise_flatten] at ha'
 have hne : ∀ g ∈ cutP kind [] its,g ≠ []:=fun g hgm e=>by have:=(h2 g hgm).1;rw [e] at this;simp at this
 refine ⟨h1,fun g hgm=>?_,?_⟩
 ·have hsub : ∀ x ∈ g,x ∈ its:=fun x hx=>by rw [← h1];exact List.mem_flatten.2 ⟨g,hgm,hx⟩
  refine ⟨hne g hgm,page_ok hk hn (hne g hgm) (fun x hx=>hg x (hsub x hx)) (ha'.1 g hgm) (h2 g hgm).2,?_,fun x hx=>hg x (hsub x hx)⟩
  have:=flat_len _ hgm
  rw [h1] at this
  exact this
 refine ha'.2.imp_of_mem ?_
 intro a b ham hbm h
 obtain ⟨x,hx,hxe,_⟩:=hdK_mem (hne a ham)
 obtain ⟨y,hy,hye,_⟩:=hdK_mem (hne b hbm)
 rw [← hxe,← hye]
 exact h x hx y hy
/-! What placing a right map does -/
def rdS (S : List ByteArray) (P : List S96) (i : Int) : ByteArray:=readF i (secAt S i) P
def pgAt (S : List ByteArray) (P : List S96) (i : Int) : Int × List Itm × Bool:=pReadPage (rdS S P i)
theorem rdS_put (S : List ByteArray) (P : List S96) (a : Int) (t : ByteArray) (i : Int) : rdS S (P ++ [⟨a,t⟩]) i = if a = i then t else rdS S P i:=readF_snoc i _ P _
theorem fnd_some {S : List ByteArray} {P : List S96} {F : List Int} {t : ByteArray} : ∀ (d i j : Nat),fnd S P F t d i = some j → (j : Int) ∉ F ∧ rdS S P (j : Int) = t
 | 0,i,j,h=>by cases h
 | d + 1,i,j,h=>by
  unfold fnd at h
  split at h
  ·exact fnd_some d (i + 1) j h
  rename_i c
  split at h
  ·rename_i c2
   injection h with h
   subst h
   exact ⟨fun hm=>c (by unfold inL;exact decide_eq_true hm),tl_inj.1 c2⟩
  exact fnd_some d (i + 1) j h
theorem mem_insW {U : List Int} {x y : Int} : y ∈ insW U x ↔ y = x ∨ y ∈ U:=by
 refine ⟨insW_mem,fun h=>?_⟩
 unfold insW
 simp only [List.mem_append,List.mem_filter,List.mem_singleton,decide_eq_true_eq]
 by_cases e : y = x
 ·exact .inl (.inr e)
 have h:=h.resolve_left e
 by_cases c : y < x
 ·exact .inl (.inl ⟨h,c⟩)
 exact .inr ⟨h,by omega⟩
/-- A page placed. -/
theorem pg_step {S : List ByteArray} {P : List S96} {F L U : List Int} {kind : Int} {it : List Itm} (hI : Inv S P L U) (hn : L.Nodup) (hs : ∀ x ∈ L,x ∈ F) (hp : (pPage kind it).2 = true) (hl : 0 < L.length) (h4 : P.length < 400) :
  ∃ r P' L' U',pgF S P F L U kind it = some (r,P',L',U') ∧ Inv S P' L' U' ∧ L'.Nodup ∧ (∀ x ∈ L',x ∈ L) ∧ r ∉ L' ∧ (0 ≤ r ∧ r < (S.length : Int)) ∧ pgAt S P' r = (kind,it,true) ∧ (∀ i,i ∉ L → rdS S P' i = rdS S P i) ∧ U' = insW U r ∧ L.length ≤ L'.length + 1 ∧ P'.length ≤ P.length + 1 ∧ ((∀ i,i ∉ F → (pgAt S P i).2.2 = false) → L = r :: L') ∧ (r ∉ F → P' = P ∧ L' = L):=by
 have hpg : pPage kind it = ((pPage kind it).1,true):=by rw [← hp]
 have hrd:=pReadPage_of hpg
 cases hf : fnd S P F (pPage kind it).1 S.length 0 with
 | some i =>
  have e : pgF S P F L U kind it = some ((i : Int),P,L,insW U (i : Int)):=by
   unfold pgF
   rw [if_neg (by rw [hp];simp),hf]
  obtain ⟨h1,h2⟩:=fnd_some _ _ _ hf
  obtain ⟨hI',hr0,hr1⟩:=pgF_inv hI e
  have hpa : pgAt S P (i : Int) = (kind,it,true):=by unfold pgAt;rw [h2];exact hrd
  refine ⟨_,_,_,_,e,hI',hn,fun x hx=>hx,fun hm=>h1 (hs _ hm),⟨hr0,hr1⟩,hpa,fun _ _=>rfl,rfl,by omega,by omega,fun hfr=>?_,fun _=>⟨rfl,rfl⟩⟩
  have:=hfr _ h1
  rw [hpa] at this
  cases this
 | none =>
  have e : pgF S P F L U kind it = some (rd L 0,P ++ [⟨rd L 0,(pPage kind it).1⟩],L.drop 1,insW U (rd L 0)):=by
   unfold pgF
   rw [if_neg (by rw [hp];simp),hf]
   simp only
   rw [if_neg (by omega)]
  obtain ⟨hI',hr0,hr1⟩:=pgF_inv hI e
  match L,hl with
  | x :: L1,_ =>
   have hx : rd (x :: L1) 0 = x:=rfl
   rw [hx] at e hI' hr0 hr1
   rw [List.nodup_cons] at hn
   refine ⟨_,_,_,_,e,hI',hn.2,fun y hy=>List.mem_cons_of_mem _ hy,hn.1,⟨hr0,hr1⟩,?_,fun i hi=>?_,rfl,by simp,by simp,fun _=>rfl,fun hnf=>absurd (hs x List.mem_cons_self) hnf⟩
   ·unfold pgAt
    rw [rdS_put,if_pos rfl]
    exact hrd
   rw [rdS_put,if_neg (fun h=>hi (by rw [h];exact List.mem_cons_self))]
theorem pgAt_eq {S : List ByteArray} {P P' : List S96} {i : Int} (h : rdS S P' i = rdS S P i) : pgAt S P' i = pgAt S P i:=by unfold pgAt;rw [h]
/-- The next level's items: what they lead to. -/
def NewOk (R : Int → Int × List Itm × Bool) (kind : Int) : List (List Itm) → List Itm → Prop
 | [],new=>new = []
 | g :: gs,new=>∃ x xs,new = x :: xs ∧ R x.f2 = (kind,g,true) ∧ x.f0 = hdK g ∧ x.f1 = noB ∧ NewOk R kind gs xs
theorem NewOk.len {R : Int → Int × List Itm × Bool} {kind : Int} : ∀ {gs : List (List Itm)} {new : List Itm},NewOk R kind gs new → new.length = gs.length
 | [],new,h=>by rw [show new = [] from h];rfl
 | g :: gs,new,⟨x,xs,e,_,_,_,h⟩=>by rw [e,List.length_cons,List.length_cons,NewOk.len h]
theorem NewOk.to {R R' : Int → Int × List Itm × Bool} {kind : Int} : ∀ {gs : List (List Itm)} {new : List Itm},NewOk R kind gs new → (∀ x ∈ new,R' x.f2 = R x.f2) → NewOk R' kind gs new
 | [],new,h,_=>h
 | g :: gs,new,⟨x,xs,e,h1,h2,h3,h⟩,hr=>by
  subst e
  exact ⟨x,xs,rfl,(hr x List.mem_cons_self).trans h1,h2,h3,h.to (fun y hy=>hr y (List.mem_cons_of_mem _ hy))⟩
theorem NewOk.keys {R : Int → Int × List Itm × Bool} {kind : Int} : ∀ {gs : List (List Itm)} {new : List Itm},NewOk R kind gs new → new.map (fun x=>x.f0) = gs.map hdK
 | [],new,h=>by rw [show new = [] from h];rfl
 | g :: gs,new,⟨x,xs,e,_,h2,_,h⟩=>by rw [e,List.map_cons,List.map_cons,h2,NewOk.keys h]
theorem NewOk.noB {R : Int → Int × List Itm × Bool} {kind : Int} : ∀ {gs : List (List Itm)} {new : List Itm},NewOk R kind gs new → ∀ x ∈ new,x.f1 = Pure.noB
 | [],new,h,x,hx=>by rw [show new = [] from h] at hx;cases hx
 | g :: gs,new,⟨y,ys,e,_,_,h3,h⟩,x,hx=>by
  rw [e] at hx
  rcases List.mem_cons.1 hx with rfl|hx
  ·exact h3
  exact NewOk.noB h x hx
def lastF (r : Int) : List Itm → Int
 | []=>r
 | x :: xs=>lastF x.f2 xs
/-- The pages of a level placed. -/
theorem gs_run {S : List ByteArray} {F : List Int} {kind : Int} : ∀ (gs : List (List Itm)) (P : List S96) (L U : List Int) (r : Int) (n : List Itm),Inv S P L U → L.Nodup → (∀ x ∈ L,x ∈ F) → (∀ g ∈ gs,(pPage kind g).2 = true) → gs.length ≤ L.length → P.length + gs.length ≤ 400 →
  ∃ P' L' U' new,gsF S F kind gs P L U r n = some (P',L',U',lastF r new,n ++ new) ∧ Inv S P' L' U' ∧ L'.Nodup ∧ (∀ x ∈ L',x ∈ L) ∧ (∀ x ∈ new,x.f2 ∉ L' ∧ 0 ≤ x.f2 ∧ x.f2 < (S.length : Int)) ∧ NewOk (pgAt S P') kind gs new ∧ (∀ i,i ∉ L → rdS S P' i = rdS S P i) ∧ (∀ y,y ∈ U' ↔ y ∈ U ∨ y ∈ new.map (fun x=>x.f2)) ∧ L.length ≤ L'.length + gs.length ∧ P'.length ≤ P.length + gs.length ∧ ((∀ i,i ∉ F → (pgAt S P i).2.2 = false) → L = new.map (fun x=>x.f2) ++ L')
 | [],P,L,U,r,n,hI,hn,hs,hp,hl,h4=>⟨P,L,U,[],by rw [gsF,List.append_nil];rfl,hI,hn,fun x hx=>hx,(fun x hx=>by cases hx),rfl,fun _ _=>rfl,(fun y=>by simp),(by simp),(by simp),fun _=>rfl⟩
 | g :: gs,P,L,U,r,n,hI,hn,hs,hp,hl,h4=>by
  rw [List.length_cons] at hl h4
  obtain ⟨r1,P1,L1,U1,e1,hI1,hn1,hs1,hr1,hrr,hpg,hrd,hU1,hl1,hp1,hf1,_⟩:=pg_step hI hn hs (hp g List.mem_cons_self) (by omega) (by omega)
  obtain ⟨P2,L2,U2,new,e2,hI2,hn2,hs2,hx2,hN2,hrd2,hU2,hl2,hp2,hf2⟩:=gs_run gs P1 L1 U1 r1 (n ++ [⟨hdK g,noB,r1⟩]) hI1 hn1 (fun x hx=>hs x (hs1 x hx)) (fun g hg=>hp g (List.mem_cons_of_mem _ hg)) (by omega) (by omega)
  refine ⟨P2,L2,U2,⟨hdK g,noB,r1⟩ :: new,?_,hI2,hn2,fun x hx=>hs1 x (hs2 x hx),?_,?_,?_,?_,by rw [List.length_cons];omega,by rw [List.length_cons];omega,?_⟩
  ·rw [gsF,e1]
   simp only
   refine Eq.trans e2 ?_
   rw [List.append_assoc]
   rfl
  ·intro x hx
   rcases List.mem_cons.1 hx with rfl|hx
   ·exact ⟨fun h=>hr1 (hs2 _ h),hrr⟩
   exact hx2 x hx
  ·exact ⟨_,new,rfl,(pgAt_eq (hrd2 r1 hr1)).trans hpg,rfl,rfl,hN2⟩
  ·intro i hi
   rw [hrd2 i (fun h=>hi (hs1 i h)),hrd i hi]
  ·intro y
   rw [hU2 y,hU1,List.map_cons,List.mem_cons]
   constructor
   ·rintro (h|h)
    ·rcases insW_mem h with rfl|h
     ·exact .inr (.inl rfl)
     exact .inl h
    exact .inr (.inr h)
   rintro (h|rfl|h)
   ·exact .inl (mem_insW.2 (.inr h))
   ·exact .inl (mem_insW.2 (.inl rfl))
   exact .inr h
  intro hfr
  have a1:=hf1 hfr
  have a2:=hf2 (fun i hi=>by rw [pgAt_eq (hrd i (fun h=>hi (hs i h)))];exact hfr i hi)
  rw [a1,a2]
  rfl
theorem gs_impl {S : List ByteArray} {F : List Int} {kind : Int} (hF : F.length ≤ 1048576) : ∀ (gs : List (List Itm)) (P : List S96) (L U : List Int) (r : Int) (n : List Itm) (P' : List S96) (L' U' : List Int) (r' : Int) (n' : List Itm),Inv S P L U → (∀ it ∈ gs,it ≠ [] ∧ it.length ≤ 1048576 ∧ ∀ x ∈ it,OkIt x) → n.length + gs.length < 1000000 → gsF S F kind gs P L U r n = some (P',L',U',r',n') → impl_tree.groups F kind gs S P L U r n = some (true,S,P',L',U',r',n')
 | [],P,L,U,r,n,P',L',U',r',n',hI,hg,hn,h=>by
  rw [gsF] at h
  injection h with h
  simp only [Prod.mk.injEq] at h
  obtain ⟨rfl,rfl,rfl,rfl,rfl⟩:=h
  rw [impl_tree.groups]
 | it :: gs,P,L,U,r,n,P',L',U',r',n',hI,hg,hn,h=>by
  obtain ⟨g1,g2,g3⟩:=hg it List.mem_cons_self
  have hi:=iPlace (F:=F) (kind:=kind) hI hF g2 g3
  rw [List.length_cons] at hn
  rw [gsF] at h
  cases hp : pgF S P F L U kind it with
  | none=>rw [hp] at h;cases h
  | some q =>
   obtain ⟨r1,P1,L1,U1⟩:=q
   obtain ⟨hI1,hr0,hr1⟩:=pgF_inv hI hp
   rw [hp] at h hi
   simp only at h hi
   have hne : ¬ it.length = 0:=fun e=>g1 (List.length_eq_zero_iff.1 e)
   rw [impl_tree.groups,hi,Option.bind_some]
   simp only
   rw [if_neg (by omega),if_neg hne,if_pos (by omega)]
   exact gs_impl hF gs P1 L1 U1 r1 _ P' L' U' r' n' hI1 (fun x hx=>hg x (List.mem_cons_of_mem _ hx)) (by rw [List.length_append,List.length_singleton];omega) h
/-- A tree built, level by level: its sectors, in the order in which they were placed. -/
def Built (R : Int → Int × List Itm × Bool) : Nat → Int → List Itm → Int → List Int → Prop
 | 0,_,_,_,_=>False
 | n + 1,kind,its,r,us=>∃ new us',NewOk R kind (cutP kind [] its) new ∧ us = new.map (fun x=>x.f2) ++ us' ∧ ((∃ x,new = [x] ∧ r = x.f2 ∧ us' = []) ∨ (2 ≤ new.length ∧ Built R n 2 new r us'))
theorem Built.to {R R' : Int → Int × List Itm × Bool} : ∀ {n : Nat} {kind : Int} {its : List Itm} {r : Int} {us : List Int},Built R n kind its r us → (∀ y ∈ us,R' y = R y) → Built R' n kind its r us
 | 0,_,_,_,_,h,_=>h
 | n + 1,kind,its,r,us,⟨new,us',h1,e,h2⟩,hr=>by
  subst e
  refine ⟨new,us',h1.to (fun x hx=>hr _ (List.mem_append_left _ (List.mem_map.2 ⟨x,hx,rfl⟩))),rfl,?_⟩
  rcases h2 with h2|⟨h2,h3⟩
  ·exact .inl h2
  exact .inr ⟨h2,h3.to (fun y hy=>hr y (List.mem_append_right _ hy))⟩
/-- The next level's items are good. -/
theorem new_good {R : Int → Int × List Itm × Bool} {kind : Int} (hk : kind = 1 ∨ kind = 2) {n : Nat} (hn : n ≤ 400) {its new : List Itm} (hg : ∀ x ∈ its,GoodI kind n x) (ha : KAsc its) (h : NewOk R kind (cutP kind [] its) new) (hr : ∀ x ∈ new,0 ≤ x.f2 ∧ x.f2 < (n : Int)) : (∀ x ∈ new,GoodI 2 n x) ∧ KAsc new:=by
 obtain ⟨h1,h2,h3⟩:=cut_pages hk hn hg ha
 have hkeys:=h.keys
 constructor
 ·intro x hx
  have : x.f0 ∈ (cutP kind [] its).map hdK:=by rw [← hkeys];exact List.mem_map.2 ⟨x,hx,rfl⟩
  obtain ⟨g,hgm,hgx⟩:=List.mem_map.1 this
  obtain ⟨y,hy,hye,_⟩:=hdK_mem (h2 g hgm).1
  have:=((h2 g hgm).2.2.2 y hy).1
  rw [hye,hgx] at this
  exact ⟨this,.inr ⟨rfl,h.noB x hx,hr x hx⟩⟩
 unfold KAsc
 rw [← List.pairwise_map (f:=fun x : Itm=>x.f0) (R:=fun a b=>keyLt a b = true),hkeys,List.pairwise_map]
 exact h3
structure LvOk (S : List ByteArray) (F : List Int) (n : Nat) (kind : Int) (its : List Itm) (P : List S96) (L U : List Int) (root : Int) (f b : Nat) (P' : List S96) (L' U' : List Int) (r : Int) (us : List Int) : Prop where
 run : impl_tree.levels F n kind its S P L U root = some (true,S,P',U',r)
 inv : Inv S P' L' U'
 nd : L'.Nodup
 sub : ∀ x ∈ L',x ∈ L
 rng : ∀ y ∈ us,y ∉ L' ∧ 0 ≤ y ∧ y < (S.length : Int)
 built : Built (pgAt S P') f kind its r us
 rd : ∀ i,i ∉ L → rdS S P' i = rdS S P i
 mem : ∀ y,y ∈ U' ↔ y ∈ U ∨ y ∈ us
 len : us.length ≤ b
 ll : L.length ≤ L'.length + b
 pl : P'.length ≤ P.length + b
 fr : (∀ i,i ∉ F → (pgAt S P i).2.2 = false) → L = us ++ L'
theorem lv_one {S : List ByteArray} {F : List Int} (hF : F.length ≤ 1048576) {kind : Int} (hk : kind = 1 ∨ kind = 2) {its : List Itm} {P : List S96} {L U : List Int} (hI : Inv S P L U) (hn : L.Nodup) (hs : ∀ x ∈ L,x ∈ F) (hg : ∀ x ∈ its,GoodI kind S.length x) (ha : KAsc its) (h1000 : its.length ≤ 1000) (hl : (cutP kind [] its).length ≤ L.length) (h4 : P.length + (cutP kind [] its).length ≤ 400) (n : Nat) (root : Int) (hne : its ≠ []) :
  ∃ P' L' U' new,Inv S P' L' U' ∧ L'.Nodup ∧ (∀ x ∈ L',x ∈ L) ∧ (∀ x ∈ new,x.f2 ∉ L' ∧ 0 ≤ x.f2 ∧ x.f2 < (S.length : Int)) ∧ NewOk (pgAt S P') kind (cutP kind [] its) new ∧ (∀ i,i ∉ L → rdS S P' i = rdS S P i) ∧ (∀ y,y ∈ U' ↔ y ∈ U ∨ y ∈ new.map (fun x=>x.f2)) ∧ L.length ≤ L'.length + (cutP kind [] its).length ∧ P'.length ≤ P.length + (cutP kind [] its).length ∧ ((∀ i,i ∉ F → (pgAt S P i).2.2 = false) → L = new.map (fun x=>x.f2) ++ L') ∧
  (∀ x ∈ new,GoodI 2 S.length x) ∧ KAsc new ∧ new.length = (cutP kind [] its).length ∧ 0 < new.length ∧
  impl_tree.levels F (n + 1) kind its S P L U root = (if new.length = 1 then some (true,S,P',U',lastF root new) else impl_tree.levels F n 2 new S P' L' U' (lastF root new)):=by
 have h400:=(devOk_t hI.dev).1.2.1
 obtain ⟨h1,h2,h3⟩:=cut_pages hk h400 hg ha
 obtain ⟨P',L',U',new,e,hI',hn',hs',hx,hN,hrd,hU,hl',hp',hf⟩:=gs_run (F:=F) (cutP kind [] its) P L U root [] hI hn hs (fun g hgm=>(h2 g hgm).2.1) hl h4
 rw [List.nil_append] at e
 obtain ⟨hg',ha'⟩:=new_good hk h400 hg ha hN (fun x hx'=>(hx x hx').2)
 have hsm : ∀ x ∈ its,x.f0.size ≤ 8 ∧ x.f1.size ≤ 40:=fun x hx'=>(hg x hx').sm
 have hlen:=cut_len kind its []
 simp only [List.length_nil] at hlen
 rw [if_neg (by omega)] at hlen
 have hpos:=cut_ne (kind:=kind) (l:=its) (fun h=>hne (List.length_eq_zero_iff.1 h))
 have hnl:=hN.len
 have hi:=gs_impl hF (cutP kind [] its) P L U root [] _ _ _ _ _ hI (fun g hgm=>⟨(h2 g hgm).1,by have:=(h2 g hgm).2.2.1;omega,fun x hx'=>by have:=((h2 g hgm).2.2.2 x hx').sm;exact ⟨by omega,by omega⟩⟩) (by rw [List.length_nil];omega) e
 refine ⟨P',L',U',new,hI',hn',hs',hx,hN,hrd,hU,hl',hp',hf,hg',ha',hnl,by omega,?_⟩
 rw [impl_tree.levels,if_neg (fun h=>hne (List.length_eq_zero_iff.1 h)),ev_lim (iCutItems kind its (by omega) (fun x hx'=>by have:=hsm x hx';exact ⟨by omega,by omega⟩)),Option.bind_some,hi,Option.bind_some]
 simp only
 rw [if_neg (show ¬ (true = false) by simp)]
theorem lv2 {S : List ByteArray} {F : List Int} (hF : F.length ≤ 1048576) : ∀ (j n : Nat) (its : List Itm) (P : List S96) (L U : List Int) (root : Int),Inv S P L U → L.Nodup → (∀ x ∈ L,x ∈ F) → (∀ x ∈ its,GoodI 2 S.length x) → KAsc its → 2 ≤ its.length → its.length ≤ 2 ^ j → j ≤ 9 → 2 ^ j ≤ L.length → P.length + 2 ^ j ≤ 400 → j ≤ n →
  ∃ P' L' U' r us,LvOk S F n 2 its P L U root j (2 ^ j) P' L' U' r us
 | 0,n,its,P,L,U,root,hI,hn,hs,hg,ha,h2,hj,_,hL,hP,hjn=>by simp at hj;omega
 | j + 1,0,its,P,L,U,root,hI,hn,hs,hg,ha,h2,hj,_,hL,hP,hjn=>by omega
 | j + 1,n + 1,its,P,L,U,root,hI,hn,hs,hg,ha,h2,hj,hj9,hL,hP,hjn=>by
  have hpow : 2 ^ (j + 1) = 2 * 2 ^ j:=by rw [Nat.pow_succ];omega
  have hp9 : 2 ^ (j + 1) ≤ 2 ^ 9:=Nat.pow_le_pow_right (by omega) hj9
  have h512 : (2 : Nat) ^ 9 = 512:=by decide
  have hcut:=cut_half its [] (fun x hx=>(hg x (by simpa using hx)).inn)
  simp only [List.length_nil,if_true] at hcut
  obtain ⟨P1,L1,U1,new,hI1,hn1,hs1,hx1,hN1,hrd1,hU1,hl1,hp1,hf1,hg1,ha1,hnl,hpos,hrun⟩:=lv_one hF (.inr rfl) hI hn hs hg ha (by omega) (by omega) (by omega) n root (fun h=>by rw [h] at h2;simp at h2)
  by_cases c : new.length = 1
  ·rw [if_pos c] at hrun
   match new,c with
   | [x],_ =>
    refine ⟨P1,L1,U1,x.f2,[x.f2],hrun,hI1,hn1,hs1,fun y hy=>by rw [List.mem_singleton.1 hy];exact hx1 x List.mem_cons_self,⟨[x],[],hN1,rfl,.inl ⟨x,rfl,rfl,rfl⟩⟩,hrd1,hU1,by simp;omega,by omega,by omega,fun h=>hf1 h⟩
  rw [if_neg c] at hrun
  obtain ⟨P2,L2,U2,r,us,h⟩:=lv2 hF j n new P1 L1 U1 (lastF root new) hI1 hn1 (fun x hx=>hs x (hs1 x hx)) hg1 ha1 (by omega) (by omega) (by omega) (by omega) (by omega) (by omega)
  have hL:=h.ll
  have hP:=h.pl
  have hlen:=h.len
  refine ⟨P2,L2,U2,r,new.map (fun x=>x.f2) ++ us,hrun.trans h.run,h.inv,h.nd,fun x hx=>hs1 x (h.sub x hx),fun y hy=>?_,⟨new,us,hN1.to (fun x hx=>pgAt_eq (h.rd _ (hx1 x hx).1)),rfl,.inr ⟨by omega,h.built⟩⟩,fun i hi=>by rw [h.rd i (fun e=>hi (hs1 i e)),hrd1 i hi],fun y=>?_,by rw [List.length_append,List.length_map];omega,by omega,by omega,fun hfr=>?_⟩
  ·rcases List.mem_append.1 hy with hy|hy
   ·obtain ⟨x,hx,rfl⟩:=List.mem_map.1 hy
    exact ⟨fun e=>(hx1 x hx).1 (h.sub _ e),(hx1 x hx).2⟩
   exact h.rng y hy
  ·rw [h.mem y,hU1 y,List.mem_append,or_assoc]
  have a1:=hf1 hfr
  have a2:=h.fr (fun i hi=>by rw [pgAt_eq (hrd1 i (fun e=>hi (hs i e)))];exact hfr i hi)
  rw [List.append_assoc,← a2]
  exact a1
theorem lv1 {S : List ByteArray} {F : List Int} (hF : F.length ≤ 1048576) (j n : Nat) (its : List Itm) (P : List S96) (L U : List Int) (root : Int) (hI : Inv S P L U) (hn : L.Nodup) (hs : ∀ x ∈ L,x ∈ F) (hg : ∀ x ∈ its,GoodI 1 S.length x) (ha : KAsc its) (hne : its ≠ []) (hj : its.length ≤ 2 ^ j) (hj9 : j ≤ 8) (hL : 2 ^ (j + 1) ≤ L.length) (hP : P.length + 2 ^ (j + 1) ≤ 400) (hjn : j ≤ n) :
  ∃ P' L' U' r us,LvOk S F (n + 1) 1 its P L U root (j + 1) (2 ^ (j + 1)) P' L' U' r us:=by
 have hpow : 2 ^ (j + 1) = 2 * 2 ^ j:=by rw [Nat.pow_succ];omega
 have hp9 : 2 ^ (j + 1) ≤ 2 ^ 9:=Nat.pow_le_pow_right (by omega) (by omega)
 have h512 : (2 : Nat) ^ 9 = 512:=by decide
 have hlen:=cut_len 1 its []
 simp only [List.length_nil] at hlen
 rw [if_neg (by omega)] at hlen
 have hpos2 : 0 < 2 ^ j:=Nat.pow_pos (by omega)
 obtain ⟨P1,L1,U1,new,hI1,hn1,hs1,hx1,hN1,hrd1,hU1,hl1,hp1,hf1,hg1,ha1,hnl,hpos,hrun⟩:=lv_one hF (.inl rfl) hI hn hs hg ha (by omega) (by omega) (by omega) n root hne
 by_cases c : new.length = 1
 ·rw [if_pos c] at hrun
  match new,c with
  | [x],_ =>
   refine ⟨P1,L1,U1,x.f2,[x.f2],hrun,hI1,hn1,hs1,fun y hy=>by rw [List.mem_singleton.1 hy];exact hx1 x List.mem_cons_self,⟨[x],[],hN1,rfl,.inl ⟨x,rfl,rfl,rfl⟩⟩,hrd1,hU1,by simp;omega,by omega,by omega,fun h=>hf1 h⟩
 rw [if_neg c] at hrun
 obtain ⟨P2,L2,U2,r,us,h⟩:=lv2 hF j n new P1 L1 U1 (lastF root new) hI1 hn1 (fun x hx=>hs x (hs1 x hx)) hg1 ha1 (by omega) (by omega) (by omega) (by omega) (by omega) hjn
 have hL:=h.ll
 have hP:=h.pl
 have hlen:=h.len
 refine ⟨P2,L2,U2,r,new.map (fun x=>x.f2) ++ us,hrun.trans h.run,h.inv,h.nd,fun x hx=>hs1 x (h.sub x hx),fun y hy=>?_,⟨new,us,hN1.to (fun x hx=>pgAt_eq (h.rd _ (hx1 x hx).1)),rfl,.inr ⟨by omega,h.built⟩⟩,fun i hi=>by rw [h.rd i (fun e=>hi (hs1 i e)),hrd1 i hi],fun y=>?_,by rw [List.length_append,List.length_map];omega,by omega,by omega,fun hfr=>?_⟩
 ·rcases List.mem_append.1 hy with hy|hy
  ·obtain ⟨x,hx,rfl⟩:=List.mem_map.1 hy
   exact ⟨fun e=>(hx1 x hx).1 (h.sub _ e),(hx1 x hx).2⟩
  exact h.rng y hy
 ·rw [h.mem y,hU1 y,List.mem_append,or_assoc]
 have a1:=hf1 hfr
 have a2:=h.fr (fun i hi=>by rw [pgAt_eq (hrd1 i (fun e=>hi (hs i e)))];exact hfr i hi)
 rw [List.append_assoc,← a2]
 exact a1
/-! Trees on a device -/
abbrev Prr:=S69
def prOf (x : Itm) : Prr:=⟨x.f0,x.f1⟩
def Forest (T : Int → ByteArray → List Prr → List Int → Prop) : List Itm → List Prr → List Int → Prop
 | [],m,u=>m = [] ∧ u = []
 | x :: xs,m,u=>∃ m1 u1 m2 u2,T x.f2 x.f0 m1 u1 ∧ Forest T xs m2 u2 ∧ m = m1 ++ m2 ∧ u = u1 ++ u2
def knd : Nat → Int
 | 0=>1
 | _ + 1=>2
/-- What a page's items lead to: the pairs, and the sectors below. -/
def Cont (R : Int → Int × List Itm × Bool) : Nat → List Itm → List Prr → List Int → Prop
 | 0=>fun l m u=>m = l.map prOf ∧ u = []
 | d + 1=>Forest fun r k m u=>∃ l u',R r = (knd d,l,true) ∧ l ≠ [] ∧ hdK l = k ∧ Cont R d l m u' ∧ u = r :: u'
/-- A tree of a depth at a sector: its first key, its pairs, its sectors (each page ahead of those below it). -/
def TreeAt (R : Int → Int × List Itm × Bool) (d : Nat) (r : Int) (k : ByteArray) (m : List Prr) (u : List Int) : Prop:=∃ l u',R r = (knd d,l,true) ∧ l ≠ [] ∧ hdK l = k ∧ Cont R d l m u' ∧ u = r :: u'
theorem forest_app {T : Int → ByteArray → List Prr → List Int → Prop} : ∀ (a b : List Itm) (m : List Prr) (u : List Int),Forest T (a ++ b) m u ↔ ∃ m1 u1 m2 u2,Forest T a m1 u1 ∧ Forest T b m2 u2 ∧ m = m1 ++ m2 ∧ u = u1 ++ u2
 | [],b,m,u=>by
  constructor
  ·intro h;exact ⟨[],[],m,u,⟨rfl,rfl⟩,h,rfl,rfl⟩
  rintro ⟨m1,u1,m2,u2,⟨rfl,rfl⟩,h,rfl,rfl⟩;exact h
 | x :: a,b,m,u=>by
  constructor
  ·rintro ⟨m1,u1,m2,u2,h1,h2,rfl,rfl⟩
   obtain ⟨m3,u3,m4,u4,h3,h4,rfl,rfl⟩:=(forest_app a b m2 u2).1 h2
   exact ⟨m1 ++ m3,u1 ++ u3,m4,u4,⟨m1,u1,m3,u3,h1,h3,rfl,rfl⟩,h4,(List.append_assoc ..).symm,(List.append_assoc ..).symm⟩
  rintro ⟨m1,u1,m2,u2,⟨m3,u3,m4,u4,h3,h4,rfl,rfl⟩,h2,rfl,rfl⟩
  exact ⟨m3,u3,m4 ++ m2,u4 ++ u2,h3,(forest_app a b _ _).2 ⟨m4,u4,m2,u2,h4,h2,rfl,rfl⟩,List.append_assoc ..,List.append_assoc ..⟩
theorem cont_app {R : Int → Int × List Itm × Bool} (d : Nat) (a b : List Itm) (m : List Prr) (u : List Int) : Cont R d (a ++ b) m u ↔ ∃ m1 u1 m2 u2,Cont R d a m1 u1 ∧ Cont R d b m2 u2 ∧ m = m1 ++ m2 ∧ u = u1 ++ u2:=by
 cases d with
 | succ d=>exact forest_app a b m u
 | zero =>
  constructor
  ·rintro ⟨rfl,rfl⟩;exact ⟨_,[],_,[],⟨rfl,rfl⟩,⟨rfl,rfl⟩,List.map_append,rfl⟩
  rintro ⟨m1,u1,m2,u2,⟨rfl,rfl⟩,⟨rfl,rfl⟩,rfl,rfl⟩;exact ⟨List.map_append.symm,rfl⟩
/-- The pages of a level, and the next level's items over them. -/
theorem new_tree {R : Int → Int × List Itm × Bool} (d : Nat) : ∀ (gs : List (List Itm)) (new : List Itm) (m : List Prr) (u : List Int),NewOk R (knd d) gs new → (∀ g ∈ gs,g ≠ []) → Cont R d gs.flatten m u → ∃ u',Cont R (d + 1) new m u' ∧ u'.Perm (new.map (fun x=>x.f2) ++ u)
 | [],new,m,u,hN,hg,hc=>by
  rw [show new = [] from hN]
  rw [List.flatten_nil] at hc
  have : m = [] ∧ u = []:=by
   cases d with
   | zero=>exact ⟨hc.1,hc.2⟩
   | succ d=>exact hc
  obtain ⟨rfl,rfl⟩:=this
  exact ⟨[],⟨rfl,rfl⟩,List.Perm.refl _⟩
 | g :: gs,new,m,u,⟨x,xs,e,h1,h2,h3,h4⟩,hg,hc=>by
  subst e
  rw [List.flatten_cons] at hc
  obtain ⟨m1,u1,m2,u2,c1,c2,rfl,rfl⟩:=(cont_app d _ _ _ _).1 hc
  obtain ⟨u',c3,p3⟩:=new_tree d gs xs m2 u2 h4 (fun g hg'=>hg g (List.mem_cons_of_mem _ hg')) c2
  refine ⟨(x.f2 :: u1) ++ u',⟨m1,x.f2 :: u1,m2,u',⟨g,u1,h1,hg g List.mem_cons_self,h2.symm,c1,rfl⟩,c3,rfl,rfl⟩,?_⟩
  rw [List.map_cons,List.cons_append,List.cons_append]
  refine List.Perm.cons _ ?_
  refine (List.Perm.append_left u1 p3).trans ?_
  rw [← List.append_assoc,← List.append_assoc]
  exact List.Perm.append_right u2 List.perm_append_comm
/-- What is built is a tree. -/
theorem built_tree {R : Int → Int × List Itm × Bool} {S : Nat} (hS : S ≤ 400) : ∀ (n d : Nat) (its : List Itm) (r : Int) (us : List Int) (m : List Prr) (u : List Int),Built R n (knd d) its r us → (∀ x ∈ its,GoodI (knd d) S x) → KAsc its → (∀ y ∈ us,0 ≤ y ∧ y < (S : Int)) → Cont R d its m u → ∃ d' k u',TreeAt R d' r k m u' ∧ u'.Perm (us ++ u) ∧ d' + 1 ≤ d + n
 | 0,d,its,r,us,m,u,hb,_,_,_,_=>hb.elim
 | n + 1,d,its,r,us,m,u,⟨new,us',hN,e,h2⟩,hg,ha,hr,hc=>by
  subst e
  have hk : knd d = 1 ∨ knd d = 2:=by cases d <;> simp [knd]
  obtain ⟨h1,h3,_⟩:=cut_pages hk hS hg ha
  rw [← h1] at hc
  obtain ⟨u',c,p⟩:=new_tree d _ new m u hN (fun g hg'=>(h3 g hg').1) hc
  rcases h2 with ⟨x,rfl,rfl,rfl⟩|⟨h2,hb⟩
  ·obtain ⟨m1,u1,m2,u2,t,⟨rfl,rfl⟩,rfl,rfl⟩:=c
   rw [List.append_nil] at p ⊢
   rw [List.append_nil]
   exact ⟨d,x.f0,u1,t,p,by omega⟩
  obtain ⟨hg',ha'⟩:=new_good hk hS hg ha hN (fun x hx=>hr _ (List.mem_append_left _ (List.mem_map.2 ⟨x,hx,rfl⟩)))
  obtain ⟨d',k,u'',t,p',hd⟩:=built_tree hS n (d + 1) new r us' m u' hb hg' ha' (fun y hy=>hr y (List.mem_append_right _ hy)) c
  refine ⟨d',k,u'',t,p'.trans ?_,by omega⟩
  refine (List.Perm.append_left us' p).trans ?_
  rw [← List.append_assoc]
  exact List.Perm.append_right u List.perm_append_comm
theorem Forest.to {T T' : Int → ByteArray → List Prr → List Int → Prop} : ∀ {l : List Itm} {m : List Prr} {u : List Int},Forest T l m u → (∀ r k m1 u1,(∀ y ∈ u1,y ∈ u) → T r k m1 u1 → T' r k m1 u1) → Forest T' l m u
 | [],m,u,h,_=>h
 | x :: xs,m,u,⟨m1,u1,m2,u2,h1,h2,e1,e2⟩,ht=>by
  subst e1 e2
  exact ⟨m1,u1,m2,u2,ht _ _ _ _ (fun y hy=>List.mem_append_left _ hy) h1,h2.to (fun r k m1 u1 hu=>ht r k m1 u1 (fun y hy=>List.mem_append_right _ (hu y hy))),rfl,rfl⟩
theorem Cont.to {R R' : Int → Int × List Itm × Bool} : ∀ {d : Nat} {l : List Itm} {m : List Prr} {u : List Int},Cont R d l m u → (∀ y ∈ u,R' y = R y) → Cont R' d l m u
 | 0,_,_,_,h,_=>h
 | d + 1,l,m,u,h,hr=>by
  refine Forest.to (T:=TreeAt R d) h ?_
  rintro r k m1 u1 hu ⟨l1,u',h1,h2,h3,h4,e⟩
  subst e
  exact ⟨l1,u',(hr r (hu r List.mem_cons_self)).trans h1,h2,h3,h4.to (fun y hy=>hr y (hu y (List.mem_cons_of_mem _ hy))),rfl⟩
theorem TreeAt.to {R R' : Int → Int × List Itm × Bool} {d : Nat} {r : Int} {k : ByteArray} {m : List Prr} {u : List Int} (h : TreeAt R d r k m u) (hr : ∀ y ∈ u,R' y = R y) : TreeAt R' d r k m u:=by
 obtain ⟨l1,u',h1,h2,h3,h4,e⟩:=h
 subst e
 exact ⟨l1,u',(hr r List.mem_cons_self).trans h1,h2,h3,h4.to (fun y hy=>hr y (List.mem_cons_of_mem _ hy)),rfl⟩
/-- The sectors that a page names; the pairs of a leaf. -/
def chn (R : Int → Int × List Itm × Bool) (y : Int) : List Int:=if (R y).1 = 2 then (R y).2.1.map (fun x=>x.f2) else []
def lvs (R : Int → Int × List Itm × Bool) (y : Int) : List Prr:=if (R y).1 = 2 then [] else (R y).2.1.map prOf
theorem forest_chn {R : Int → Int × List Itm × Bool} {T : Int → ByteArray → List Prr → List Int → Prop} (hT : ∀ r k m u,T r k m u → u.Perm (r :: u.flatMap (chn R)) ∧ m = u.flatMap (lvs R)) : ∀ (l : List Itm) (m : List Prr) (u : List Int),Forest T l m u → u.Perm (l.map (fun x=>x.f2) ++ u.flatMap (chn R)) ∧ m = u.flatMap (lvs R)
 | [],m,u,⟨h1,h2⟩=>by subst h1 h2;exact ⟨List.Perm.refl _,rfl⟩
 | x :: xs,m,u,⟨m1,u1,m2,u2,h1,h2,e1,e2⟩=>by
  subst e1 e2
  obtain ⟨p1,q1⟩:=hT _ _ _ _ h1
  obtain ⟨p2,q2⟩:=forest_chn hT xs m2 u2 h2
  refine ⟨?_,by rw [List.flatMap_append,← q1,← q2]⟩
  rw [List.flatMap_append,List.map_cons,List.cons_append]
  refine (List.Perm.append p1 p2).trans ?_
  rw [List.cons_append]
  refine List.Perm.cons _ ?_
  rw [← List.append_assoc,← List.append_assoc]
  exact List.Perm.append_right _ List.perm_append_comm
theorem tree_chn {R : Int → Int × List Itm × Bool} : ∀ (d : Nat) (r : Int) (k : ByteArray) (m : List Prr) (u : List Int),TreeAt R d r k m u → u.Perm (r :: u.flatMap (chn R)) ∧ m = u.flatMap (lvs R)
 | 0,r,k,m,u,⟨l,u',h1,h2,h3,⟨h4,h5⟩,e⟩=>by
  subst e h4 h5
  have : chn R r = []:=by unfold chn;rw [h1];rfl
  have h6 : lvs R r = l.map prOf:=by unfold lvs;rw [h1];rfl
  simp [this,h6]
 | d + 1,r,k,m,u,⟨l,u',h1,h2,h3,h4,e⟩=>by
  subst e
  obtain ⟨p,q⟩:=forest_chn (R:=R) (T:=TreeAt R d) (tree_chn d) l m u' h4
  have : chn R r = l.map (fun x=>x.f2):=by unfold chn;rw [h1];rfl
  have h6 : lvs R r = []:=by unfold lvs;rw [h1];rfl
  rw [List.flatMap_cons,List.flatMap_cons,this,h6,List.nil_append]
  exact ⟨List.Perm.cons _ p,q⟩
theorem forest_node {R : Int → Int × List Itm × Bool} {T : Int → ByteArray → List Prr → List Int → Prop} (hT : ∀ r k m u,T r k m u → ∀ y ∈ u,(R y).2.1 ≠ [] ∧ ((R y).1 = 1 ∨ (R y).1 = 2)) : ∀ (l : List Itm) (m : List Prr) (u : List Int),Forest T l m u → ∀ y ∈ u,(R y).2.1 ≠ [] ∧ ((R y).1 = 1 ∨ (R y).1 = 2)
 | [],m,u,⟨h1,h2⟩,y,hy=>by subst h2;cases hy
 | x :: xs,m,u,⟨m1,u1,m2,u2,h1,h2,e1,e2⟩,y,hy=>by
  subst e1 e2
  rcases List.mem_append.1 hy with hy|hy
  ·exact hT _ _ _ _ h1 y hy
  exact forest_node hT xs m2 u2 h2 y hy
theorem tree_node {R : Int → Int × List Itm × Bool} : ∀ (d : Nat) (r : Int) (k : ByteArray) (m : List Prr) (u : List Int),TreeAt R d r k m u → ∀ y ∈ u,(R y).2.1 ≠ [] ∧ ((R y).1 = 1 ∨ (R y).1 = 2)
 | 0,r,k,m,u,⟨l,u',h1,h2,h3,⟨h4,h5⟩,e⟩,y,hy=>by
  subst e h4 h5
  rw [List.mem_singleton.1 hy,h1]
  exact ⟨h2,.inl rfl⟩
 | d + 1,r,k,m,u,⟨l,u',h1,h2,h3,h4,e⟩,y,hy=>by
  subst e
  rcases List.mem_cons.1 hy with rfl|hy
  ·rw [h1];exact ⟨h2,.inr rfl⟩
  exact forest_node (T:=TreeAt R d) (tree_node d) l m u' h4 y hy
def PAsc (m : List Prr) : Prop:=m.Pairwise fun a b=>keyLt a.f0 b.f0 = true
/-- Two pages of a tree whose sectors are all different aren't alike. -/
theorem tree_uniq {R : Int → Int × List Itm × Bool} {d : Nat} {r : Int} {k : ByteArray} {m : List Prr} {u : List Int} (h : TreeAt R d r k m u) (hn : u.Nodup) (ha : PAsc m) : u.Pairwise fun a b=>R a ≠ R b:=by
 obtain ⟨p,q⟩:=tree_chn d r k m u h
 have hn2 : (u.flatMap (chn R)).Nodup:=by
  have:=p.nodup_iff.1 hn
  rw [List.nodup_cons] at this
  exact this.2
 unfold List.Nodup at hn2
 rw [List.pairwise_flatMap] at hn2
 unfold PAsc at ha
 rw [q,List.pairwise_flatMap] at ha
 refine ((hn2.2.and ha.2).imp_of_mem ?_)
 rintro a b ham hbm ⟨h1,h2⟩ e
 obtain ⟨hne,hk⟩:=tree_node d r k m u h a ham
 obtain ⟨x,hx⟩:=List.exists_mem_of_ne_nil _ hne
 rcases hk with hk|hk
 ·have hl : prOf x ∈ lvs R a:=by unfold lvs;rw [if_neg (by rw [hk];decide)];exact List.mem_map.2 ⟨x,hx,rfl⟩
  have hl2 : prOf x ∈ lvs R b:=by unfold lvs at hl ⊢;rw [← e];exact hl
  have:=h2 _ hl _ hl2
  rw [keyLt_irr] at this
  cases this
 have hl : x.f2 ∈ chn R a:=by unfold chn;rw [if_pos hk];exact List.mem_map.2 ⟨x,hx,rfl⟩
 have hl2 : x.f2 ∈ chn R b:=by unfold chn at hl ⊢;rw [← e];exact hl
 exact h1 _ hl _ hl2 rfl
theorem forest_ok {R : Int → Int × List Itm × Bool} {T : Int → ByteArray → List Prr → List Int → Prop} (hT : ∀ r k m u,T r k m u → ∀ y ∈ u,(R y).2.2 = true) : ∀ (l : List Itm) (m : List Prr) (u : List Int),Forest T l m u → ∀ y ∈ u,(R y).2.2 = true
 | [],m,u,⟨h1,h2⟩,y,hy=>by subst h2;cases hy
 | x :: xs,m,u,⟨m1,u1,m2,u2,h1,h2,e1,e2⟩,y,hy=>by
  subst e1 e2
  rcases List.mem_append.1 hy with hy|hy
  ·exact hT _ _ _ _ h1 y hy
  exact forest_ok hT xs m2 u2 h2 y hy
theorem tree_okAt {R : Int → Int × List Itm × Bool} : ∀ {d : Nat} {r : Int} {k : ByteArray} {m : List Prr} {u : List Int},TreeAt R d r k m u → ∀ y ∈ u,(R y).2.2 = true
 | 0,r,k,m,u,⟨l,u',h1,h2,h3,⟨h4,h5⟩,e⟩,y,hy=>by
  subst e h4 h5
  rw [List.mem_singleton.1 hy,h1]
 | d + 1,r,k,m,u,⟨l,u',h1,h2,h3,h4,e⟩,y,hy=>by
  subst e
  rcases List.mem_cons.1 hy with rfl|hy
  ·rw [h1]
  exact forest_ok (T:=TreeAt R d) (fun r k m u h=>tree_okAt h) l m u' h4 y hy
/-! A tree placed again -/
theorem spEnd_to {s : ByteArray} {kind k : Int} {R : Bool × List Itm} {l : List Itm} (h : spEnd s kind R = (k,l,true)) : pPage k l = (s,true):=by
 unfold spEnd at h
 split at h
 ·rename_i c
  simp only [Prod.mk.injEq,and_true] at h
  obtain ⟨rfl,rfl⟩:=h
  exact pair_true c.2.1 c.2.2
 simp [noPage] at h
theorem pReadPage_to {s : ByteArray} {kind : Int} {l : List Itm} (h : pReadPage s = (kind,l,true)) : pPage kind l = (s,true):=by
 unfold pReadPage at h
 split at h
 ·exact spEnd_to h
 simp [noPage] at h
theorem fnd_find {S : List ByteArray} {P : List S96} {F : List Int} {t : ByteArray} {y : Nat} (hy : (y : Int) ∉ F) (ht : rdS S P (y : Int) = t) : ∀ (d i : Nat),i ≤ y → y < i + d → ∃ j,fnd S P F t d i = some j
 | 0,i,h0,h1=>by omega
 | d + 1,i,h0,h1=>by
  unfold fnd
  split
  ·rename_i c
   refine fnd_find hy ht d (i + 1) ?_ (by omega)
   rcases Nat.lt_or_ge i y with h|h
   ·exact h
   obtain rfl : i = y:=by omega
   exact absurd (of_decide_eq_true (by unfold inL at c;exact c)) hy
  split
  ·exact ⟨_,rfl⟩
  rename_i c2
  refine fnd_find hy ht d (i + 1) ?_ (by omega)
  rcases Nat.lt_or_ge i y with h|h
  ·exact h
  obtain rfl : i = y:=by omega
  exact absurd (by rw [show readF (i : Int) (secAt S (i : Int)) P = t from ht]) c2
/-- A page that is there, found. -/
theorem pg_again {S : List ByteArray} {P : List S96} {F L U : List Int} {kind y : Int} {it : List Itm} (hy : pgAt S P y = (kind,it,true)) (hf : y ∉ F) (h0 : 0 ≤ y) (h1 : y < (S.length : Int)) (hu : ∀ z,z ∉ F → 0 ≤ z → z < (S.length : Int) → pgAt S P z = pgAt S P y → z = y) : pgF S P F L U kind it = some (y,P,L,insW U y):=by
 have hp:=pReadPage_to hy
 obtain ⟨n,rfl⟩:=Int.eq_ofNat_of_zero_le h0
 obtain ⟨j,hj⟩:=fnd_find (S:=S) (P:=P) (F:=F) (t:=(pPage kind it).1) hf (by rw [hp]) S.length 0 (Nat.zero_le _) (by omega)
 obtain ⟨h2,h3⟩:=fnd_some _ _ _ hj
 have h4:=fnd_lt _ _ _ hj
 have e:=hu (j : Int) h2 (by omega) (by omega) (by unfold pgAt;rw [h3,hp])
 have e2 : j = n:=by omega
 subst e2
 unfold pgF
 rw [if_neg (by rw [hp];simp),hj]
theorem gs_again {S : List ByteArray} {P : List S96} {F L : List Int} {kind : Int} : ∀ (gs : List (List Itm)) (new : List Itm) (U : List Int) (r : Int) (n : List Itm),NewOk (pgAt S P) kind gs new → (∀ x ∈ new,x.f2 ∉ F ∧ (0 ≤ x.f2 ∧ x.f2 < (S.length : Int)) ∧ ∀ z,z ∉ F → 0 ≤ z → z < (S.length : Int) → pgAt S P z = pgAt S P x.f2 → z = x.f2) → Inv S P L U →
  ∃ U',gsF S F kind gs P L U r n = some (P,L,U',lastF r new,n ++ new) ∧ Inv S P L U' ∧ ∀ y,y ∈ U' ↔ y ∈ U ∨ y ∈ new.map (fun x=>x.f2)
 | [],new,U,r,n,hN,hu,hI=>by
  rw [show new = [] from hN]
  exact ⟨U,by rw [gsF,List.append_nil];rfl,hI,fun y=>by simp⟩
 | g :: gs,new,U,r,n,⟨x,xs,e,h1,h2,h3,h4⟩,hu,hI=>by
  subst e
  obtain ⟨hx1,hx2,hx3⟩:=hu x List.mem_cons_self
  have ep:=pg_again (L:=L) (U:=U) h1 hx1 hx2.1 hx2.2 hx3
  obtain ⟨hI1,_,_⟩:=pgF_inv hI ep
  obtain ⟨U',e2,hI2,hm⟩:=gs_again gs xs (insW U x.f2) x.f2 (n ++ [x]) h4 (fun y hy=>hu y (List.mem_cons_of_mem _ hy)) hI1
  refine ⟨U',?_,hI2,fun y=>?_⟩
  ·rw [gsF,ep]
   simp only
   have ex : (⟨(rd_T71 g 0).f0,⟨#[]⟩,x.f2⟩ : Itm) = x:=by
    cases x with
    | mk a b c =>
     simp only at h2 h3
     rw [h2,h3]
     rfl
   rw [ex,e2,List.append_assoc]
   rfl
  rw [hm y,List.map_cons,List.mem_cons,mem_insW]
  constructor
  ·rintro ((h|h)|h)
   ·exact .inr (.inl h)
   ·exact .inl h
   exact .inr (.inr h)
  rintro (h|h|h)
  ·exact .inl (.inr h)
  ·exact .inl (.inl h)
  exact .inr h
theorem lv_again {S : List ByteArray} {P : List S96} {F L : List Int} (hF : F.length ≤ 1048576) : ∀ (f n : Nat) (kind : Int) (its : List Itm) (U : List Int) (root r : Int) (us : List Int),Built (pgAt S P) f kind its r us → (kind = 1 ∨ kind = 2) → (∀ x ∈ its,GoodI kind S.length x) → KAsc its → its ≠ [] → its.length ≤ 1000 → (∀ y ∈ us,y ∉ F ∧ (0 ≤ y ∧ y < (S.length : Int)) ∧ ∀ z,z ∉ F → 0 ≤ z → z < (S.length : Int) → pgAt S P z = pgAt S P y → z = y) → Inv S P L U → f ≤ n →
  ∃ U',impl_tree.levels F n kind its S P L U root = some (true,S,P,U',r) ∧ Inv S P L U' ∧ ∀ y,y ∈ U' ↔ y ∈ U ∨ y ∈ us
 | 0,_,_,_,_,_,_,_,h,_,_,_,_,_,_,_,_=>h.elim
 | f + 1,0,_,_,_,_,_,_,_,_,_,_,_,_,_,_,hn=>by omega
 | f + 1,n + 1,kind,its,U,root,r,us,⟨new,us',hN,e,h2⟩,hk,hg,ha,hne,hl,hu,hI,hn=>by
  subst e
  have h400:=(devOk_t hI.dev).1.2.1
  obtain ⟨c1,c2,c3⟩:=cut_pages hk h400 hg ha
  have hnew : ∀ x ∈ new,x.f2 ∈ new.map (fun x=>x.f2) ++ us':=fun x hx=>List.mem_append_left _ (List.mem_map.2 ⟨x,hx,rfl⟩)
  obtain ⟨hg',ha'⟩:=new_good hk h400 hg ha hN (fun x hx=>(hu _ (hnew x hx)).2.1)
  obtain ⟨U1,e1,hI1,hm1⟩:=gs_again (P:=P) (F:=F) (L:=L) (cutP kind [] its) new U root [] hN (fun x hx=>hu _ (hnew x hx)) hI
  rw [List.nil_append] at e1
  have hlen:=cut_len kind its []
  simp only [List.length_nil] at hlen
  rw [if_neg (by omega)] at hlen
  have hnl:=hN.len
  have hi:=gs_impl hF (cutP kind [] its) P L U root [] _ _ _ _ _ hI (fun g hgm=>⟨(c2 g hgm).1,by have:=(c2 g hgm).2.2.1;omega,fun x hx'=>by have:=((c2 g hgm).2.2.2 x hx').sm;exact ⟨by omega,by omega⟩⟩) (by rw [List.length_nil];omega) e1
  rw [impl_tree.levels,if_neg (fun h=>hne (List.length_eq_zero_iff.1 h)),ev_lim (iCutItems kind its (by omega) (fun x hx'=>by have:=(hg x hx').sm;exact ⟨by omega,by omega⟩)),Option.bind_some,hi,Option.bind_some]
  simp only
  rw [if_neg (show ¬ (true = false) by simp)]
  rcases h2 with ⟨x,rfl,rfl,rfl⟩|⟨h2,hb⟩
  ·rw [if_pos (show [x].length = 1 from rfl)]
   exact ⟨U1,rfl,hI1,fun y=>by rw [hm1 y,List.append_nil]⟩
  rw [if_neg (by omega)]
  obtain ⟨U2,e2,hI2,hm2⟩:=lv_again hF f n 2 new U1 (lastF root new) r us' hb (.inr rfl) hg' ha' (fun h=>by rw [h] at h2;simp at h2) (by omega) (fun y hy=>hu y (List.mem_append_right _ hy)) hI1 (by omega)
  exact ⟨U2,e2,hI2,fun y=>by rw [hm2 y,hm1 y,List.mem_append,or_assoc]⟩
theorem iRV_go (s : ByteArray) (hs : s.size ≤ 140737488351232) (a : Nat) : ∀ (f c : Nat) (n : Int),c + f = 5 → a + c ≤ s.size → 0 ≤ n → n < 128 ^ c →
  Ev (fun k=>impl_ReadVar.l0 k s a n (128 ^ c) ((a + c : Nat) : Int)) (rvRes a (rvGo f n (128 ^ c) c ((bl s).drop (a + c))))
 | 0,c,n,hf,hc,h0,h1=>by
  have h5 : qo (¬ ((a + c : Nat) : Int) < wrap64 ((a : Int) + 5)):=⟨by rw [wid (by omega) (by omega)];omega⟩
  simp only [rvGo,rvRes]
  have : Ev (fun k=>impl_ReadVar.j1 k s a n (128 ^ c) ((a + c : Nat) : Int) false) (0,0,false):=(Ev.now _).to fun k=>by simp only [impl_ReadVar.j1];rw [if_neg (by decide)]
  refine this.to fun k=>?_
  simp only [impl_ReadVar.l0]
  rw [decide_eq_false h5.out,ite_self]
 | f + 1,c,n,hf,hc,h0,h1=>by
  have h5 : qo (((a + c : Nat) : Int) < wrap64 ((a : Int) + 5)):=⟨by rw [wid (by omega) (by omega)];omega⟩
  by_cases hi : a + c < s.size
  ·have hb:=bt_range s ((a + c : Nat) : Int)
   have hp:=pow128 (c:=c) (by omega)
   rw [bl_cons hi]
   generalize hB : bt s ((a + c : Nat) : Int) = b at *
   have hx0 : 0 ≤ b % 128 * 128 ^ c:=Int.mul_nonneg (by omega) (by omega)
   have hx1 : b % 128 * 128 ^ c ≤ 127 * 128 ^ c:=Int.mul_le_mul_of_nonneg_right (by omega) (by omega)
   have e1 : qo (wrap64 (n + wrap64 (Int.tmod (wrap64 b) 128 * 128 ^ c)) = n + b % 128 * 128 ^ c):=⟨by
    rw [wid (n:=b) (by omega) (by omega),tmod_pos hb.1,wid (n:=b % 128 * 128 ^ c) (by omega) (by omega),wid (by omega) (by omega)]⟩
   have e2 : qo (wrap64 (((a + c : Nat) : Int) + 1) = ((a + (c + 1) : Nat) : Int)):=⟨by rw [wid (by omega) (by omega)];omega⟩
   by_cases h8 : b < 128
   ·simp only [rvGo]
    rw [if_pos h8]
    have : Ev (fun k=>impl_ReadVar.j1 k s a n (128 ^ c) ((a + c : Nat) : Int) true) (rvRes a (if (b = 0 ∧ 0 < c) ∨ n + b % 128 * 128 ^ c > 1000000000 then none else some (n + b % 128 * 128 ^ c,c + 1))):=by
     refine (Ev.now _).to fun k=>?_
     simp only [impl_ReadVar.j1,if_true]
     rw [if_pos (by omega),if_pos (by omega),hB,e1.out,e2.out,wid (n:=b) (by omega) (by omega),if_pos h8]
     by_cases hz : b = 0
     ·rw [if_pos hz]
      by_cases hc0 : 0 < c
      ·rw [if_pos (by omega),if_pos (.inl ⟨hz,hc0⟩)];rfl
      rw [if_neg (by omega)]
      by_cases hm : n + b % 128 * 128 ^ c > 1000000000
      ·rw [if_pos hm,if_pos (.inr hm)];rfl
      rw [if_neg hm,if_neg (by omega)];simp only [rvRes];congr 3
     rw [if_neg hz]
     by_cases hm : n + b % 128 * 128 ^ c > 1000000000
     ·rw [if_pos hm,if_pos (.inr hm)];rfl
     rw [if_neg hm,if_neg (by omega)];simp only [rvRes];congr 3
    refine this.to fun k=>?_
    simp only [impl_ReadVar.l0]
    rw [if_pos (by omega),decide_eq_true h5.out]
   simp only [rvGo]
   rw [if_neg h8]
   have ih:=iRV_go s hs a f (c + 1) (n + b % 128 * 128 ^ c) (by omega) (by omega) (by omega) (by rw [Int.pow_succ];omega)
   rw [Int.pow_succ] at ih
   have : Ev (fun k=>impl_ReadVar.j1 k s a n (128 ^ c) ((a + c : Nat) : Int) true) (rvRes a (rvGo f (n + b % 128 * 128 ^ c) (128 ^ c * 128) (c + 1) ((bl s).drop (a + (c + 1))))):=by
    refine ih.to fun k=>?_
    simp only [impl_ReadVar.j1,if_true]
    rw [if_pos (by omega),if_pos (by omega),hB,e1.out,e2.out,wid (n:=b) (by omega) (by omega),if_neg h8,wid (n:=128 ^ c * 128) (by omega) (by omega)]
   refine this.to fun k=>?_
   simp only [impl_ReadVar.l0]
   rw [if_pos (by omega),decide_eq_true h5.out]
  rw [bl_end (by omega)]
  simp only [rvGo,rvRes]
  have : Ev (fun k=>impl_ReadVar.j1 k s a n (128 ^ c) ((a + c : Nat) : Int) false) (0,0,false):=(Ev.now _).to fun k=>by simp only [impl_ReadVar.j1];rw [if_neg (by decide)]
  refine this.to fun k=>?_
  simp only [impl_ReadVar.l0]
  rw [if_neg (by omega)]
theorem iReadVar (s : ByteArray) (hs : s.size ≤ 140737488351232) (a : Int) : Ev (fun k=>impl_ReadVar.f k s a) (pReadVar s a):=by
 unfold impl_ReadVar.f pReadVar
 by_cases h : 0 ≤ a ∧ a ≤ s.size
 ·rw [i_in_t h,if_pos h]
  simp only [Option.bind_some,if_true]
  have:=iRV_go s hs a.toNat 5 0 0 rfl (by omega) (by omega) (by decide)
  simp only [Nat.add_zero,Int.pow_zero,Int.toNat_of_nonneg h.1] at this
  exact this
 rw [i_in_f h,if_neg h]
 simp only [Option.bind_some,Bool.false_eq_true,if_false]
 exact Ev.now _
theorem iReadShort (s : ByteArray) (hs : s.size ≤ 140737488351232) (a : Int) : Ev (fun k=>impl_ReadShort.f k s a) (pReadShort s a):=by
 unfold impl_ReadShort.f
 refine (iReadVar s hs a).bind ?_
 unfold pReadShort
 rcases pReadVar_cases s a with e|⟨n,next,e⟩
 ·rw [e]
  simp only [Bool.false_eq_true,false_and,if_false]
  exact Ev.now _
 obtain ⟨c,h0,hn,_,_,hc,h1,h2⟩:=pReadVar_some e
 rw [e]
 simp only [true_and,if_true]
 have w1 : wrap64 ((s.size : Int) - next) = (s.size : Int) - next:=wid (by omega) (by omega)
 have w2 : wrap64 (next + n) = next + n:=wid (by omega) (by omega)
 rw [w1,w2];clear w1 w2
 by_cases h8 : n ≤ 8000
 ·by_cases h9 : n ≤ (s.size : Int) - next
  ·rw [if_neg (by omega),if_neg (by omega),if_pos (by omega),if_pos (by omega),if_pos (by omega),if_pos ⟨h8,h9⟩]
   exact Ev.now _
  rw [if_neg (by omega),if_pos (by omega),if_neg (fun h=>h9 h.2)]
  exact Ev.now _
 rw [if_pos (by omega),if_neg (fun h=>h8 h.1)]
 exact Ev.now _
theorem sealed_bl (s : ByteArray) : bl (s ++ strOfNums (four (sumB s))) = bl s ++ four (sumB s):=by rw [bl_app,bl_str (four_byt _)]
theorem iUnsealed (s : ByteArray) (hs : s.size ≤ 140737488351232) : Ev (fun k=>impl_Unsealed.f k s) (pUnsealed s):=by
 unfold impl_Unsealed.f pUnsealed
 have w : wrap64 ((s.size : Int) - 4) = (s.size : Int) - 4:=wid (by omega) (by omega)
 rw [w];clear w
 by_cases h4 : 4 ≤ s.size
 ·have e : ((s.size : Int) - 4).toNat = s.size - 4:=by omega
  simp only [if_neg (show ¬ (s.size : Int) < 4 by omega),if_pos (show 0 ≤ (s.size : Int) - 4 by omega),if_pos (show (s.size : Int) - 4 ≤ s.size by omega),e]
  refine (iSealed (cutB s) (by rw [cutB_size];omega)).bind ?_
  have hcs:=cutB_size s
  by_cases h8 : s.size - 4 ≤ 8000
  ·have e1 : pSealed (cutB s) = (cutB s ++ strOfNums (four (sumB (cutB s))),true):=by unfold pSealed;rw [if_neg (by omega)]
   rw [e1]
   have hiff : (cutB s ++ strOfNums (four (sumB (cutB s)))).toList = s.toList ↔ (bl s).drop (s.size - 4) = four (sumB (cutB s)):=by
    rw [tl_bl,sealed_bl,cutB_bl]
    conv=>lhs;rhs;rw [← List.take_append_drop (s.size - 4) (bl s)]
    rw [List.append_cancel_left_eq]
    exact eq_comm
   by_cases hh : (bl s).drop (s.size - 4) = four (sumB (cutB s))
   ·rw [if_pos (⟨h4,h8,hh⟩ : 4 ≤ s.size ∧ s.size - 4 ≤ 8000 ∧ (bl s).drop (s.size - 4) = four (sumB (cutB s)))]
    simp only [if_true]
    exact Ev.same (if_pos (hiff.2 hh))
   rw [if_neg (fun h : 4 ≤ s.size ∧ s.size - 4 ≤ 8000 ∧ (bl s).drop (s.size - 4) = four (sumB (cutB s))=>hh h.2.2)]
   simp only [if_true]
   exact Ev.same (if_neg (fun h=>hh (hiff.1 h)))
  have e1 : pSealed (cutB s) = (⟨#[]⟩,false):=by unfold pSealed;rw [if_pos (by omega)]
  rw [e1,if_neg (fun h : 4 ≤ s.size ∧ s.size - 4 ≤ 8000 ∧ (bl s).drop (s.size - 4) = four (sumB (cutB s))=>h8 h.2.1)]
  simp only [Bool.false_eq_true,if_false]
  exact Ev.now _
 rw [if_neg (fun h : 4 ≤ s.size ∧ s.size - 4 ≤ 8000 ∧ (bl s).drop (s.size - 4) = four (sumB (cutB s))=>h4 h.1)]
 exact Ev.ifp (by omega) (Ev.now _)
theorem rS_b (b : ByteArray) (a : Int) : rS b a true = (noB,a,true):=if_pos rfl
theorem rS_y {b : ByteArray} {a : Int} (h : (pReadShort b a).2.2 = true) : rS b a false = ((pReadShort b a).1,(pReadShort b a).2.1,false):=(if_neg (by decide)).trans (if_pos h)
theorem rS_n {b : ByteArray} {a : Int} (h : ¬ (pReadShort b a).2.2 = true) : rS b a false = (noB,a,true):=(if_neg (by decide)).trans (if_neg h)
theorem rV_b (b : ByteArray) (a : Int) : rV b a true = (0,a,true):=if_pos rfl
theorem rV_y {b : ByteArray} {a : Int} (h : (pReadVar b a).2.2 = true) : rV b a false = ((pReadVar b a).1,(pReadVar b a).2.1,false):=(if_neg (by decide)).trans (if_pos h)
theorem rV_n {b : ByteArray} {a : Int} (h : ¬ (pReadVar b a).2.2 = true) : rV b a false = (0,a,true):=(if_neg (by decide)).trans (if_neg h)
theorem i_short (b : ByteArray) (hb : b.size ≤ 8000) (a : Int) (bad : Bool) : Ev (fun k=>impl_reader_short.f k b a bad) ((rS b a bad).1,b,(rS b a bad).2.1,(rS b a bad).2.2):=by
 unfold impl_reader_short.f
 refine (iReadShort b (by omega) a).bind ?_
 cases bad
 ·refine Ev.ifn (by decide) ?_
  by_cases h' : (pReadShort b a).2.2 = true
  ·rw [rS_y h']
   exact Ev.ifp h' (Ev.now _)
  rw [rS_n h']
  exact Ev.ifn h' (Ev.now _)
 rw [rS_b]
 exact Ev.ifp rfl (Ev.now _)
theorem i_num (b : ByteArray) (hb : b.size ≤ 8000) (a : Int) (bad : Bool) : Ev (fun k=>impl_reader_num.f k b a bad) ((rV b a bad).1,b,(rV b a bad).2.1,(rV b a bad).2.2):=by
 unfold impl_reader_num.f
 refine (iReadVar b (by omega) a).bind ?_
 cases bad
 ·refine Ev.ifn (by decide) ?_
  by_cases h' : (pReadVar b a).2.2 = true
  ·rw [rV_y h']
   exact Ev.ifp h' (Ev.now _)
  rw [rV_n h']
  exact Ev.ifn h' (Ev.now _)
 rw [rV_b]
 exact Ev.ifp rfl (Ev.now _)
theorem rS_bd (b : ByteArray) (hb : b.size ≤ 8000) (a : Int) (bad : Bool) : (rS b a bad).1.size ≤ 8000 ∧ ((rS b a bad).2.2 = false → bad = false ∧ a + 1 ≤ (rS b a bad).2.1 ∧ (rS b a bad).2.1 ≤ b.size):=by
 unfold rS
 by_cases h : bad = true
 ·rw [if_pos h];exact ⟨Nat.zero_le _,fun h=>by simp at h⟩
 rw [if_neg h]
 by_cases h' : (pReadShort b a).2.2 = true
 ·rw [if_pos h']
  have:=rShort_bd h'
  exact ⟨this.2.2.2,fun _=>⟨by simpa using h,this.2.1,this.2.2.1⟩⟩
 rw [if_neg h'];exact ⟨Nat.zero_le _,fun h=>by simp at h⟩
theorem rV_bd (b : ByteArray) (a : Int) (bad : Bool) : 0 ≤ (rV b a bad).1 ∧ (rV b a bad).1 ≤ 1000000000 ∧ ((rV b a bad).2.2 = false → bad = false ∧ a + 1 ≤ (rV b a bad).2.1 ∧ (rV b a bad).2.1 ≤ b.size):=by
 unfold rV
 by_cases h : bad = true
 ·rw [if_pos h];exact ⟨Int.le_refl 0,show (0 : Int) ≤ 1000000000 by decide,fun h=>by simp at h⟩
 rw [if_neg h]
 by_cases h' : (pReadVar b a).2.2 = true
 ·rw [if_pos h']
  have:=rVar_bd h'
  exact ⟨this.2.2.2.1,this.2.2.2.2,fun _=>⟨by simpa using h,this.2.1,this.2.2.1⟩⟩
 rw [if_neg h'];exact ⟨Int.le_refl 0,show (0 : Int) ≤ 1000000000 by decide,fun h=>by simp at h⟩
theorem iRP_end (s b : ByteArray) (n a : Int) (bad : Bool) (kind : Int) (acc : List It) (hl : acc.length ≤ 1048576) (hO : ∀ x ∈ acc,OkIt x) : Ev (fun k=>impl_ReadPage.j1 k s n false b a bad kind acc) (imEnd s kind b (a,bad,acc)):=by
 refine Ev.to (f:=fun k=>(impl_PageText.f k kind acc).bind fun bt272=>(impl_reader_ends.f b a bad).bind fun bt274=>if bt274.1 = true then (if bt272.2 = true then (if bt272.1.toList = s.toList then (some (kind,acc,true)) else (some (0,([] : List It),false))) else (some (0,([] : List It),false))) else (some (0,([] : List It),false))) ?_ fun k=>by simp only [impl_ReadPage.j1];rw [if_neg (by decide)]
 refine (iPageText kind acc hl hO).bind ?_
 have e : impl_reader_ends.f b a bad = some (decide (bad = false ∧ a = (b.size : Int)),b,a,bad):=by
  unfold impl_reader_ends.f
  cases bad
  ·rw [if_neg (by decide)]
   congr 2
   by_cases h : a = (b.size : Int)
   ·rw [decide_eq_true ⟨rfl,h⟩,beq_iff_eq];exact h
   rw [decide_eq_false (fun g=>h g.2),beq_eq_false_iff_ne];exact h
  rw [if_pos rfl,decide_eq_false (fun g=>by simp at g)]
 rw [e]
 simp only [Option.bind_some]
 by_cases h1 : bad = false ∧ a = (b.size : Int)
 ·rw [decide_eq_true h1]
  by_cases h2 : (pPage kind acc).2 = true
  ·by_cases h3 : (pPage kind acc).1 = s
   ·rw [imEnd_y ⟨h1,h2,h3⟩]
    exact Ev.ifp rfl (Ev.ifp h2 (Ev.ifp (tl_inj.2 h3) (Ev.now _)))
   rw [imEnd_n (fun h=>h3 h.2.2)]
   exact Ev.ifp rfl (Ev.ifp h2 (Ev.ifn (fun h=>h3 (tl_inj.1 h)) (Ev.now _)))
  rw [imEnd_n (fun h=>h2 h.2.1)]
  exact Ev.ifp rfl (Ev.ifn h2 (Ev.now _))
 rw [imEnd_n (fun h=>h1 h.1),decide_eq_false h1]
 exact Ev.ifn (by decide) (Ev.now _)
theorem iRP_go (s b : ByteArray) (hb : b.size ≤ 8000) (kind : Int) : ∀ (d : Nat) (a : Int) (bad : Bool) (acc : List It),d ≤ 1000000000 → acc.length ≤ 9000 → (bad = false → (acc.length : Int) ≤ a ∧ a ≤ b.size) → (∀ x ∈ acc,OkIt x) → Ev (fun k=>impl_ReadPage.l0 k s (d : Int) b a bad kind acc) (imEnd s kind b (imG kind b d a bad acc))
 | 0,a,bad,acc,hd,hl,hr,hO=>by
  rw [imG]
  refine (iRP_end s b 0 a bad kind acc (by omega) hO).to fun k=>?_
  simp only [impl_ReadPage.l0]
  rw [if_neg (by decide)]
  rfl
 | d + 1,a,bad,acc,hd,hl,hr,hO=>by
  have w : qo (wrap64 (((d + 1 : Nat) : Int) - 1) = (d : Int)):=⟨by rw [wid (by omega) (by omega)];omega⟩
  refine Ev.to (f:=fun k=>impl_ReadPage.j1 k s ((d + 1 : Nat) : Int) (!bad) b a bad kind acc) ?_ fun k=>by simp only [impl_ReadPage.l0];rw [if_pos (by omega)]
  rw [imG]
  by_cases h1 : bad = true
  ·rw [if_pos h1]
   subst h1
   exact iRP_end s b _ a true kind acc (by omega) hO
  have e : bad = false:=by simpa using h1
  subst e
  obtain ⟨ha,hab⟩:=hr rfl
  rw [if_neg (by decide)]
  have k1:=rS_bd b hb a false
  by_cases h2 : kind = 2
  ·rw [if_pos h2]
   have k2:=rV_bd b (rS b a false).2.1 (rS b a false).2.2
   have ok : OkIt ⟨(rS b a false).1,noB,(rV b (rS b a false).2.1 (rS b a false).2.2).1⟩:=⟨by show (rS b a false).1.size ≤ _;omega,Nat.zero_le _⟩
   have ih:=iRP_go s b hb kind d (rV b (rS b a false).2.1 (rS b a false).2.2).2.1 (rV b (rS b a false).2.1 (rS b a false).2.2).2.2 (acc ++ [⟨(rS b a false).1,noB,(rV b (rS b a false).2.1 (rS b a false).2.2).1⟩]) (by omega) (by rw [List.length_append,List.length_singleton];omega) (fun h=>by
    have q2:=k2.2.2 h
    have q1:=k1.2 q2.1
    rw [List.length_append,List.length_singleton]
    omega) (snocOk hO ok)
   refine Ev.to (f:=fun k=>(impl_reader_short.f k b a false).bind fun bt253=>(impl_reader_num.f k bt253.2.1 bt253.2.2.1 bt253.2.2.2).bind fun bt258=>if acc.length < 3518437208883 then (impl_ReadPage.l0 k s (d : Int) bt258.2.1 bt258.2.2.1 bt258.2.2.2 kind (acc ++ [(⟨bt253.1,noB,bt258.1⟩ : It)])) else none) ((i_short b hb a false).bind ((i_num b hb _ _).bind (Ev.ifp (by omega) ih))) fun k=>?_
   simp only [impl_ReadPage.j1,w.out,Bool.not_false,if_true,if_pos h2]
   rfl
  rw [if_neg h2]
  have k2:=rS_bd b hb (rS b a false).2.1 (rS b a false).2.2
  have ok : OkIt ⟨(rS b a false).1,(rS b (rS b a false).2.1 (rS b a false).2.2).1,0⟩:=⟨by show (rS b a false).1.size ≤ _;omega,by show (rS b (rS b a false).2.1 (rS b a false).2.2).1.size ≤ _;omega⟩
  have ih:=iRP_go s b hb kind d (rS b (rS b a false).2.1 (rS b a false).2.2).2.1 (rS b (rS b a false).2.1 (rS b a false).2.2).2.2 (acc ++ [⟨(rS b a false).1,(rS b (rS b a false).2.1 (rS b a false).2.2).1,0⟩]) (by omega) (by rw [List.length_append,List.length_singleton];omega) (fun h=>by
   have q2:=k2.2 h
   have q1:=k1.2 q2.1
   rw [List.length_append,List.length_singleton]
   omega) (snocOk hO ok)
  refine Ev.to (f:=fun k=>(impl_reader_short.f k b a false).bind fun bt253=>(impl_reader_short.f k bt253.2.1 bt253.2.2.1 bt253.2.2.2).bind fun bt265=>if acc.length < 3518437208883 then (impl_ReadPage.l0 k s (d : Int) bt265.2.1 bt265.2.2.1 bt265.2.2.2 kind (acc ++ [(⟨bt253.1,bt265.1,0⟩ : It)])) else none) ((i_short b hb a false).bind ((i_short b hb _ _).bind (Ev.ifp (by omega) ih))) fun k=>?_
  simp only [impl_ReadPage.j1,w.out,Bool.not_false,if_true,if_neg h2]
theorem i_one (b : ByteArray) (hb : b.size ≤ 8000) : impl_reader_one.f b 0 false = some ((rO b).1,b,(rO b).2.1,(rO b).2.2):=by
 unfold impl_reader_one.f rO
 rw [if_neg (by decide)]
 have w2 : wrap64 (0 + 1) = 1:=wid (by omega) (by omega)
 have w1 : wrap64 (wrap64 (0 + 1) - 1) = 0:=by rw [w2];exact wid (by omega) (by omega)
 rw [w1,w2]
 by_cases h : 1 ≤ b.size
 ·have h0:=bt_range b 0
  have w : wrap64 (bt b 0) = bt b 0:=wid (by omega) (by omega)
  rw [if_neg (by omega),if_pos (by omega),if_pos (by omega),if_pos h,w]
 rw [if_pos (by omega),if_neg h]
theorem iReadPage_ (s : ByteArray) (hs : s.size ≤ 140737488351232) : Ev (fun k=>impl_ReadPage.f k s) (iReadP s):=by
 have hb:=unsealed_size (s:=s)
 unfold impl_ReadPage.f
 refine (iUnsealed s hs).bind ?_
 unfold iReadP
 by_cases h : (pUnsealed s).2 = true
 ·rw [if_pos h]
  refine Ev.ifp h ?_
  generalize (pUnsealed s).1 = b at hb ⊢
  simp only [impl_newReader.f,Option.bind_some]
  rw [i_one b hb]
  simp only [Option.bind_some]
  refine (i_num b hb _ _).bind ?_
  have kv:=rV_bd b (rO b).2.1 (rO b).2.2
  have ho : (rO b).2.2 = false → 0 ≤ (rO b).2.1:=by unfold rO;split <;> simp
  have g:=iRP_go s b hb (rO b).1 (rV b (rO b).2.1 (rO b).2.2).1.toNat (rV b (rO b).2.1 (rO b).2.2).2.1 (rV b (rO b).2.1 (rO b).2.2).2.2 [] (by omega) (by simp) (fun h=>by
   have q:=kv.2.2 h
   have:=ho q.1
   simp only [List.length_nil]
   omega) (fun x hx=>by simp at hx)
  rw [Int.toNat_of_nonneg kv.1] at g
  exact g
 rw [if_neg h]
 exact Ev.ifn h (Ev.now _)
theorem iReadPage (s : ByteArray) (hs : s.size ≤ 140737488351232) : Ev (fun k=>impl_ReadPage.f k s) (pReadPage s):=by
 rw [← readP_eq]
 exact iReadPage_ s hs
theorem iReadSector (s : List ByteArray) (p : List S96) (a : Int) (hs : s.length ≤ 1048576) (hp : p.length ≤ 1048576) : Ev (fun k=>impl_ReadSector.f k s p a) (pReadSector s p a):=by
 unfold impl_ReadSector.f pReadSector
 refine (iDeviceOk s p hs hp).bind ?_
 by_cases h : devOk s p = true
 ·refine Ev.ifp h ?_
  have w : wrap64 ((s.length : Int) - 1) = (s.length : Int) - 1:=wid (by omega) (by omega)
  rw [w,i_in];clear w
  simp only [Option.bind_some]
  by_cases h2 : 0 ≤ a ∧ a < s.length
  ·rw [if_pos ⟨h,h2⟩]
   exact Ev.ifp (decide_eq_true ⟨h2.1,by omega⟩) ((ireadSector s p a hp h2.1 h2.2).bind (Ev.now _))
  rw [if_neg (fun g=>h2 g.2)]
  exact Ev.ifn (by rw [decide_eq_true_eq];omega) (Ev.now _)
 rw [if_neg (fun g=>h g.1)]
 exact Ev.ifn h (Ev.now _)
/-! A tree read -/
def insAll (U us : List Int) : List Int:=us.foldl insW U
theorem mem_insAll : ∀ (us U : List Int) (y : Int),y ∈ insAll U us ↔ y ∈ U ∨ y ∈ us
 | [],U,y=>by simp [insAll]
 | x :: us,U,y=>by
  have:=mem_insAll us (insW U x) y
  unfold insAll at this ⊢
  rw [List.foldl_cons,this,mem_insW,List.mem_cons]
  constructor
  ·rintro ((h|h)|h)
   ·exact .inr (.inl h)
   ·exact .inl h
   exact .inr (.inr h)
  rintro (h|h|h)
  ·exact .inl (.inr h)
  ·exact .inl (.inl h)
  exact .inr h
theorem insAll_asc : ∀ (us U : List Int),Asc U → Asc (insAll U us)
 | [],U,h=>h
 | x :: us,U,h=>insAll_asc us (insW U x) (insW_asc h x)
theorem insAll_app (U a b : List Int) : insAll U (a ++ b) = insAll (insAll U a) b:=by unfold insAll;rw [List.foldl_append]
theorem asc_ext : ∀ {a b : List Int},Asc a → Asc b → (∀ y,y ∈ a ↔ y ∈ b) → a = b
 | [],[],_,_,_=>rfl
 | [],y :: b,_,_,h=>by have:=(h y).2 List.mem_cons_self;cases this
 | x :: a,[],_,_,h=>by have:=(h x).1 List.mem_cons_self;cases this
 | x :: a,y :: b,ha,hb,h=>by
  unfold Asc at ha hb
  rw [List.pairwise_cons] at ha hb
  have e : x = y:=by
   rcases List.mem_cons.1 ((h x).1 List.mem_cons_self) with e|e
   ·exact e
   rcases List.mem_cons.1 ((h y).2 List.mem_cons_self) with e2|e2
   ·exact e2.symm
   have:=ha.1 y e2
   have:=hb.1 x e
   omega
  subst e
  congr 1
  refine asc_ext ha.2 hb.2 (fun z=>?_)
  constructor
  ·intro hz
   have:=ha.1 z hz
   rcases List.mem_cons.1 ((h z).1 (List.mem_cons_of_mem _ hz)) with e|e
   ·omega
   exact e
  intro hz
  have:=hb.1 z hz
  rcases List.mem_cons.1 ((h z).2 (List.mem_cons_of_mem _ hz)) with e|e
  ·omega
  exact e
theorem readF_small (a : Int) : ∀ (p : List S96) (s : ByteArray),s.size ≤ 64 → (∀ x ∈ p,x.f1.size ≤ 64) → (readF a s p).size ≤ 64
 | [],s,hs,_=>hs
 | x :: p,s,hs,h=>by
  rw [readF_cons]
  refine readF_small a p _ ?_ (fun y hy=>h y (List.mem_cons_of_mem _ hy))
  split
  ·exact h x List.mem_cons_self
  exact hs
theorem rdS_size {S : List ByteArray} {P : List S96} (hd : devOk S P = true) {i : Int} (h0 : 0 ≤ i) (h1 : i < (S.length : Int)) : (rdS S P i).size ≤ 64:=by
 obtain ⟨_,hs,hp⟩:=devOk_t hd
 refine readF_small i P _ ?_ (fun x hx=>(hp x hx).2.2)
 unfold secAt rdOf
 rw [List.getD_eq_getElem?_getD,List.getElem?_eq_getElem (by omega)]
 exact hs _ (List.getElem_mem _)
theorem walk_leaf (pg : Int → ByteArray → Wst → Option Wst) : ∀ (l : List Itm) (s : Wst),s.1.length + l.length ≤ 1000 → impl_walk.items pg 1 l s = some (s.1 ++ l.map prOf,s.2)
 | [],s,_=>by rw [impl_walk.items,List.map_nil,List.append_nil]
 | x :: l,s,h=>by
  rw [List.length_cons] at h
  rw [impl_walk.items,if_pos rfl,if_pos (by omega),walk_leaf pg l _ (by simp only [List.length_append,List.length_singleton];omega),List.map_cons,List.append_assoc]
  rfl
/-- What reading a tree adds to what has been read. -/
structure WkOk (n : Nat) (m : List Prr) (u : List Int) (D : Int) (m0 : List Prr) (U0 : List Int) (rd0 lf0 : Int) : Prop where
 asc : Asc U0
 rng : ∀ x ∈ U0,0 ≤ x ∧ x < (n : Int)
 rngu : ∀ x ∈ u,0 ≤ x ∧ x < (n : Int)
 r0 : 0 ≤ rd0
 r1 : rd0 + u.length ≤ 400
 lf : lf0 = 0 ∨ lf0 = D
 ml : m0.length + m.length ≤ 1000
theorem walk_items {n : Nat} {T : Int → ByteArray → List Prr → List Int → Prop} {D : Int} (pg : Int → ByteArray → Wst → Option Wst) (hT : ∀ r k m u,T r k m u → ∀ m0 U0 rd0 lf0,WkOk n m u D m0 U0 rd0 lf0 → pg r k (m0,U0,rd0,lf0) = some (m0 ++ m,insAll U0 u,rd0 + u.length,D)) : ∀ (l : List Itm) (m : List Prr) (u : List Int) (m0 : List Prr) (U0 : List Int) (rd0 lf0 : Int),Forest T l m u → WkOk n m u D m0 U0 rd0 lf0 → impl_walk.items pg 2 l (m0,U0,rd0,lf0) = some (m0 ++ m,insAll U0 u,rd0 + u.length,if l = [] then lf0 else D)
 | [],m,u,m0,U0,rd0,lf0,⟨h1,h2⟩,hw=>by
  subst h1 h2
  rw [impl_walk.items,if_pos rfl,List.append_nil]
  simp [insAll]
 | x :: l,m,u,m0,U0,rd0,lf0,⟨m1,u1,m2,u2,h1,h2,e1,e2⟩,hw=>by
  subst e1 e2
  obtain ⟨w1,w2,w3,w4,w5,w6,w7⟩:=hw
  rw [List.length_append] at w5 w7
  have h3:=hT _ _ _ _ h1 m0 U0 rd0 lf0 ⟨w1,w2,fun y hy=>w3 y (List.mem_append_left _ hy),w4,by omega,w6,by omega⟩
  have h4:=walk_items pg hT l m2 u2 (m0 ++ m1) (insAll U0 u1) (rd0 + u1.length) D h2 ⟨insAll_asc _ _ w1,fun y hy=>by
   rcases (mem_insAll _ _ _).1 hy with hy|hy
   ·exact w2 y hy
   exact w3 y (List.mem_append_left _ hy),fun y hy=>w3 y (List.mem_append_right _ hy),by omega,by omega,.inr rfl,by rw [List.length_append];omega⟩
  rw [impl_walk.items,if_neg (by decide),h3,Option.bind_some,h4,if_neg (List.cons_ne_nil _ _),insAll_app,List.append_assoc,List.length_append]
  congr 4
  ·omega
  split <;> rfl
theorem walk_page {S : List ByteArray} {P : List S96} (hd : devOk S P = true) : ∀ (d : Nat) (n : Nat) (deep r : Int) (k key : ByteArray) (m : List Prr) (u : List Int) (m0 : List Prr) (U0 : List Int) (rd0 lf0 : Int),d < n → 1 ≤ deep → deep + d ≤ 12 → (1 < deep → key = k) → TreeAt (pgAt S P) d r k m u → WkOk S.length m u (deep + d) m0 U0 rd0 lf0 →
  impl_walk.page S P n deep r key (m0,U0,rd0,lf0) = some (m0 ++ m,insAll U0 u,rd0 + u.length,deep + d)
 | d,0,_,_,_,_,_,_,_,_,_,_,hn,_,_,_,_,_=>by omega
 | d,n + 1,deep,r,k,key,m,u,m0,U0,rd0,lf0,hn,hd1,hd2,hk,⟨l,u',h1,h2,h3,h4,e⟩,hw=>by
  subst e
  obtain ⟨w1,w2,w3,w4,w5,w6,w7⟩:=hw
  rw [List.length_cons] at w5
  obtain ⟨hr0,hr1⟩:=w3 r List.mem_cons_self
  obtain ⟨⟨_,hs4,hp4⟩,_,_⟩:=devOk_t hd
  have hU : U0.length ≤ 400:=by
   have:=asc_len U0 0 S.length w1 w2
   rw [if_pos (by omega)] at this
   omega
  have e1 : pReadSector S P r = (rdS S P r,true):=by unfold pReadSector;rw [if_pos ⟨hd,hr0,hr1⟩];rfl
  have e2 : pReadPage (rdS S P r) = (knd d,l,true):=h1
  have hsz:=rdS_size hd hr0 hr1
  rw [impl_walk.page]
  dsimp only
  rw [if_pos ⟨w4,by omega,hd1,by omega,by omega⟩,ev_lim (iReadSector S P r (by omega) (by omega)),e1,Option.bind_some]
  dsimp only
  rw [if_pos rfl,ev_lim (iReadPage (rdS S P r) (by omega)),e2,Option.bind_some]
  dsimp only
  have hl0 : 0 < l.length:=List.length_pos_iff.2 h2
  rw [if_pos ⟨rfl,fun h=>⟨hl0,by rw [hk h];exact h3⟩,by cases d <;> simp [knd]⟩,with_eq w1]
  have wI : Asc (insW U0 r):=insW_asc w1 r
  have wR : ∀ x ∈ insW U0 r,0 ≤ x ∧ x < (S.length : Int):=fun x hx=>by
   rcases mem_insW.1 hx with rfl|hx
   ·exact ⟨hr0,hr1⟩
   exact w2 x hx
  cases d with
  | zero =>
   obtain ⟨rfl,rfl⟩:=h4
   rw [List.length_map] at w7
   rw [show knd 0 = 1 from rfl,walk_leaf _ l _ (by dsimp only;omega),Option.bind_some]
   dsimp only
   rw [if_neg (by decide)]
   rcases w6 with rfl|rfl
   ·rw [if_pos rfl]
    congr 4
    simp
   have e3 : deep + ((0 : Nat) : Int) = deep:=by omega
   rw [if_neg (by omega),if_pos e3]
   rfl
  | succ d =>
   have h5:=walk_items (n:=S.length) (T:=TreeAt (pgAt S P) d) (D:=deep + ((d + 1 : Nat) : Int)) (fun a k s=>impl_walk.page S P n (deep + 1) a k s) (fun r k m u ht m0 U0 rd0 lf0 hw'=>by
    have:=walk_page hd d n (deep + 1) r k k m u m0 U0 rd0 lf0 (by omega) (by omega) (by omega) (fun _=>rfl) ht (by rw [show deep + 1 + (d : Int) = deep + ((d + 1 : Nat) : Int) by omega];exact hw')
    rw [show deep + 1 + (d : Int) = deep + ((d + 1 : Nat) : Int) by omega] at this
    exact this) l m u' m0 (insW U0 r) (rd0 + 1) lf0 h4 ⟨wI,wR,fun y hy=>w3 y (List.mem_cons_of_mem _ hy),by omega,by omega,w6,w7⟩
   rw [show knd (d + 1) = 2 from rfl,h5,Option.bind_some]
   dsimp only
   rw [if_pos rfl,if_neg h2,List.length_cons,show rd0 + 1 + (u'.length : Int) = rd0 + ((u'.length + 1 : Nat) : Int) by omega]
   rfl
/-- A right tree is read. -/
theorem rtree_ok {S : List ByteArray} {P : List S96} (hd : devOk S P = true) {d : Nat} {r : Int} {k : ByteArray} {m : List Prr} {u : List Int} (ht : TreeAt (pgAt S P) d r k m u) (hd11 : d ≤ 11) (hu : u.length ≤ 400) (hr : ∀ x ∈ u,0 ≤ x ∧ x < (S.length : Int)) (hm : mapOk m = true) : impl_rtree.f S P r = some (m,insAll [] u):=by
 obtain ⟨⟨_,hs4,hp4⟩,_,_⟩:=devOk_t hd
 have hml : m.length ≤ 120:=by
  unfold mapOk at hm
  rw [Bool.and_eq_true,decide_eq_true_eq] at hm
  exact hm.1
 have hr0 : 0 ≤ r:=by
  obtain ⟨l,u',_,_,_,_,e⟩:=ht
  exact (hr r (by rw [e];exact List.mem_cons_self)).1
 have h:=walk_page hd d 13 1 r k ⟨#[]⟩ m u [] [] 0 0 (by omega) (by omega) (by omega) (fun h=>by omega) ht ⟨List.Pairwise.nil,(fun x hx=>by cases hx),hr,by omega,by omega,.inl rfl,by rw [List.length_nil];omega⟩
 unfold impl_rtree.f
 rw [ev_lim (iDeviceOk S P (by omega) (by omega)),Option.bind_some,if_pos hd,if_neg (by omega),h,Option.bind_some]
 dsimp only
 rw [List.nil_append,ev_lim (iMapOk m (by omega)),Option.bind_some,if_pos hm]
theorem rtree_no {S : List ByteArray} {P : List S96} (hd : devOk S P = true) : impl_rtree.f S P (-1) = some ([],[]):=by
 obtain ⟨⟨_,hs4,hp4⟩,_,_⟩:=devOk_t hd
 unfold impl_rtree.f
 rw [ev_lim (iDeviceOk S P (by omega) (by omega)),Option.bind_some,if_pos hd,if_pos rfl]
def flushL (s : List ByteArray) (p : List S96) : List ByteArray:=p.foldl (fun s x=>s.set x.f0.toNat x.f1) s
theorem flushL_cons (s : List ByteArray) (x : S96) (p : List S96) : flushL s (x :: p) = flushL (s.set x.f0.toNat x.f1) p:=rfl
theorem flushL_len : ∀ (p : List S96) (s : List ByteArray),(flushL s p).length = s.length
 | [],_=>rfl
 | x :: p,s=>by rw [flushL_cons,flushL_len p,List.length_set]
def pFlush (s : List ByteArray) (p : List S96) : List ByteArray × List S96 × Bool:=if devOk s p = true then (flushL s p,[],true) else ([],[],false)
theorem secAt_set {s : List ByteArray} {a i : Int} {t : ByteArray} (h0 : 0 ≤ a) (h1 : a < s.length) (hi : 0 ≤ i) : secAt (s.set a.toNat t) i = if a = i then t else secAt s i:=by
 unfold secAt rdOf
 rw [List.getD_eq_getElem?_getD,List.getD_eq_getElem?_getD,List.getElem?_set]
 by_cases h : a = i
 ·subst h
  rw [if_pos rfl,if_pos rfl,if_pos (by omega)]
  rfl
 rw [if_neg (by omega),if_neg h]
theorem secAt_flush (i : Int) (hi : 0 ≤ i) : ∀ (p : List S96) (s : List ByteArray),(∀ x ∈ p,0 ≤ x.f0 ∧ x.f0 < (s.length : Int)) → secAt (flushL s p) i = readF i (secAt s i) p
 | [],s,_=>rfl
 | x :: p,s,h=>by
  have hx:=h x (List.mem_cons_self ..)
  rw [flushL_cons,secAt_flush i hi p _ (fun y hy=>by rw [List.length_set];exact h y (List.mem_cons_of_mem _ hy)),readF_cons,secAt_set hx.1 hx.2 hi]
theorem flushL_small : ∀ (p : List S96) (s : List ByteArray),(∀ x ∈ p,x.f1.size ≤ 64) → (∀ x ∈ s,x.size ≤ 64) → ∀ x ∈ flushL s p,x.size ≤ 64
 | [],s,_,h,x,hx=>h x hx
 | y :: p,s,hp,h,x,hx=>by
  rw [flushL_cons] at hx
  refine flushL_small p _ (fun z hz=>hp z (List.mem_cons_of_mem _ hz)) (fun z hz=>?_) x hx
  rcases List.mem_or_eq_of_mem_set hz with hz|hz
  ·exact h z hz
  rw [hz];exact hp y (List.mem_cons_self ..)
def freeF (u : List Int) : Nat → Nat → List Int → List Int
 | 0,_,acc=>acc
 | d + 1,i,acc=>freeF u d (i + 1) (if inL u (i : Int) = true then acc else acc ++ [(i : Int)])
def freeOf (s : List ByteArray) (p : List S96) (u : List Int) : List Int:=if devOk s p = true then freeF u (s.length - 2) 2 [] else []
theorem iFree_go (s : List ByteArray) (p : List S96) (u : List Int) (hs : s.length ≤ 1048576) (hu : u.length ≤ 1048576) : ∀ (d i : Nat) (acc : List Int),d = s.length - i → acc.length ≤ i → Ev (fun k=>impl_FreeOf.l0 k u acc (i : Int) s p) (freeF u d i acc)
 | 0,i,acc,hi,ha=>by
  refine (Ev.now acc).to fun k=>?_
  simp only [impl_FreeOf.l0]
  rw [if_neg (by omega)]
 | d + 1,i,acc,hi,ha=>by
  have w2 : wrap64 ((i : Int) + 1) = ((i + 1 : Nat) : Int):=by rw [wid (by omega) (by omega)];rfl
  rw [freeF]
  refine Ev.to (f:=fun k=>(impl_hasInt.f k u (i : Int)).bind fun t=>if t = true then impl_FreeOf.l0 k u acc ((i + 1 : Nat) : Int) s p else if acc.length < 17592186044416 then impl_FreeOf.l0 k u (acc ++ [(i : Int)]) ((i + 1 : Nat) : Int) s p else none) ((ihasInt u (i : Int) (by omega)).bind ?_) fun k=>by simp only [impl_FreeOf.l0,w2];clear w2;rw [if_pos (by omega)]
  by_cases h : inL u (i : Int) = true
  ·rw [if_pos h]
   exact Ev.ifp h (iFree_go s p u hs hu d (i + 1) acc (by omega) (by omega))
  rw [if_neg h]
  exact Ev.ifn h (Ev.ifp (by omega) (iFree_go s p u hs hu d (i + 1) _ (by omega) (by simp;omega)))
theorem iFreeOf (s : List ByteArray) (p : List S96) (u : List Int) (hs : s.length ≤ 1048576) (hp : p.length ≤ 1048576) (hu : u.length ≤ 1048576) : Ev (fun k=>impl_FreeOf.f k s p u) (freeOf s p u):=by
 unfold impl_FreeOf.f freeOf
 refine (iDeviceOk s p hs hp).bind ?_
 by_cases hd : devOk s p = true
 ·rw [if_pos hd]
  exact Ev.ifp hd (iFree_go s p u hs hu (s.length - 2) 2 [] rfl (by simp))
 rw [if_neg hd]
 exact Ev.ifn hd (Ev.now _)
/-! Placed, placed again, read: a map on a device -/
def rngZ : Nat → Nat → List Int
 | 0,_=>[]
 | d + 1,i=>(i : Int) :: rngZ d (i + 1)
theorem mem_rngZ : ∀ (d i : Nat) (x : Int),x ∈ rngZ d i ↔ (i : Int) ≤ x ∧ x < ((i + d : Nat) : Int)
 | 0,i,x=>by simp [rngZ]
 | d + 1,i,x=>by rw [rngZ,List.mem_cons,mem_rngZ d (i + 1) x];omega
theorem rngZ_asc : ∀ (d i : Nat),Asc (rngZ d i)
 | 0,i=>List.Pairwise.nil
 | d + 1,i=>List.pairwise_cons.2 ⟨fun y hy=>by have:=(mem_rngZ d (i + 1) y).1 hy;omega,rngZ_asc d (i + 1)⟩
theorem rngZ_len : ∀ (d i : Nat),(rngZ d i).length = d
 | 0,i=>rfl
 | d + 1,i=>by rw [rngZ,List.length_cons,rngZ_len]
theorem freeF_eq (u : List Int) : ∀ (d i : Nat) (acc : List Int),freeF u d i acc = acc ++ (rngZ d i).filter fun x=>!inL u x
 | 0,i,acc=>by rw [freeF,rngZ,List.filter_nil,List.append_nil]
 | d + 1,i,acc=>by
  rw [freeF,freeF_eq u d (i + 1),rngZ]
  by_cases h : inL u (i : Int) = true
  ·rw [if_pos h,List.filter_cons_of_neg (by rw [h];simp)]
  rw [if_neg h,List.filter_cons_of_pos (by simpa using h),List.append_assoc]
  rfl
theorem free_eq {S : List ByteArray} {P : List S96} (hd : devOk S P = true) (u : List Int) : freeOf S P u = (rngZ (S.length - 2) 2).filter fun x=>!inL u x:=by
 unfold freeOf
 rw [if_pos hd,freeF_eq,List.nil_append]
theorem mem_free {S : List ByteArray} {P : List S96} (hd : devOk S P = true) (u : List Int) (x : Int) : x ∈ freeOf S P u ↔ (2 ≤ x ∧ x < (S.length : Int)) ∧ x ∉ u:=by
 rw [free_eq hd,List.mem_filter,mem_rngZ]
 unfold inL
 simp only [Bool.not_eq_true',decide_eq_false_iff_not]
 constructor
 ·rintro ⟨h1,h2⟩;exact ⟨by omega,h2⟩
 rintro ⟨h1,h2⟩;exact ⟨by omega,h2⟩
theorem asc_nodup {a : List Int} (h : Asc a) : a.Nodup:=h.imp (fun h=>by omega)
theorem free_asc {S : List ByteArray} {P : List S96} (hd : devOk S P = true) (u : List Int) : Asc (freeOf S P u):=by rw [free_eq hd];exact asc_filter (rngZ_asc _ _) _
theorem nodup_len : ∀ (b a : List Int),a.Nodup → (∀ x ∈ a,x ∈ b) → a.length ≤ b.length
 | [],a,_,h=>by
  cases a with
  | nil=>exact Nat.le_refl _
  | cons x a=>have:=h x List.mem_cons_self;cases this
 | y :: b,a,hn,h=>by
  by_cases hy : y ∈ a
  ·have h1:=nodup_len b (a.erase y) (hn.erase y) (fun x hx=>by
    have hm:=(hn.mem_erase_iff.1 hx)
    exact (List.mem_cons.1 (h x hm.2)).resolve_left hm.1)
   have h2:=List.length_erase_of_mem hy
   have h3:=List.length_pos_of_mem hy
   rw [List.length_cons]
   omega
  have h1:=nodup_len b a hn (fun x hx=>(List.mem_cons.1 (h x hx)).resolve_left (fun e=>hy (e ▸ hx)))
  rw [List.length_cons]
  omega
theorem free_len2 {S : List ByteArray} {P : List S96} (hd : devOk S P = true) (u : List Int) : S.length - 2 ≤ (freeOf S P u).length + u.length:=by
 rw [free_eq hd]
 have h1 : ((rngZ (S.length - 2) 2).filter fun x=>!inL u x).length + ((rngZ (S.length - 2) 2).filter fun x=>inL u x).length = (rngZ (S.length - 2) 2).length:=by
  rw [← List.countP_eq_length_filter,← List.countP_eq_length_filter,Nat.add_comm]
  have:=List.length_eq_countP_add_countP (l:=rngZ (S.length - 2) 2) (fun x=>inL u x)
  simp only [Bool.not_eq_true,Bool.decide_eq_false] at this
  exact this.symm
 have h2:=nodup_len u ((rngZ (S.length - 2) 2).filter fun x=>inL u x) (asc_nodup (asc_filter (rngZ_asc _ _) _)) (fun x hx=>by
  have:=(List.mem_filter.1 hx).2
  unfold inL at this
  exact of_decide_eq_true this)
 rw [rngZ_len] at h1
 omega
theorem pairs_facts : ∀ (l : List Prr) (p : Option Prr),pairsOk p l = true → (∀ x ∈ l,1 ≤ x.f0.size ∧ x.f0.size ≤ 8 ∧ x.f1.size ≤ 40) ∧ PAsc l ∧ ∀ q,p = some q → ∀ x ∈ l,keyLt q.f0 x.f0 = true
 | [],_,_=>⟨(fun x hx=>by cases hx),List.Pairwise.nil,fun _ _ x hx=>by cases hx⟩
 | y :: l,p,h=>by
  have h2 : pairOk y = true ∧ pairsOk (some y) l = true ∧ ∀ q,p = some q → keyLt q.f0 y.f0 = true:=by
   cases p with
   | none =>
    unfold pairsOk at h
    rw [Bool.and_eq_true] at h
    exact ⟨h.1,h.2,fun q e=>by cases e⟩
   | some q =>
    unfold pairsOk at h
    simp only [Bool.and_eq_true] at h
    exact ⟨h.1,h.2.2,fun q' e=>by injection e with e;rw [← e];exact h.2.1⟩
  obtain ⟨i1,i2,i3⟩:=pairs_facts l (some y) h2.2.1
  have hy:=h2.1
  unfold pairOk at hy
  have hy:=of_decide_eq_true hy
  refine ⟨fun x hx=>?_,List.pairwise_cons.2 ⟨fun x hx=>i3 y rfl x hx,i2⟩,fun q e x hx=>?_⟩
  ·rcases List.mem_cons.1 hx with rfl|hx
   ·exact hy
   exact i1 x hx
  rcases List.mem_cons.1 hx with rfl|hx
  ·exact h2.2.2 q e
  exact keyLt_trans (h2.2.2 q e) (i3 y rfl x hx)
theorem map_facts {m : List Prr} (h : mapOk m = true) (n : Nat) : (∀ x ∈ m.map itemOf,GoodI 1 n x) ∧ KAsc (m.map itemOf) ∧ PAsc m ∧ m.length ≤ 120:=by
 unfold mapOk at h
 rw [Bool.and_eq_true,decide_eq_true_eq] at h
 obtain ⟨h1,h2,_⟩:=pairs_facts m none h.2
 refine ⟨fun x hx=>?_,?_,h2,h.1⟩
 ·obtain ⟨y,hy,rfl⟩:=List.mem_map.1 hx
  have:=h1 y hy
  exact ⟨⟨this.1,this.2.1⟩,.inl ⟨rfl,this.2.2,rfl⟩⟩
 unfold KAsc
 rw [List.pairwise_map]
 exact h2
theorem map_back (m : List Prr) : (m.map itemOf).map prOf = m:=by
 rw [List.map_map]
 exact List.map_id' m
/-- impl.PlaceTree, where nothing is wrong with what it is told. -/
theorem itree_eq {S : List ByteArray} {P : List S96} {F : List Int} {m : List Prr} (hd : devOk S P = true) (hm : mapOk m = true) (hF : ∀ x ∈ F,0 ≤ x ∧ x < (S.length : Int)) : impl_tree.f S P F m = (impl_tree.levels F 1000 1 (m.map itemOf) S P F [] (-1)).bind fun q=>if q.1 = false then some ([],[],0,[],false) else some (q.2.1,q.2.2.1,q.2.2.2.2,q.2.2.2.1,true):=by
 obtain ⟨⟨hs0,hs4,hp4⟩,_,_⟩:=devOk_t hd
 have hml:=(map_facts hm 0).2.2.2
 have hw : wrap64 ((S.length : Int) - 1) = (S.length : Int) - 1:=by unfold wrap64;omega
 unfold impl_tree.f
 rw [ev_lim (iDeviceOk S P (by omega) (by omega)),Option.bind_some,if_neg (by rw [hd];simp),ev_lim (iMapOk m (by omega)),Option.bind_some,if_neg (by rw [hm];simp),hw,if_pos (fun x hx=>by rw [i_in,decide_eq_true (by have:=hF x hx;omega)]),icopyDevice S P (by omega) (by omega),Option.bind_some,if_pos (by omega)]
theorem place_nil {S : List ByteArray} {P : List S96} {F : List Int} (hd : devOk S P = true) (hF : ∀ x ∈ F,0 ≤ x ∧ x < (S.length : Int)) : impl_tree.f S P F [] = some (S,P,-1,[],true):=by
 rw [itree_eq hd rfl hF]
 rw [List.map_nil,show (1000 : Nat) = 999 + 1 from rfl,impl_tree.levels,if_pos (by rfl),Option.bind_some]
 rfl
theorem place_new {S : List ByteArray} {P : List S96} {F : List Int} {m : List Prr} (hd : devOk S P = true) (hm : mapOk m = true) (hm0 : m ≠ []) (hml : m.length ≤ 64) (hF : ∀ x ∈ F,0 ≤ x ∧ x < (S.length : Int)) (hn : F.Nodup) (hFl : F.length ≤ 400) (hL : 128 ≤ F.length) (hP : P.length ≤ 200) :
  ∃ P' L' U' r us,impl_tree.f S P F m = some (S,P',r,U',true) ∧ LvOk S F 1000 1 (m.map itemOf) P F [] (-1) 7 128 P' L' U' r us:=by
 obtain ⟨f1,f2,_,_⟩:=map_facts hm S.length
 have hI : Inv S P F []:=⟨hd,hF,List.Pairwise.nil,fun x hx=>by cases hx⟩
 obtain ⟨P',L',U',r,us,h⟩:=lv1 (F:=F) (by omega) 6 999 (m.map itemOf) P F [] (-1) hI hn (fun x hx=>hx) f1 f2 (fun h=>hm0 (List.map_eq_nil_iff.1 h)) (by rw [List.length_map];omega) (by omega) hL (by omega) (by omega)
 refine ⟨P',L',U',r,us,?_,h⟩
 rw [itree_eq hd hm hF,h.run,Option.bind_some]
 rfl
/-- What was placed is a tree. -/
theorem placed_tree {S : List ByteArray} {P P' : List S96} {F L U L' U' : List Int} {m : List Prr} {n b : Nat} {root r : Int} {us : List Int} (hm : mapOk m = true) (h : LvOk S F n 1 (m.map itemOf) P L U root 7 b P' L' U' r us) : ∃ d k u,TreeAt (pgAt S P') d r k m u ∧ u.Perm us ∧ d ≤ 6:=by
 obtain ⟨f1,f2,_,_⟩:=map_facts hm S.length
 have hb:=h.built
 obtain ⟨d,k,u,ht,hp,hd⟩:=built_tree (devOk_t h.inv.dev).1.2.1 7 0 (m.map itemOf) r us m [] hb f1 f2 (fun y hy=>(h.rng y hy).2) ⟨(map_back m).symm,rfl⟩
 rw [List.append_nil] at hp
 exact ⟨d,k,u,ht,hp,by omega⟩
theorem pgAt_flush {S : List ByteArray} {P : List S96} (hd : devOk S P = true) {i : Int} (hi : 0 ≤ i) : pgAt (flushL S P) [] i = pgAt S P i:=by
 obtain ⟨_,_,hp⟩:=devOk_t hd
 have : rdS (flushL S P) [] i = rdS S P i:=secAt_flush i hi P S (fun x hx=>⟨(hp x hx).1,(hp x hx).2.1⟩)
 unfold pgAt
 rw [this]
theorem flush_ok {S : List ByteArray} {P : List S96} (hd : devOk S P = true) : devOk (flushL S P) [] = true:=by
 obtain ⟨⟨h1,h2,h3⟩,hs,hp⟩:=devOk_t hd
 refine devOk_mk ⟨⟨by rw [flushL_len];exact h1,by rw [flushL_len];exact h2,by simp⟩,flushL_small P S (fun x hx=>(hp x hx).2.2) hs,fun x hx=>by cases hx⟩
theorem no_page : (pReadPage (⟨#[]⟩ : ByteArray)).2.2 = false:=by
 have : pUnsealed (⟨#[]⟩ : ByteArray) = (⟨#[]⟩,false):=by unfold pUnsealed;rw [if_neg (fun h=>by have:=h.1;revert this;decide)]
 unfold pReadPage
 rw [this,if_neg (by simp)]
 rfl
theorem pw_all {R : Int → Int → Prop} (hs : ∀ a b,R a b → R b a) : ∀ {l : List Int},l.Pairwise R → ∀ x ∈ l,∀ y ∈ l,x ≠ y → R x y
 | [],_,x,hx,_,_,_=>by cases hx
 | z :: l,h,x,hx,y,hy,hne=>by
  rw [List.pairwise_cons] at h
  rcases List.mem_cons.1 hx with rfl|hx'
  ·rcases List.mem_cons.1 hy with e|hy
   ·exact absurd e.symm hne
   exact h.1 y hy
  rcases List.mem_cons.1 hy with e|hy
  ·rw [e];exact hs _ _ (h.1 x hx')
  exact pw_all hs h.2 x hx' y hy hne
/-! Draws: whatever the bytes, a number in its bounds -/
theorem and255 (y : Int) : 0 ≤ Go.bits .and .i64 y 255 ∧ Go.bits .and .i64 y 255 < 256:=by
 have h : (BitVec.ofInt 64 y &&& BitVec.ofInt 64 255).toNat ≤ 255:=by
  rw [BitVec.toNat_and];exact Nat.le_trans Nat.and_le_right (by decide)
 have e : Go.bits .and .i64 y 255 = IntKind.i64.wrap ((BitVec.ofInt 64 y &&& BitVec.ofInt 64 255).toNat : Nat):=rfl
 rw [e,IntKind.wrap_i64]
 omega
theorem dByte (b : List Int) (i h : Int) (hb : b.length ≤ 140737488351232) (hi : 0 ≤ i) : ∃ x i' h',spec_l01Byte.f b i h = some (x,i',h') ∧ 0 ≤ x ∧ x < 256 ∧ 0 ≤ i':=by
 unfold spec_l01Byte.f
 by_cases h1 : i < (b.length : Int)
 ·have w : wrap64 (i + 1) = i + 1:=wid (by omega) (by omega)
  rw [w];clear w
  rw [if_pos h1,if_pos hi]
  exact ⟨_,_,_,rfl,(and255 _).1,(and255 _).2,by omega⟩
 rw [if_neg h1]
 exact ⟨_,_,_,rfl,(and255 _).1,(and255 _).2,hi⟩
theorem dBelow (b : List Int) (i h n : Int) (hb : b.length ≤ 140737488351232) (hi : 0 ≤ i) (hn : 0 < n) : ∃ x i' h',spec_l01Below.f b i h n = some (x,i',h') ∧ 0 ≤ x ∧ x < n ∧ 0 ≤ i':=by
 unfold spec_l01Below.f
 rw [if_neg (by omega)]
 obtain ⟨x1,i1,h1,e1,p1,q1,r1⟩:=dByte b i h hb hi
 by_cases hs : n ≤ 256
 ·rw [if_pos hs,e1]
  simp only [Option.bind_some]
  rw [if_neg (by omega),tmod_pos p1]
  exact ⟨_,_,_,rfl,Int.emod_nonneg _ (by omega),Int.emod_lt_of_pos _ hn,r1⟩
 obtain ⟨x2,i2,h2,e2,p2,q2,r2⟩:=dByte b i1 h1 hb r1
 obtain ⟨x3,i3,h3,e3,p3,q3,r3⟩:=dByte b i2 h2 hb r2
 obtain ⟨x4,i4,h4,e4,p4,q4,r4⟩:=dByte b i3 h3 hb r3
 have w1 : wrap64 (x1 * 16777216) = x1 * 16777216:=wid (by omega) (by omega)
 have w2 : wrap64 (x2 * 65536) = x2 * 65536:=wid (by omega) (by omega)
 have w3 : wrap64 (x3 * 256) = x3 * 256:=wid (by omega) (by omega)
 have w4 : wrap64 (x1 * 16777216 + x2 * 65536) = x1 * 16777216 + x2 * 65536:=wid (by omega) (by omega)
 have w5 : wrap64 (x1 * 16777216 + x2 * 65536 + x3 * 256) = x1 * 16777216 + x2 * 65536 + x3 * 256:=wid (by omega) (by omega)
 have w6 : wrap64 (x1 * 16777216 + x2 * 65536 + x3 * 256 + x4) = x1 * 16777216 + x2 * 65536 + x3 * 256 + x4:=wid (by omega) (by omega)
 rw [if_neg hs,e1]
 simp only [Option.bind_some]
 rw [e2]
 simp only [Option.bind_some]
 rw [e3]
 simp only [Option.bind_some]
 rw [e4]
 simp only [Option.bind_some,w1,w2,w3,w4,w5,w6]
 clear w1 w2 w3 w4 w5 w6
 rw [if_neg (by omega),tmod_pos (by omega)]
 exact ⟨_,_,_,rfl,Int.emod_nonneg _ (by omega),Int.emod_lt_of_pos _ hn,r4⟩
theorem dNew_go (b : List Int) (hb : b.length ≤ 140737488351232) : ∀ (d i : Nat) (x : Int),i + d = b.length → ∃ h,Ev (fun k=>spec_l01New.l0 k b x (i : Int)) (b,0,h)
 | 0,i,x,hi=>⟨x,(Ev.now _).to fun k=>by simp only [spec_l01New.l0];rw [if_neg (by omega)]⟩
 | d + 1,i,x,hi=>by
  by_cases h4 : (i : Int) < 4000
  ·have w : wrap64 ((i : Int) + 1) = ((i + 1 : Nat) : Int):=by rw [wid (by omega) (by omega)];rfl
   obtain ⟨h,e⟩:=dNew_go b hb d (i + 1) (Go.bits .and .i64 (wrap64 ((wrap64 ((wrap64 (x * 131)) + (wrap64 (rd b (i : Int))))) + 7)) 1073741823) (by omega)
   refine ⟨h,e.to fun k=>?_⟩
   simp only [spec_l01New.l0,w]
   clear w
   rw [if_pos (by omega),if_pos h4,if_pos (by omega)]
  exact ⟨x,(Ev.now _).to fun k=>by simp only [spec_l01New.l0];rw [if_pos (by omega),if_neg h4]⟩
theorem dNew (b : List Int) (hb : b.length ≤ 140737488351232) : ∃ h,Ev (fun k=>spec_l01New.f k b) (b,0,h):=by
 unfold spec_l01New.f
 exact dNew_go b hb b.length 0 _ (by omega)
theorem dText_go (b : List Int) (hb : b.length ≤ 140737488351232) (n : Int) (hn : n ≤ 5000) : ∀ (d : Nat) (acc : List Int) (j i h : Int),0 ≤ j → (acc.length : Int) = j → j + d = n → 0 ≤ i → Byt acc →
  ∃ s i' h',Ev (fun k=>spec_l01Text.l0 k n acc j b i h) (s,i',h') ∧ (s.size : Int) = n ∧ 0 ≤ i'
 | 0,acc,j,i,h,hj,hl,hd,hi,hB=>⟨strOfNums acc,i,h,(Ev.now _).to fun k=>by simp only [spec_l01Text.l0];rw [if_neg (by omega)],by rw [str_len];omega,hi⟩
 | d + 1,acc,j,i,h,hj,hl,hd,hi,hB=>by
  obtain ⟨x,i1,h1,e,p,q,r⟩:=dByte b i h hb hi
  have w : wrap64 (j + 1) = j + 1:=wid (by omega) (by omega)
  obtain ⟨s,i',h',ev,hs,hi'⟩:=dText_go b hb n hn d (acc ++ [x % 256]) (j + 1) i1 h1 (by omega) (by rw [List.length_append];simp;omega) (by omega) r (hB.app (Byt.one ⟨by omega,by omega⟩))
  refine ⟨s,i',h',ev.to fun k=>?_,hs,hi'⟩
  simp only [spec_l01Text.l0,w,e,Option.bind_some]
  clear w
  rw [if_pos (by omega),if_pos (by omega)]
theorem dText (b : List Int) (hb : b.length ≤ 140737488351232) (n i h : Int) (h0 : 0 ≤ n) (hn : n ≤ 5000) (hi : 0 ≤ i) : ∃ s i' h',Ev (fun k=>spec_l01Text.f k b i h n) (s,i',h') ∧ (s.size : Int) = n ∧ 0 ≤ i':=by
 obtain ⟨s,i',h',ev,hs,hi'⟩:=dText_go b hb n hn n.toNat [] 0 i h (by omega) rfl (by omega) hi Byt.nil
 refine ⟨s,i',h',?_,hs,hi'⟩
 unfold spec_l01Text.f
 exact Ev.ifn (by omega) (ev.to fun k=>by simp only [spec_l01Text.j0])
theorem dSize (b : List Int) (hb : b.length ≤ 140737488351232) : ∃ n,spec_l05Size.f b = some n ∧ 0 ≤ n ∧ n ≤ 40:=by
 unfold spec_l05Size.f
 have w1 : wrap64 ((b.length : Int) / 8) = (b.length : Int) / 8:=wid (by omega) (by omega)
 have w2 : wrap64 (4 + (b.length : Int) / 8) = 4 + (b.length : Int) / 8:=wid (by omega) (by omega)
 rw [w1,w2]
 clear w1 w2
 split
 ·exact ⟨_,rfl,by omega,by omega⟩
 exact ⟨_,rfl,by omega,by omega⟩
/-! A number in figures -/
def decL (m : Nat) : List Int:=(Go.Lib.decDigits m).map fun b=>(b.toNat : Int)
def decT (n : Int) : ByteArray:=⟨(Go.Lib.itoa n).toArray⟩
theorem fig8 {u : Nat} (h : u < 10) : ((UInt8.ofNat (48 + u)).toNat : Int) = 48 + (u : Int):=by
 have : (UInt8.ofNat (48 + u)).toNat = (48 + u) % 256:=by simp
 omega
theorem decL_small {m : Nat} (h : m < 10) : decL m = [48 + (m : Int)]:=by
 unfold decL
 rw [Go.Lib.decDigits,dif_pos h,List.map_cons,List.map_nil,fig8 h]
theorem decL_big {m : Nat} (h : ¬ m < 10) : decL m = decL (m / 10) ++ [48 + ((m % 10 : Nat) : Int)]:=by
 unfold decL
 rw [Go.Lib.decDigits,dif_neg h,List.map_append,List.map_cons,List.map_nil,fig8 (by omega)]
theorem decT_bl (n : Int) : bl (decT n) = if n < 0 then 45 :: decL n.natAbs else decL n.toNat:=by
 unfold decT bl Go.Lib.itoa decL
 split <;> simp
theorem fig_of {c : Int} (h0 : 0 ≤ c) (h1 : c < 10) : spec_l01Figure.f c = some (48 + c):=by
 unfold spec_l01Figure.f
 have w : wrap64 (48 + c) = 48 + c:=wid (by omega) (by omega)
 rw [if_pos h1,w]
 congr 1
 omega
theorem sDec_go : ∀ (d m : Nat) (n : Int) (below : Bool) (acc : ByteArray),n.natAbs = m → m < 10 ^ d → m ≤ 9223372036854775808 → n < 9223372036854775808 → acc.size + d ≤ 1000 → ∃ s,Ev (fun k=>spec_Decimal.l0 k n below acc) s ∧ bl s = (if below = true then [45] else []) ++ ((if m = 0 then [] else decL m) ++ bl acc)
 | d,0,n,below,acc,hm,hd,hb,hb2,ha=>by
  have hn : n = 0:=by omega
  cases below with
  | true =>
   refine ⟨(⟨#[45]⟩ : ByteArray) ++ acc,(Ev.now _).to fun k=>?_,by rw [bl_app];rfl⟩
   simp only [spec_Decimal.l0,if_true]
   rw [if_pos hn,if_pos (by omega)]
  | false =>
   refine ⟨acc,(Ev.now _).to fun k=>?_,rfl⟩
   simp only [spec_Decimal.l0]
   rw [if_pos hn,if_neg (by decide)]
 | 0,m + 1,n,below,acc,hm,hd,hb,hb2,ha=>by simp at hd
 | d + 1,m + 1,n,below,acc,hm,hd,hb,hb2,ha=>by
  have hn : ¬ n = 0:=by omega
  rw [Nat.pow_succ] at hd
  have hc : (strOfNums [48 + (((m + 1) % 10 : Nat) : Int)] ++ acc).size = 1 + acc.size:=by rw [ByteArray.size_append,str_len];rfl
  have hs1 : (strOfNums [48 + (((m + 1) % 10 : Nat) : Int)]).size = 1:=by rw [str_len];rfl
  have ht : (Int.tdiv n 10).natAbs = (m + 1) / 10:=by rw [Int.natAbs_tdiv,hm];rfl
  have hsg : Int.tdiv n 10 < 9223372036854775808 ∧ -9223372036854775808 ≤ Int.tdiv n 10:=by omega
  obtain ⟨s,ev,hs⟩:=sDec_go d ((m + 1) / 10) (Int.tdiv n 10) below (strOfNums [48 + (((m + 1) % 10 : Nat) : Int)] ++ acc) ht (by omega) (by omega) (by omega) (by omega)
  have wq : qo (wrap64 (Int.tdiv n 10) = Int.tdiv n 10):=⟨wid hsg.2 hsg.1⟩
  refine ⟨s,ev.to fun k=>?_,?_⟩
  ·simp only [spec_Decimal.l0]
   rw [if_neg hn,wq.out]
   have hmod : (Int.tmod n 10).natAbs = (m + 1) % 10:=by rw [Int.natAbs_tmod,hm];rfl
   by_cases hneg : Int.tmod n 10 < 0
   ·have w : wrap64 (-(Int.tmod n 10)) = (((m + 1) % 10 : Nat) : Int):=by rw [wid (by omega) (by omega)];omega
    rw [if_pos hneg,w,fig_of (by omega) (by omega)]
    simp only [Option.bind_some]
    rw [if_pos (by omega)]
   have e : Int.tmod n 10 = (((m + 1) % 10 : Nat) : Int):=by omega
   rw [if_neg hneg,e,fig_of (by omega) (by omega)]
   simp only [Option.bind_some]
   rw [if_pos (by omega)]
  rw [hs,bl_app,bl_str (Byt.one ⟨by omega,by omega⟩),if_neg (show ¬ m + 1 = 0 by omega)]
  by_cases h10 : m + 1 < 10
  ·rw [if_pos (show (m + 1) / 10 = 0 by omega),decL_small h10,show ((m + 1) % 10 : Nat) = m + 1 by omega]
   rfl
  rw [if_neg (show ¬ (m + 1) / 10 = 0 by omega),decL_big h10]
  simp
theorem sDecimal (n : Int) (h0 : -9223372036854775808 ≤ n) (h1 : n < 9223372036854775808) : Ev (fun k=>spec_Decimal.f k n) (decT n):=by
 unfold spec_Decimal.f
 by_cases hn : n = 0
 ·refine Ev.ofEq (Ev.ifp hn (Ev.now (⟨#[48]⟩ : ByteArray))) ?_
  apply bl_inj
  rw [decT_bl,if_neg (by omega),hn]
  exact (decL_small (m:=0) (by omega)).symm
 obtain ⟨s,ev,hs⟩:=sDec_go 20 n.natAbs n (decide (n < 0)) ⟨#[]⟩ rfl (by omega) (by omega) h1 (by decide)
 refine Ev.ifn hn (Ev.ofEq ev ?_)
 apply bl_inj
 rw [hs,decT_bl,bl_emp,List.append_nil,if_neg (show ¬ n.natAbs = 0 by omega)]
 by_cases hb : n < 0
 ·simp [hb]
 simp only [hb,decide_false,Bool.false_eq_true,if_false,List.nil_append]
 rw [show n.natAbs = n.toNat by omega]
/-! A drawn right map: keys "k" and four figures, ascending; a near one: some of it, and perhaps "z" -/
def kk4 (c : Int) : ByteArray:=(⟨#[107]⟩ : ByteArray) ++ decT c
theorem kk4_bl {c : Int} (h0 : 1000 ≤ c) (h1 : c ≤ 9999) : bl (kk4 c) = [107,48 + c / 1000,48 + c / 100 % 10,48 + c / 10 % 10,48 + c % 10]:=by
 obtain ⟨n,rfl⟩:=Int.eq_ofNat_of_zero_le (show 0 ≤ c by omega)
 unfold kk4
 rw [bl_app,decT_bl,if_neg (by omega),Int.toNat_natCast,decL_big (m:=n) (by omega),decL_big (m:=n / 10) (by omega),decL_big (m:=n / 10 / 10) (by omega),decL_small (m:=n / 10 / 10 / 10) (by omega)]
 show [107] ++ _ = _
 simp only [List.cons_append,List.nil_append,List.append_assoc,List.cons.injEq,and_true,true_and]
 omega
theorem kk4_size {c : Int} (h0 : 1000 ≤ c) (h1 : c ≤ 9999) : (kk4 c).size = 5:=by rw [bl_size,kk4_bl h0 h1];rfl
theorem kk4_lt {c d : Int} (h0 : 1000 ≤ c) (h : c < d) (h1 : d ≤ 9999) : keyLt (kk4 c) (kk4 d) = true:=by
 rw [keyLt_bl,kk4_bl h0 (by omega),kk4_bl (by omega) h1]
 simp only [ltI,Bool.or_eq_true,Bool.and_eq_true,decide_eq_true_eq,Bool.or_false,Bool.and_false]
 refine .inr ⟨trivial,?_⟩
 by_cases a1 : c / 1000 < d / 1000
 ·left;omega
 refine .inr ⟨by omega,?_⟩
 by_cases a2 : c / 100 % 10 < d / 100 % 10
 ·left;omega
 refine .inr ⟨by omega,?_⟩
 by_cases a3 : c / 10 % 10 < d / 10 % 10
 ·left;omega
 exact .inr ⟨by omega,by omega⟩
theorem kk4_z {c : Int} (h0 : 1000 ≤ c) (h1 : c ≤ 9999) : keyLt (kk4 c) ⟨#[122]⟩ = true:=by
 rw [keyLt_bl,kk4_bl h0 h1,show bl (⟨#[122]⟩ : ByteArray) = [122] from rfl]
 simp [ltI]
/-- Pairs whose keys are of numbers above b, ascending, up to e. -/
def KM : Int → List S69 → Int → Prop
 | b,[],e=>b ≤ e
 | b,p :: l,e=>∃ c,b < c ∧ p.f0 = kk4 c ∧ p.f1.size ≤ 8 ∧ KM c l e
theorem KM.snoc {p : S69} {e c : Int} (h1 : e < c) (h2 : p.f0 = kk4 c) (h3 : p.f1.size ≤ 8) : ∀ (l : List S69) (b : Int),KM b l e → KM b (l ++ [p]) c
 | [],b,h=>⟨c,by have : b ≤ e:=h;omega,h2,h3,Int.le_refl _⟩
 | q :: l,b,⟨d,h4,h5,h6,h7⟩=>⟨d,h4,h5,h6,KM.snoc h1 h2 h3 l d h7⟩
theorem KM.up {e f : Int} (hf : e ≤ f) : ∀ (l : List S69) (b : Int),KM b l e → KM b l f
 | [],b,h=>by have : b ≤ e:=h;show b ≤ f;omega
 | q :: l,b,⟨d,h4,h5,h6,h7⟩=>⟨d,h4,h5,h6,KM.up hf l d h7⟩
theorem KM.le : ∀ (l : List S69) (b e : Int),KM b l e → b ≤ e
 | [],b,e,h=>h
 | q :: l,b,e,⟨d,h4,h5,h6,h7⟩=>by have:=KM.le l d e h7;omega
theorem km_ok {e : Int} (he : e ≤ 9999) (t : List S69) (ht : t = [] ∨ ∃ s,t = [⟨⟨#[122]⟩,s⟩] ∧ s.size ≤ 8) : ∀ (l : List S69) (b : Int),999 ≤ b → KM b l e → pairsOk none (l ++ t) = true ∧ ∀ p : S69,1000 ≤ b → p.f0 = kk4 b → pairsOk (some p) (l ++ t) = true
 | [],b,hb,h=>by
  have hbe : b ≤ e:=h
  rw [List.nil_append]
  rcases ht with rfl|⟨s,rfl,hs⟩
  ·exact ⟨rfl,fun _ _ _=>rfl⟩
  have hz : pairOk (⟨⟨#[122]⟩,s⟩ : S69) = true:=by
   unfold pairOk
   rw [decide_eq_true_eq]
   exact ⟨show 1 ≤ (⟨#[122]⟩ : ByteArray).size by decide,show (⟨#[122]⟩ : ByteArray).size ≤ 8 by decide,by simp only;omega⟩
  refine ⟨by simp [pairsOk,hz],fun p hb2 hp=>?_⟩
  simp only [pairsOk,hz,hp,kk4_z hb2 (by omega),Bool.and_true,Bool.true_and]
 | q :: l,b,hb,⟨d,h4,h5,h6,h7⟩=>by
  have hde:=KM.le _ _ _ h7
  have ih:=(km_ok he t ht l d (by omega) h7).2 q (by omega) h5
  have hq : pairOk q = true:=by
   unfold pairOk
   rw [decide_eq_true_eq,h5,kk4_size (by omega) (by omega)]
   omega
  rw [List.cons_append]
  refine ⟨by simp only [pairsOk,hq,ih,Bool.and_true],fun p hb2 hp=>?_⟩
  simp only [pairsOk,hq,ih,hp,h5,kk4_lt hb2 h4 (by omega),Bool.and_true]
theorem km_map {e b : Int} (he : e ≤ 9999) {l : List S69} (t : List S69) (ht : t = [] ∨ ∃ s,t = [⟨⟨#[122]⟩,s⟩] ∧ s.size ≤ 8) (hb : 999 ≤ b) (h : KM b l e) (hl : l.length ≤ 40) : mapOk (l ++ t) = true:=by
 have hn : (l ++ t).length ≤ 120:=by
  rw [List.length_append]
  rcases ht with rfl|⟨s,rfl,hs⟩ <;> simp <;> omega
 unfold mapOk
 rw [(km_ok he t ht l b hb h).1,decide_eq_true hn]
 rfl
theorem rMap_go (b : List Int) (hb : b.length ≤ 140737488351232) (n : Int) (h0 : 0 ≤ n) (hn : n ≤ 40) : ∀ (d : Nat) (acc : List S69) (kk j i h : Int),0 ≤ j → j + d = n → (acc.length : Int) = j → 0 ≤ kk → kk ≤ 30 + 5 * j → 0 ≤ i → KM 999 acc (1000 + kk) →
  ∃ l i' h',Ev (fun k=>spec_l05Map.l0 k n acc kk j b i h) (l,i',h') ∧ l.length ≤ 40 ∧ KM 999 l 9999 ∧ 0 ≤ i'
 | d,acc,kk,j,i,h,hj,hd,hl,hk,hk',hi,hO=>by
  have wn : wrap64 (n + 1) = n + 1:=wid (by omega) (by omega)
  obtain ⟨x1,i1,h1,e1,p1,q1,r1⟩:=dBelow b i h (n + 1) hb hi (by omega)
  by_cases hx : j < x1
  ·rcases d with _|d
   ·omega
   obtain ⟨x2,i2,h2,e2,p2,q2,r2⟩:=dBelow b i1 h1 4 hb r1 (by omega)
   have w1 : wrap64 (kk + 1) = kk + 1:=wid (by omega) (by omega)
   have w2 : wrap64 (kk + 1 + x2) = kk + 1 + x2:=wid (by omega) (by omega)
   have w3 : wrap64 (1000 + (kk + 1 + x2)) = 1000 + (kk + 1 + x2):=wid (by omega) (by omega)
   have w4 : wrap64 (j + 1) = j + 1:=wid (by omega) (by omega)
   have evs:=sDecimal (1000 + (kk + 1 + x2)) (by omega) (by omega)
   obtain ⟨x3,i3,h3,e3,p3,q3,r3⟩:=dBelow b i2 h2 9 hb r2 (by omega)
   obtain ⟨s4,i4,h4,ev4,hs4,r4⟩:=dText b hb x3 i3 h3 (by omega) (by omega) r3
   have hks : (kk4 (1000 + (kk + 1 + x2))).size = 1 + (decT (1000 + (kk + 1 + x2))).size:=by unfold kk4;rw [ByteArray.size_append];rfl
   have hk5:=kk4_size (c:=1000 + (kk + 1 + x2)) (by omega) (by omega)
   obtain ⟨l,i',h',ev,hll,hlO,hi'⟩:=rMap_go b hb n h0 hn d (acc ++ [⟨(⟨#[107]⟩ : ByteArray) ++ decT (1000 + (kk + 1 + x2)),s4⟩]) (kk + 1 + x2) (j + 1) i4 h4 (by omega) (by omega) (by rw [List.length_append];simp;omega) (by omega) (by omega) r4 (KM.snoc (by omega) rfl (show s4.size ≤ 8 by omega) _ _ hO)
   refine ⟨l,i',h',Ev.to (f:=fun k=>(spec_Decimal.f k (1000 + (kk + 1 + x2))).bind fun t=>if 1 + t.size ≤ 9223372036854775807 then (some (x3,i3,h3)).bind fun bt=>(spec_l01Text.f k b bt.2.1 bt.2.2 bt.1).bind fun u=>(if acc.length < 4398046511104 then (spec_l05Map.l0 k n (acc ++ [(⟨(⟨#[107]⟩ : ByteArray) ++ t,u.1⟩ : S69)]) (kk + 1 + x2) (j + 1) b u.2.1 u.2.2) else none) else none) (evs.bind (Ev.ifp (by omega) ?_)) fun k=>?_,hll,hlO,hi'⟩
   ·simp only [Option.bind_some]
    exact ev4.bind (Ev.ifp (by omega) ev)
   simp only [spec_l05Map.l0,wn,w1,w2,w3,w4,e1,e2,e3,Option.bind_some]
   clear wn w1 w2 w3 w4
   rw [if_pos hx]
  refine ⟨acc,i1,h1,(Ev.now _).to fun k=>?_,by omega,KM.up (by omega) _ _ hO,r1⟩
  simp only [spec_l05Map.l0,wn,e1,Option.bind_some]
  clear wn
  rw [if_neg hx]
theorem rMap (b : List Int) (hb : b.length ≤ 140737488351232) (n i h : Int) (h0 : 0 ≤ n) (hn : n ≤ 40) (hi : 0 ≤ i) : ∃ l i' h',Ev (fun k=>spec_l05Map.f k b i h n) (l,i',h') ∧ l.length ≤ 40 ∧ KM 999 l 9999 ∧ 0 ≤ i':=by
 obtain ⟨x1,i1,h1,e1,p1,q1,r1⟩:=dBelow b i h 30 hb hi (by omega)
 obtain ⟨l,i',h',ev,r⟩:=rMap_go b hb n h0 hn n.toNat [] x1 0 i1 h1 (by omega) (by omega) rfl p1 (by omega) r1 (show (999 : Int) ≤ 1000 + x1 by omega)
 refine ⟨l,i',h',?_,r⟩
 unfold spec_l05Map.f
 rw [e1]
 exact ev
theorem rNear_go (b : List Int) (hb : b.length ≤ 140737488351232) (m : List S69) (hm : m.length ≤ 40) : ∀ (d j : Nat) (acc : List S69) (c i h : Int),j + d = m.length → acc.length ≤ j → KM 999 acc c → KM c (m.drop j) 9999 → 0 ≤ i →
  ∃ l t i' h',Ev (fun k=>spec_l05Near.l0 k m acc (j : Int) b i h) (l ++ t,i',h') ∧ l.length ≤ 40 ∧ KM 999 l 9999 ∧ (t = [] ∨ ∃ s,t = [⟨⟨#[122]⟩,s⟩] ∧ s.size ≤ 8) ∧ 0 ≤ i'
 | 0,j,acc,c,i,h,hj,hl,hA,hR,hi=>by
  have hc:=KM.le _ _ _ hR
  obtain ⟨x1,i1,h1,e1,p1,q1,r1⟩:=dBelow b i h 2 hb hi (by omega)
  have e0 : spec_l01Once.f b i h 2 = some (x1 == 0,i1,h1):=by unfold spec_l01Once.f;rw [e1];rfl
  by_cases hx : x1 = 0
  ·obtain ⟨s4,i4,h4,ev4,hs4,r4⟩:=dText b hb 2 i1 h1 (by omega) (by omega) r1
   refine ⟨acc,[⟨⟨#[122]⟩,s4⟩],i4,h4,Ev.to (f:=fun k=>(spec_l01Text.f k b i1 h1 2).bind fun u=>if acc.length < 4398046511104 then some (acc ++ [(⟨⟨#[122]⟩,u.1⟩ : S69)],u.2.1,u.2.2) else none) (ev4.bind (Ev.ifp (by omega) (Ev.now _))) fun k=>?_,by omega,KM.up hc _ _ hA,.inr ⟨s4,rfl,by omega⟩,r4⟩
   simp only [spec_l05Near.l0]
   rw [if_neg (by omega),e0,Option.bind_some,if_pos (beq_iff_eq.2 hx)]
  refine ⟨acc,[],i1,h1,(Ev.now _).to fun k=>?_,by omega,KM.up hc _ _ hA,.inl rfl,r1⟩
  simp only [spec_l05Near.l0]
  rw [if_neg (by omega),e0,Option.bind_some,if_neg (by simpa using hx),List.append_nil]
 | d + 1,j,acc,c,i,h,hj,hl,hA,hR,hi=>by
  have hlt : j < m.length:=by omega
  rw [List.drop_eq_getElem_cons hlt] at hR
  obtain ⟨c1,hc1,hk1,hs1,hR1⟩:=hR
  have w1 : qo (wrap64 ((j : Int) + 1) = ((j + 1 : Nat) : Int)):=⟨by rw [wid (by omega) (by omega)];rfl⟩
  have hc:=KM.le _ _ _ hR1
  obtain ⟨x1,i1,h1,e1,p1,q1,r1⟩:=dBelow b i h 12 hb hi (by omega)
  by_cases c0 : x1 = 0
  ·obtain ⟨s4,i4,h4,ev4,hs4,r4⟩:=dText b hb 3 i1 h1 (by omega) (by omega) r1
   obtain ⟨l,t,i',h',ev,r⟩:=rNear_go b hb m hm d (j + 1) (acc ++ [⟨m[j].f0,s4⟩]) c1 i4 h4 (by omega) (by rw [List.length_append];simp;omega) (KM.snoc (p:=⟨m[j].f0,s4⟩) hc1 hk1 (show s4.size ≤ 8 by omega) _ _ hA) hR1 r4
   refine ⟨l,t,i',h',Ev.to (f:=fun k=>(spec_l01Text.f k b i1 h1 3).bind fun u=>if acc.length < 4398046511104 then (spec_l05Near.l0 k m (acc ++ [(⟨m[j].f0,u.1⟩ : S69)]) ((j + 1 : Nat) : Int) b u.2.1 u.2.2) else none) (ev4.bind (Ev.ifp (by omega) ev)) fun k=>?_,r⟩
   simp only [spec_l05Near.l0,e1,Option.bind_some]
   rw [if_pos (by omega),if_pos (by omega),if_pos c0,ri_Pair hlt,w1.out]
  by_cases c2 : x1 = 1
  ·obtain ⟨l,t,i',h',ev,r⟩:=rNear_go b hb m hm d (j + 1) acc c1 i1 h1 (by omega) (by omega) (KM.up (by omega) _ _ hA) hR1 r1
   refine ⟨l,t,i',h',ev.to fun k=>?_,r⟩
   simp only [spec_l05Near.l0,e1,Option.bind_some]
   rw [if_pos (by omega),if_pos (by omega),if_neg c0,if_pos c2,w1.out]
  obtain ⟨l,t,i',h',ev,r⟩:=rNear_go b hb m hm d (j + 1) (acc ++ [⟨m[j].f0,m[j].f1⟩]) c1 i1 h1 (by omega) (by rw [List.length_append];simp;omega) (KM.snoc (p:=⟨m[j].f0,m[j].f1⟩) hc1 hk1 hs1 _ _ hA) hR1 r1
  refine ⟨l,t,i',h',ev.to fun k=>?_,r⟩
  simp only [spec_l05Near.l0,e1,Option.bind_some]
  rw [if_pos (by omega),if_pos (by omega),if_neg c0,if_neg c2,if_pos (by omega),ri_Pair hlt,w1.out]
theorem dRightMap (b : List Int) (hb : b.length ≤ 140737488351232) : ∃ m n,Ev (fun k=>spec_DrawRightMap.f k b) (m,n) ∧ mapOk m = true ∧ m.length ≤ 41 ∧ mapOk n = true ∧ n.length ≤ 41:=by
 obtain ⟨h,ev0⟩:=dNew b hb
 obtain ⟨n,en,n0,n1⟩:=dSize b hb
 obtain ⟨l,i1,h1,ev1,hl,hK,r1⟩:=rMap b hb n 0 h n0 n1 (Int.le_refl _)
 obtain ⟨p,t,i2,h2,ev2,hp,hKp,ht,r2⟩:=rNear_go b hb l hl l.length 0 [] 999 i1 h1 (by omega) (by simp) (Int.le_refl _) hK r1
 have h1:=km_map (Int.le_refl _) [] (.inl rfl) (Int.le_refl _) hK hl
 rw [List.append_nil] at h1
 refine ⟨l,p ++ t,?_,h1,by omega,km_map (Int.le_refl _) t ht (Int.le_refl _) hKp hp,?_⟩
 ·unfold spec_DrawRightMap.f
  refine ev0.bind ?_
  simp only [en,Option.bind_some]
  refine ev1.bind ?_
  unfold spec_l05Near.f
  exact ev2.bind (Ev.now _)
 rw [List.length_append]
 rcases ht with rfl|⟨s,rfl,hs⟩ <;> simp <;> omega
def pDeviceNew (n : Int) : List ByteArray × List S96 × Bool:=if 1 ≤ n ∧ n ≤ 400 then (List.replicate n.toNat (⟨#[]⟩ : ByteArray),[],true) else ([],[],false)
theorem iDeviceNew (n : Int) : impl_DeviceNew.f n = some (pDeviceNew n):=by
 unfold impl_DeviceNew.f pDeviceNew
 by_cases h : 1 ≤ n ∧ n ≤ 400
 ·rw [i_in_t h,if_pos h]
  simp only [Option.bind_some,if_true]
  rw [if_pos (by omega),if_pos (by omega)]
 rw [i_in_f h,if_neg h]
 simp only [Option.bind_some,Bool.false_eq_true,if_false]
theorem iFD_go (p0 p : List S96) (hp : p.length ≤ 1048576) (n : Nat) (hr : ∀ x ∈ p,0 ≤ x.f0 ∧ x.f0 < (n : Int)) : ∀ (d i : Nat) (z : List ByteArray),i + d = p.length → z.length = n → Ev (fun k=>impl_FlushDevice.l0 k p (p.length : Int) (i : Int) z p0) (flushL z (p.drop i),[],true)
 | 0,i,z,hi,hz=>by
  rw [List.drop_of_length_le (by omega)]
  exact (Ev.now _).to fun k=>by simp only [impl_FlushDevice.l0];rw [if_neg (by omega)];rfl
 | d + 1,i,z,hi,hz=>by
  have hlt : i < p.length:=by omega
  have hx:=hr _ (List.getElem_mem hlt)
  have w2 : qo (wrap64 ((i : Int) + 1) = ((i + 1 : Nat) : Int)):=⟨by rw [wid (by omega) (by omega)];rfl⟩
  rw [List.drop_eq_getElem_cons hlt,flushL_cons]
  refine (iFD_go p0 p hp n hr d (i + 1) _ (by omega) (by rw [List.length_set];exact hz)).to fun k=>?_
  simp only [impl_FlushDevice.l0]
  rw [if_pos (by omega),if_pos (by omega),if_pos (by omega),ri_Put hlt,if_pos (by omega),if_pos (by omega),w2.out]
theorem iFlushDevice (s : List ByteArray) (p : List S96) (hs : s.length ≤ 1048576) (hp : p.length ≤ 1048576) : Ev (fun k=>impl_FlushDevice.f k s p) (pFlush s p):=by
 unfold impl_FlushDevice.f pFlush
 refine (iDeviceOk s p hs hp).bind ?_
 by_cases h : devOk s p = true
 ·obtain ⟨h1,h2,h3⟩:=devOk_t h
  rw [if_pos h,icopyDevice s p (by omega) (by omega)]
  refine Ev.ifp h ?_
  simp only [Option.bind_some]
  exact iFD_go p p hp s.length (fun x hx=>⟨(h3 x hx).1,(h3 x hx).2.1⟩) p.length 0 s (by omega) rfl
 rw [if_neg h]
 exact Ev.ifn h (Ev.now _)
theorem sameMap_go (x0 : List Prr) (hl : x0.length ≤ 100000000) : ∀ (d i : Nat),i + d = x0.length → Ev (fun k=>laws_sameMap.l0 k x0 x0 (i : Int)) true
 | 0,i,hi=>(Ev.now _).to fun k=>by simp only [laws_sameMap.l0];rw [if_neg (by omega)]
 | d + 1,i,hi=>by
  refine (sameMap_go x0 hl d (i + 1) (by omega)).to fun k=>?_
  simp only [laws_sameMap.l0]
  rw [if_pos (by omega),if_pos (by omega),if_pos (by omega),if_neg (by simp),wid (by omega) (by omega)]
  rfl
theorem sameMap (x0 : List Prr) (hl : x0.length ≤ 100000000) : Ev (fun k=>laws_sameMap.f k x0 x0) true:=by
 unfold laws_sameMap.f
 exact Ev.ifp rfl (sameMap_go x0 hl x0.length 0 (by omega))
theorem sameInts_go (x0 : List Int) (hl : x0.length ≤ 100000000) : ∀ (d i : Nat),i + d = x0.length → Ev (fun k=>laws_sameInts.l0 k x0 x0 (i : Int)) true
 | 0,i,hi=>(Ev.now _).to fun k=>by simp only [laws_sameInts.l0];rw [if_neg (by omega)]
 | d + 1,i,hi=>by
  refine (sameInts_go x0 hl d (i + 1) (by omega)).to fun k=>?_
  simp only [laws_sameInts.l0,if_true]
  rw [if_pos (by omega),if_pos (by omega),if_pos (by omega),wid (by omega) (by omega)]
  rfl
theorem sameInts (x0 : List Int) (hl : x0.length ≤ 100000000) : Ev (fun k=>laws_sameInts.f k x0 x0) true:=by
 unfold laws_sameInts.f
 exact Ev.ifp rfl (sameInts_go x0 hl x0.length 0 (by omega))
def S400 : List ByteArray:=List.replicate 400 (⟨#[]⟩ : ByteArray)
theorem S400_len : S400.length = 400:=by unfold S400;rw [List.length_replicate]
theorem S400_ok : devOk S400 ([] : List S96) = true:=devOk_mk ⟨⟨by rw [S400_len];omega,by rw [S400_len];omega,by simp⟩,fun x hx=>by rw [List.eq_of_mem_replicate hx];exact Nat.zero_le _,fun x hx=>by cases hx⟩
theorem S400_rd (i : Int) : (pgAt S400 ([] : List S96) i).2.2 = false:=by
 have : rdS S400 ([] : List S96) i = (⟨#[]⟩ : ByteArray):=by
  show secAt S400 i = _
  unfold secAt rdOf S400
  rw [List.getD_eq_getElem?_getD,List.getElem?_replicate]
  split <;> rfl
 unfold pgAt
 rw [this]
 exact no_page
/-- What a first map leaves: it is read, and placed again. -/
structure First (m : List Prr) (e1 : List S96) (root : Int) (used : List Int) : Prop where
 t1 : impl_tree.f S400 [] (freeOf S400 ([] : List S96) []) m = some (S400,e1,root,used,true)
 ok : devOk S400 e1 = true
 asc : Asc used
 ul : used.length ≤ 128
 ur : ∀ x ∈ used,0 ≤ x ∧ x < 400
 r1 : impl_rtree.f (flushL S400 e1) [] root = some (m,used)
 t2 : impl_tree.f (flushL S400 e1) [] (freeOf (flushL S400 e1) ([] : List S96) used) m = some (flushL S400 e1,[],root,used,true)
 r3 : ∀ P' : List S96,devOk (flushL S400 e1) P' = true → (∀ i,i ∉ freeOf (flushL S400 e1) ([] : List S96) used → rdS (flushL S400 e1) P' i = rdS (flushL S400 e1) [] i) → ∃ u4,impl_rtree.f (flushL S400 e1) P' root = some (m,u4)
theorem first_nil : First [] [] (-1) [] where
 t1:=place_nil S400_ok (fun x hx=>by have:=(mem_free S400_ok [] x).1 hx;omega)
 ok:=S400_ok
 asc:=List.Pairwise.nil
 ul:=by simp
 ur:=fun x hx=>by cases hx
 r1:=rtree_no S400_ok
 t2:=place_nil (flush_ok S400_ok) (fun x hx=>by have:=(mem_free (flush_ok S400_ok) [] x).1 hx;omega)
 r3:=fun P' hd _=>⟨[],rtree_no hd⟩
theorem first_new {m : List Prr} (hm : mapOk m = true) (hml : m.length ≤ 64) (hm0 : m ≠ []) : ∃ e1 root used,First m e1 root used:=by
 have hfl:=free_len2 S400_ok []
 have hFl : (freeOf S400 ([] : List S96) []).length ≤ 400:=by
  have:=asc_len _ 2 400 (free_asc S400_ok []) (fun x hx=>by have:=(mem_free S400_ok [] x).1 hx;rw [S400_len] at this;omega)
  omega
 rw [S400_len,List.length_nil] at hfl
 obtain ⟨P1,L1,U1,r,us,t1,h⟩:=place_new S400_ok hm hm0 hml (fun x hx=>by have:=(mem_free S400_ok [] x).1 hx;omega) (asc_nodup (free_asc S400_ok [])) hFl (by omega) (by simp)
 obtain ⟨d,k,u,ht,hp,hd⟩:=placed_tree hm h
 have hok:=h.inv.dev
 have hfl2:=flush_ok hok
 have hlen : (flushL S400 P1).length = 400:=by rw [flushL_len,S400_len]
 have hrng : ∀ y ∈ us,0 ≤ y ∧ y < 400:=fun y hy=>by have:=(h.rng y hy).2;rw [S400_len] at this;exact this
 have hus : us.Nodup:=by
  have:=h.fr (fun i _=>S400_rd i)
  have hn:=asc_nodup (free_asc S400_ok [])
  rw [this] at hn
  exact (List.nodup_append.1 hn).1
 have hmem : ∀ y,y ∈ U1 ↔ y ∈ us:=fun y=>by rw [h.mem y];simp
 have hU : U1.length ≤ 128:=Nat.le_trans (nodup_len us U1 (asc_nodup h.inv.asc) (fun x hx=>(hmem x).1 hx)) h.len
 have hu : ∀ x,x ∈ u ↔ x ∈ us:=fun x=>hp.mem_iff
 have htF : TreeAt (pgAt (flushL S400 P1) []) d r k m u:=ht.to (fun y hy=>pgAt_flush hok (hrng y ((hu y).1 hy)).1)
 have hins : insAll [] u = U1:=asc_ext (insAll_asc u [] List.Pairwise.nil) h.inv.asc (fun y=>by rw [mem_insAll,hmem y,hu y];simp)
 have hul : u.length ≤ 128:=by rw [hp.length_eq];exact h.len
 have huF : ∀ y ∈ us,y ∉ freeOf (flushL S400 P1) ([] : List S96) U1:=fun y hy hf=>((mem_free hfl2 U1 y).1 hf).2 ((hmem y).2 hy)
 have hFr : ∀ x ∈ freeOf (flushL S400 P1) ([] : List S96) U1,0 ≤ x ∧ x < ((flushL S400 P1).length : Int):=fun x hx=>by have:=(mem_free hfl2 U1 x).1 hx;omega
 have hFl2 : (freeOf (flushL S400 P1) ([] : List S96) U1).length ≤ 400:=by
  have:=asc_len _ 2 400 (free_asc hfl2 U1) (fun x hx=>by have:=(mem_free hfl2 U1 x).1 hx;rw [hlen] at this;omega)
  omega
 obtain ⟨f1,f2,f3,_⟩:=map_facts hm (flushL S400 P1).length
 have hunq:=tree_uniq htF (hp.nodup_iff.2 hus) f3
 have hB : Built (pgAt (flushL S400 P1) []) 7 1 (m.map itemOf) r us:=h.built.to (fun y hy=>pgAt_flush hok (hrng y hy).1)
 obtain ⟨U2,e2,hI2,hm2⟩:=lv_again (S:=flushL S400 P1) (P:=[]) (F:=freeOf (flushL S400 P1) ([] : List S96) U1) (L:=freeOf (flushL S400 P1) ([] : List S96) U1) (by omega) 7 1000 1 (m.map itemOf) [] (-1) r us hB (.inl rfl) f1 f2 (fun h=>hm0 (List.map_eq_nil_iff.1 h)) (by rw [List.length_map];omega) (fun y hy=>⟨huF y hy,by rw [hlen];exact hrng y hy,fun z hz h0 h1 e=>by
  rw [hlen] at h1
  by_cases hzu : z ∈ us
  ·by_cases hne : z = y
   ·exact hne
   exact absurd e (pw_all (fun a b h e=>h e.symm) hunq z ((hu z).2 hzu) y ((hu y).2 hy) hne)
  exfalso
  have hz2 : ¬ (2 ≤ z ∧ z < ((flushL S400 P1).length : Int)):=fun h2=>hz ((mem_free hfl2 U1 z).2 ⟨h2,fun hm=>hzu ((hmem z).1 hm)⟩)
  have h3 : (pgAt (flushL S400 P1) [] z).2.2 = false:=by
   rw [pgAt_flush hok h0,pgAt_eq (h.rd z (fun hm=>by have:=(mem_free S400_ok [] z).1 hm;rw [S400_len] at this;rw [hlen] at hz2;omega))]
   exact S400_rd z
  have h4 : (pgAt (flushL S400 P1) [] y).2.2 = true:=tree_okAt htF y ((hu y).2 hy)
  rw [e,h4] at h3
  cases h3⟩) ⟨hfl2,hFr,List.Pairwise.nil,fun x hx=>by cases hx⟩ (by omega)
 have hU2 : U2 = U1:=asc_ext hI2.asc h.inv.asc (fun y=>by rw [hm2 y,hmem y];simp)
 subst hU2
 refine ⟨P1,r,U2,t1,hok,h.inv.asc,hU,fun x hx=>hrng x ((hmem x).1 hx),?_,?_,fun P' hd' hr'=>?_⟩
 ·have:=rtree_ok hfl2 htF (by omega) (by omega) (fun x hx=>by rw [hlen];exact hrng x ((hu x).1 hx)) hm
  rw [hins] at this
  exact this
 ·rw [itree_eq hfl2 hm hFr,e2,Option.bind_some]
  rfl
 have ht' : TreeAt (pgAt (flushL S400 P1) P') d r k m u:=htF.to (fun y hy=>pgAt_eq (hr' y (huF y ((hu y).1 hy))))
 exact ⟨_,rtree_ok hd' ht' (by omega) (by omega) (fun x hx=>by rw [hlen];exact hrng x ((hu x).1 hx)) hm⟩
theorem FnTrees : laws_FnTrees.Pure:=by
 intro b _ _ _
 by_cases hbig : (b.length : Int) > 1048576
 ·exact .long hbig
 obtain ⟨m,n,evD,hm,hml,hn,hnl⟩:=dRightMap b (by omega)
 obtain ⟨e1,root,used,H⟩ : ∃ e1 root used,First m e1 root used:=by
  by_cases hm0 : m = []
  ·subst hm0;exact ⟨_,_,_,first_nil⟩
  exact first_new hm (by omega) hm0
 have hfl2:=flush_ok H.ok
 have hlen : (flushL S400 e1).length = 400:=by rw [flushL_len,S400_len]
 obtain ⟨⟨_,_,he1⟩,_,_⟩:=devOk_t H.ok
 have hF:=H.ul
 have hf2:=free_len2 hfl2 used
 rw [hlen] at hf2
 have hFr : ∀ x ∈ freeOf (flushL S400 e1) ([] : List S96) used,0 ≤ x ∧ x < ((flushL S400 e1).length : Int):=fun x hx=>by have:=(mem_free hfl2 used x).1 hx;omega
 have hFl2 : (freeOf (flushL S400 e1) ([] : List S96) used).length ≤ 400:=by
  have:=asc_len _ 2 400 (free_asc hfl2 used) (fun x hx=>by have:=(mem_free hfl2 used x).1 hx;rw [hlen] at this;omega)
  omega
 have hfl : Ev (fun k=>impl_FlushDevice.f k S400 e1) (flushL S400 e1,([] : List S96),true):=by
  have:=iFlushDevice S400 e1 (by rw [S400_len];omega) (by omega)
  unfold pFlush at this
  rw [if_pos H.ok] at this
  exact this
 have hdn : impl_DeviceNew.f 400 = some (S400,([] : List S96),true):=iDeviceNew 400
 have third : ∃ h1 other u2 u3,impl_tree.f (flushL S400 e1) [] (freeOf (flushL S400 e1) ([] : List S96) used) n = some (flushL S400 e1,h1,other,u2,true) ∧ impl_rtree.f (flushL S400 e1) h1 other = some (n,u3) ∧ devOk (flushL S400 e1) h1 = true ∧ ∀ i,i ∉ freeOf (flushL S400 e1) ([] : List S96) used → rdS (flushL S400 e1) h1 i = rdS (flushL S400 e1) [] i:=by
  by_cases hn0 : n = []
  ·subst hn0
   exact ⟨[],-1,[],[],place_nil hfl2 hFr,rtree_no hfl2,hfl2,fun _ _=>rfl⟩
  obtain ⟨P3,L3,U3,r3,us3,t3,h3⟩:=place_new hfl2 hn hn0 (by omega) hFr (asc_nodup (free_asc hfl2 used)) hFl2 (by omega) (by simp)
  obtain ⟨d,k,u,ht,hp,hd⟩:=placed_tree hn h3
  have hul : u.length ≤ 128:=by rw [hp.length_eq];exact h3.len
  exact ⟨P3,r3,U3,_,t3,rtree_ok h3.inv.dev ht (by omega) (by omega) (fun x hx=>(h3.rng x (hp.mem_iff.1 hx)).2) hn,h3.inv.dev,h3.rd⟩
 obtain ⟨h1,other,u2,u3,t3,r2,hd3,hrd3⟩:=third
 obtain ⟨u4,r4⟩:=H.r3 h1 hd3 hrd3
 exact .main hbig m n S400 [] _ S400 e1 root used (flushL S400 e1) [] _ (flushL S400 e1) (flushL S400 e1) h1 other u2 u3 u4
  { dr:=evD,dn:=hdn,fo:=iFreeOf S400 [] [] (by rw [S400_len];omega) (by simp) (by simp),t1:=H.t1,fl:=hfl,r1:=H.r1,sm:=sameMap m (by omega),si:=sameInts used (by omega),fo2:=iFreeOf _ [] used (by rw [hlen];omega) (by simp) (by omega),t2:=H.t2,t3:=t3,r2:=r2,r3:=r4,sn:=sameMap n (by omega) }

end Go.Proofs.Ytcnoccefdejphaa.Pure
