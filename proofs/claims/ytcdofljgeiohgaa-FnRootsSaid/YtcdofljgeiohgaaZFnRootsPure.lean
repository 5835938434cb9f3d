/- A drawn right root comes back from its text; of two on a device the later one is read: whatever the bytes that are drawn from. -/
import Derived.Test.YtcdofljgeiohgaaZFnRootsx6
import Derived.Laws.BitsAllLaws
namespace Go.Proofs.Ytcdofljgeiohgaa.Pure
open Go.RowKit Go.Proofs.Ytcdofljgeiohgaa.QFnRoots Go.Proofs.YtcdofljgeiohgaaW.PrintWords Go.Proofs.YtcdofljgeiohgaaW.PrintLast
set_option linter.unusedVariables false
set_option linter.unusedSimpArgs false
set_option maxHeartbeats 4000000

theorem wid {n : Int} (h0 : -9223372036854775808 ≤ n) (h1 : n < 9223372036854775808) : wrap64 n = n:=by unfold wrap64;omega
theorem _root_.Go.Proofs.YtcdofljgeiohgaaW.PrintWords.Ev.ofEq {α : Type} {g : Nat → Option α} {r q : α} (h : Ev g r) (e : r = q) : Ev g q:=e ▸ h
theorem _root_.Go.Proofs.YtcdofljgeiohgaaW.PrintWords.Ev.same {α : Type} {o : Option α} {r : α} (h : o = some r) : Ev (fun _=>o) r:=⟨0,fun _ _=>h⟩
theorem _root_.Go.Proofs.YtcdofljgeiohgaaW.PrintWords.Ev.to {α : Type} {g f : Nat → Option α} {r : α} (k : Ev f r) (h : ∀ k,g (k + 1) = f k) : Ev g r:=Ev.step h k
theorem _root_.Go.Proofs.YtcdofljgeiohgaaW.PrintWords.Ev.cg {α : Type} {g f : Nat → Option α} {r : α} (k : Ev f r) (h : ∀ k,g k = f k) : Ev g r:=Ev.congr h k
theorem _root_.Go.Proofs.YtcdofljgeiohgaaW.PrintWords.Ev.ifp {α : Type} {c : Prop} [Decidable c] {g f : Nat → Option α} {r : α} (h : c) (e : Ev g r) : Ev (fun k=>if c then g k else f k) r:=by simp only [if_pos h];exact e
theorem _root_.Go.Proofs.YtcdofljgeiohgaaW.PrintWords.Ev.ifn {α : Type} {c : Prop} [Decidable c] {g f : Nat → Option α} {r : α} (h : ¬ c) (e : Ev f r) : Ev (fun k=>if c then g k else f k) r:=by simp only [if_neg h];exact e
/-- The bytes of a string, as numbers. -/
def bl (s : ByteArray) : List Int:=s.data.toList.map fun b=>(b.toNat : Int)
theorem bl_len (s : ByteArray) : (bl s).length = s.size:=by unfold bl;rw [List.length_map];rfl
def Byt (xs : List Int) : Prop:=∀ x ∈ xs,0 ≤ x ∧ x < 256
theorem Byt.nil : Byt []:=fun _ h=>by simp at h
theorem Byt.cons {x : Int} {xs : List Int} (h : 0 ≤ x ∧ x < 256) (h' : Byt xs) : Byt (x :: xs):=fun y hy=>by
  rcases List.mem_cons.1 hy with rfl|hy
  · exact h
  · exact h' y hy
theorem Byt.app {xs ys : List Int} (h : Byt xs) (h' : Byt ys) : Byt (xs ++ ys):=fun y hy=>by
  rcases List.mem_append.1 hy with hy|hy
  · exact h y hy
  · exact h' y hy
theorem Byt.right {xs ys : List Int} (h : Byt (xs ++ ys)) : Byt ys:=fun y hy=>h y (List.mem_append_right _ hy)
theorem Byt.head {x : Int} {xs : List Int} (h : Byt (x :: xs)) : 0 ≤ x ∧ x < 256:=h x (List.mem_cons_self ..)
theorem Byt.drop {xs : List Int} (h : Byt xs) (n : Nat) : Byt (xs.drop n):=fun y hy=>h y (List.mem_of_mem_drop hy)
theorem Byt.take {xs : List Int} (h : Byt xs) (n : Nat) : Byt (xs.take n):=fun y hy=>h y (List.mem_of_mem_take hy)
theorem bl_str {xs : List Int} (h : Byt xs) : bl (strOfNums xs) = xs:=by
  unfold bl
  rw [strOfNums_data,List.map_map]
  conv=>rhs;rw [← List.map_id xs]
  apply List.map_congr_left
  intro x hx
  have:=h x hx
  simp only [Function.comp,id]
  obtain ⟨n,rfl⟩:=Int.eq_ofNat_of_zero_le this.1
  simp
  omega
theorem str_bl (s : ByteArray) : strOfNums (bl s) = s:=by
  unfold strOfNums bl
  rw [List.map_map]
  have : ((fun n : Int=>UInt8.ofNat n.toNat) ∘ fun b : UInt8=>(b.toNat : Int)) = id:=by
    funext b
    simp
  rw [this,List.map_id]
theorem bl_inj {a b : ByteArray} (h : bl a = bl b) : a = b:=by rw [← str_bl a,← str_bl b,h]
theorem bt_bl (s : ByteArray) (i : Int) : bt s i = (bl s).getD i.toNat 0:=by
  unfold bt
  split
  · rename_i h
    have hl : i.toNat < s.data.toList.length:=h
    simp only [bl,List.getD_eq_getElem?_getD,List.getElem?_map,List.getElem?_eq_getElem hl,Option.map_some,Option.getD_some]
    rfl
  · rename_i h
    rw [List.getD_eq_getElem?_getD,List.getElem?_eq_none (by rw [bl_len];omega)]
    rfl
theorem bl_app (a b : ByteArray) : bl (a ++ b) = bl a ++ bl b:=by
  unfold bl
  rw [ByteArray.data_append,Array.toList_append,List.map_append]
theorem bl_ext (a : ByteArray) (i j : Nat) : bl (a.extract i j) = ((bl a).take j).drop i:=by
  unfold bl
  rw [ByteArray.data_extract,Array.toList_extract,List.extract_eq_take_drop,List.map_take,List.map_drop,List.drop_take]
theorem bl_emp : bl (⟨#[]⟩ : ByteArray) = []:=rfl
theorem bl_cons {s : ByteArray} {i : Nat} (h : i < s.size) : (bl s).drop i = bt s (i : Int) :: (bl s).drop (i + 1):=by
  have hl : i < (bl s).length:=by rw [bl_len];exact h
  rw [List.drop_eq_getElem_cons hl,bt_bl,List.getD_eq_getElem?_getD,Int.toNat_natCast,List.getElem?_eq_getElem hl]
  rfl
theorem bl_end {s : ByteArray} {i : Nat} (h : s.size ≤ i) : (bl s).drop i = []:=List.drop_of_length_le (by rw [bl_len];exact h)
theorem tl_inj {a b : ByteArray} : a.toList = b.toList ↔ a = b:=by
  constructor
  · intro h
    rw [ByteArray.toList_eq,ByteArray.toList_eq] at h
    apply ByteArray.ext
    exact Array.toList_inj.1 h
  · rintro rfl;rfl
theorem tl_bl {a b : ByteArray} : a.toList = b.toList ↔ bl a = bl b:=tl_inj.trans ⟨fun h=>h ▸ rfl,bl_inj⟩
theorem tdiv_pos {a b : Int} (h : 0 ≤ a) : Int.tdiv a b = a / b:=Int.tdiv_eq_ediv_of_nonneg h
theorem tmod_pos {a b : Int} (h : 0 ≤ a) : Int.tmod a b = a % b:=Int.tmod_eq_emod_of_nonneg h
theorem Byt.one {x : Int} (h : 0 ≤ x ∧ x < 256) : Byt [x]:=Byt.nil.cons h
theorem bl_size (s : ByteArray) : s.size = (bl s).length:=(bl_len s).symm
theorem str_len (xs : List Int) : (strOfNums xs).size = xs.length:=strOfNums_size xs

/-! Draws: whatever the bytes, a number in its bounds -/
theorem and255 (y : Int) : 0 ≤ Go.bits .and .i64 y 255 ∧ Go.bits .and .i64 y 255 < 256:=by
  have h : (BitVec.ofInt 64 y &&& BitVec.ofInt 64 255).toNat ≤ 255:=by
    rw [BitVec.toNat_and];exact Nat.le_trans Nat.and_le_right (by decide)
  have e : Go.bits .and .i64 y 255 = IntKind.i64.wrap ((BitVec.ofInt 64 y &&& BitVec.ofInt 64 255).toNat : Nat):=rfl
  rw [e,IntKind.wrap_i64]
  omega
theorem dByte (b : List Int) (i h : Int) (hb : b.length ≤ 140737488351232) (hi : 0 ≤ i) : ∃ x i' h',spec_l01Byte.f b i h = some (x,i',h') ∧ 0 ≤ x ∧ x < 256 ∧ 0 ≤ i':=by
  unfold spec_l01Byte.f
  by_cases h1 : i < (b.length : Int)
  · have w : wrap64 (i + 1) = i + 1:=wid (by omega) (by omega)
    rw [w];clear w
    rw [if_pos h1,if_pos hi]
    exact ⟨_,_,_,rfl,(and255 _).1,(and255 _).2,by omega⟩
  · rw [if_neg h1]
    exact ⟨_,_,_,rfl,(and255 _).1,(and255 _).2,hi⟩
theorem dBelow (b : List Int) (i h n : Int) (hb : b.length ≤ 140737488351232) (hi : 0 ≤ i) (hn : 0 < n) : ∃ x i' h',spec_l01Below.f b i h n = some (x,i',h') ∧ 0 ≤ x ∧ x < n ∧ 0 ≤ i':=by
  unfold spec_l01Below.f
  rw [if_neg (by omega)]
  obtain ⟨x1,i1,h1,e1,p1,q1,r1⟩:=dByte b i h hb hi
  by_cases hs : n ≤ 256
  · rw [if_pos hs,e1]
    simp only [Option.bind_some]
    rw [if_neg (by omega),tmod_pos p1]
    exact ⟨_,_,_,rfl,Int.emod_nonneg _ (by omega),Int.emod_lt_of_pos _ hn,r1⟩
  · obtain ⟨x2,i2,h2,e2,p2,q2,r2⟩:=dByte b i1 h1 hb r1
    obtain ⟨x3,i3,h3,e3,p3,q3,r3⟩:=dByte b i2 h2 hb r2
    obtain ⟨x4,i4,h4,e4,p4,q4,r4⟩:=dByte b i3 h3 hb r3
    have w1 : wrap64 (x1 * 16777216) = x1 * 16777216:=wid (by omega) (by omega)
    have w2 : wrap64 (x2 * 65536) = x2 * 65536:=wid (by omega) (by omega)
    have w3 : wrap64 (x3 * 256) = x3 * 256:=wid (by omega) (by omega)
    have w4 : wrap64 (x1 * 16777216 + x2 * 65536) = x1 * 16777216 + x2 * 65536:=wid (by omega) (by omega)
    have w5 : wrap64 (x1 * 16777216 + x2 * 65536 + x3 * 256) = x1 * 16777216 + x2 * 65536 + x3 * 256:=wid (by omega) (by omega)
    have w6 : wrap64 (x1 * 16777216 + x2 * 65536 + x3 * 256 + x4) = x1 * 16777216 + x2 * 65536 + x3 * 256 + x4:=wid (by omega) (by omega)
    rw [if_neg hs,e1]
    simp only [Option.bind_some]
    rw [e2]
    simp only [Option.bind_some]
    rw [e3]
    simp only [Option.bind_some]
    rw [e4]
    simp only [Option.bind_some,w1,w2,w3,w4,w5,w6]
    clear w1 w2 w3 w4 w5 w6
    rw [if_neg (by omega),tmod_pos (by omega)]
    exact ⟨_,_,_,rfl,Int.emod_nonneg _ (by omega),Int.emod_lt_of_pos _ hn,r4⟩
theorem dNew_go (b : List Int) (hb : b.length ≤ 140737488351232) : ∀ (d i : Nat) (x : Int),i + d = b.length → ∃ h,Ev (fun k=>spec_l01New.l0 k b x (i : Int)) (b,0,h)
  | 0,i,x,hi=>⟨x,(Ev.now _).to fun k=>by simp only [spec_l01New.l0];rw [if_neg (by omega)]⟩
  | d + 1,i,x,hi=>by
    by_cases h4 : (i : Int) < 4000
    · have w : wrap64 ((i : Int) + 1) = ((i + 1 : Nat) : Int):=by rw [wid (by omega) (by omega)];rfl
      obtain ⟨h,e⟩:=dNew_go b hb d (i + 1) (Go.bits .and .i64 (wrap64 ((wrap64 ((wrap64 (x * 131)) + (wrap64 (rd b (i : Int))))) + 7)) 1073741823) (by omega)
      refine ⟨h,e.to fun k=>?_⟩
      simp only [spec_l01New.l0,w]
      clear w
      rw [if_pos (by omega),if_pos h4,if_pos (by omega)]
    · exact ⟨x,(Ev.now _).to fun k=>by simp only [spec_l01New.l0];rw [if_pos (by omega),if_neg h4]⟩
theorem dNew (b : List Int) (hb : b.length ≤ 140737488351232) : ∃ h,Ev (fun k=>spec_l01New.f k b) (b,0,h):=by
  unfold spec_l01New.f
  exact dNew_go b hb b.length 0 _ (by omega)

theorem dPickInt (b : List Int) (i h : Int) (l : List Int) (hb : b.length ≤ 140737488351232) (hi : 0 ≤ i) (hl : 0 < l.length) : ∃ x i' h',spec_l01PickInt.f b i h l = some (x,i',h') ∧ 0 ≤ i':=by
  obtain ⟨y,i1,h1,e,p,q,r⟩:=dBelow b i h (l.length : Int) hb hi (by omega)
  refine ⟨rd l y,i1,h1,?_,r⟩
  unfold spec_l01PickInt.f
  rw [e]
  simp only [Option.bind_some]
  rw [if_pos p,if_pos q]
theorem dl06Root (b : List Int) (i h : Int) (hb : b.length ≤ 140737488351232) (hi : 0 ≤ i) : ∃ x y i' h',spec_l06Root.f b i h = some (x,y,i',h') ∧ 0 ≤ i':=by
  obtain ⟨x1,i1,h1,e1,_,_,r1⟩:=dBelow b i h 400 hb hi (by omega)
  obtain ⟨x2,i2,h2,e2,_,_,r2⟩:=dBelow b i1 h1 300 hb r1 (by omega)
  obtain ⟨x3,i3,h3,e3,_,_,r3⟩:=dBelow b i2 h2 20 hb r2 (by omega)
  unfold spec_l06Root.f
  rw [e1]
  simp only [Option.bind_some]
  rw [e2]
  simp only [Option.bind_some]
  rw [e3]
  simp only [Option.bind_some]
  by_cases c0 : x3 = 0
  · obtain ⟨x,i4,h4,e4,r4⟩:=dPickInt b i3 h3 [(-1),1000000000,1000000001,65536] hb r3 (by simp)
    rw [if_pos c0,e4]
    exact ⟨_,_,_,_,rfl,r4⟩
  · rw [if_neg c0]
    by_cases c1 : x3 = 1
    · obtain ⟨x,i4,h4,e4,r4⟩:=dPickInt b i3 h3 [(-2),(-1),399,400] hb r3 (by simp)
      rw [if_pos c1,e4]
      exact ⟨_,_,_,_,rfl,r4⟩
    · rw [if_neg c1]
      exact ⟨_,_,_,_,rfl,r3⟩
def dRT (k : Nat) (bt : List Int × Int × Int) : Option (Int × Int):=(spec_l06Root.f bt.1 bt.2.1 bt.2.2).bind fun bt152=>(some (bt152.1,bt152.2.1))
theorem dRootText (b : List Int) (hb : b.length ≤ 140737488351232) : ∃ x y,Ev (fun k=>spec_DrawRootText.f k b) (x,y):=by
  obtain ⟨h,ev⟩:=dNew b hb
  obtain ⟨x,y,i1,h1,e,_⟩:=dl06Root b 0 h hb (by omega)
  refine ⟨x,y,?_⟩
  unfold spec_DrawRootText.f
  refine ev.bind (f:=dRT) ?_
  have step : ∀ k,dRT k (b,0,h) = some (x,y):=fun k=>by unfold dRT;rw [e];rfl
  exact Ev.cg (Ev.now _) step

theorem getD_at {α : Type} {xs : List α} {i : Nat} (z : α) (h : i < xs.length) : xs.getD ((i : Int)).toNat z = xs[i]:=by
  rw [Int.toNat_natCast,List.getD_eq_getElem?_getD,List.getElem?_eq_getElem h];rfl
theorem rdOf_at {α : Type} {xs : List α} {i : Nat} (z : α) (h : i < xs.length) : rdOf z xs (i : Int) = xs[i]:=getD_at z h
theorem rd_at {xs : List Int} {i : Nat} (h : i < xs.length) : rd xs (i : Int) = xs[i]:=getD_at 0 h
theorem dPlaces_go (b : List Int) (hb : b.length ≤ 140737488351232) : ∀ (d : Nat) (acc : List Int) (j i h : Int),0 ≤ j → j + d = 12 → (acc.length : Int) = j → 0 ≤ i → (∀ x ∈ acc,0 ≤ x ∧ x < 10000) → ∃ l,Ev (fun k=>spec_DrawPlaces.l0 k acc j b i h) l ∧ l.length = 12 ∧ ∀ x ∈ l,0 ≤ x ∧ x < 10000
  | 0,acc,j,i,h,hj,hd,hl,hi,hA=>⟨acc,(Ev.now _).to fun k=>by simp only [spec_DrawPlaces.l0];rw [if_neg (by omega)],by omega,hA⟩
  | d + 1,acc,j,i,h,hj,hd,hl,hi,hA=>by
    obtain ⟨x,i1,h1,e,p,q,r⟩:=dBelow b i h 10000 hb hi (by omega)
    obtain ⟨l,ev,hl1,hl2⟩:=dPlaces_go b hb d (acc ++ [x]) (j + 1) i1 h1 (by omega) (by omega) (by rw [List.length_append];simp;omega) r (fun y hy=>by
      rcases List.mem_append.1 hy with hy|hy
      · exact hA y hy
      · rw [List.mem_singleton.1 hy];exact ⟨p,q⟩)
    have w : wrap64 (j + 1) = j + 1:=wid (by omega) (by omega)
    refine ⟨l,ev.to fun k=>?_,hl1,hl2⟩
    simp only [spec_DrawPlaces.l0,w,e,Option.bind_some]
    clear w
    rw [if_pos (by omega),if_pos (by omega)]
def dP (b : List Int) (k : Nat) (bt : Int × Int × Int) : Option (List Int):=spec_DrawPlaces.l0 k ([] : List Int) 0 b bt.2.1 bt.2.2
theorem dPlaces (b : List Int) (hb : b.length ≤ 140737488351232) : ∃ l,Ev (fun k=>spec_DrawPlaces.f k b) l ∧ l.length = 12 ∧ ∀ x ∈ l,0 ≤ x ∧ x < 10000:=by
  obtain ⟨h,ev⟩:=dNew b hb
  obtain ⟨x,i1,h1,e,p,q,r⟩:=dByte b 0 h hb (by omega)
  obtain ⟨l,ev2,hl⟩:=dPlaces_go b hb 12 [] 0 i1 h1 (by omega) (by omega) rfl r (fun _ h=>by simp at h)
  refine ⟨l,?_,hl⟩
  unfold spec_DrawPlaces.f
  refine ev.bind (f:=fun k bt=>(spec_l01Byte.f bt.1 bt.2.1 bt.2.2).bind fun bt2=>spec_DrawPlaces.l0 k ([] : List Int) 0 bt.1 bt2.2.1 bt2.2.2) ?_
  have step : ∀ k,(spec_l01Byte.f b 0 h).bind (dP b k) = dP b k (x,i1,h1):=fun k=>(congrArg (fun o=>Option.bind o (dP b k)) e).trans (Option.bind_some _ _)
  exact Ev.cg (f:=fun k=>dP b k (x,i1,h1)) ev2 step

theorem ri_Put {xs : List S118} {i : Nat} (h : i < xs.length) : rd_T118 xs (i : Int) = xs[i]:=getD_at _ h

/-! Right devices -/
def putOk (n : Nat) (p : S118) : Bool:=decide (0 ≤ p.f0 ∧ p.f0 < (n : Int) ∧ p.f1.size ≤ 64)
def devOk (s : List ByteArray) (p : List S118) : Bool:=decide (1 ≤ s.length ∧ s.length ≤ 400 ∧ p.length ≤ 400) && ((s.all fun x=>decide (x.size ≤ 64)) && (p.all fun x=>putOk s.length x))
theorem devOk_t {s : List ByteArray} {p : List S118} (h : devOk s p = true) : (1 ≤ s.length ∧ s.length ≤ 400 ∧ p.length ≤ 400) ∧ (∀ x ∈ s,x.size ≤ 64) ∧ ∀ x ∈ p,0 ≤ x.f0 ∧ x.f0 < (s.length : Int) ∧ x.f1.size ≤ 64:=by
  unfold devOk putOk at h
  simp only [Bool.and_eq_true,decide_eq_true_eq,List.all_eq_true] at h
  exact h
theorem devOk_mk {s : List ByteArray} {p : List S118} (h : (1 ≤ s.length ∧ s.length ≤ 400 ∧ p.length ≤ 400) ∧ (∀ x ∈ s,x.size ≤ 64) ∧ ∀ x ∈ p,0 ≤ x.f0 ∧ x.f0 < (s.length : Int) ∧ x.f1.size ≤ 64) : devOk s p = true:=by
  unfold devOk putOk
  simp only [Bool.and_eq_true,decide_eq_true_eq,List.all_eq_true]
  exact h

def readF (a : Int) (acc : ByteArray) (p : List S118) : ByteArray:=p.foldl (fun acc x=>if x.f0 = a then x.f1 else acc) acc
theorem readF_snoc (a : Int) (acc : ByteArray) (p : List S118) (x : S118) : readF a acc (p ++ [x]) = if x.f0 = a then x.f1 else readF a acc p:=by unfold readF;rw [List.foldl_append];rfl
theorem readF_cons (a : Int) (acc : ByteArray) (p : List S118) (x : S118) : readF a acc (x :: p) = readF a (if x.f0 = a then x.f1 else acc) p:=rfl
def secAt (s : List ByteArray) (a : Int) : ByteArray:=rdOf ByteArray.empty s a
def pReadSector (s : List ByteArray) (p : List S118) (a : Int) : ByteArray × Bool:=if devOk s p = true ∧ 0 ≤ a ∧ a < s.length then (readF a (secAt s a) p,true) else (⟨#[]⟩,false)

/-! Sums -/
def U32 (s : Int) : Prop:=0 ≤ s ∧ s < 4294967296
theorem xor_u32 {a b : Int} (h : U32 a) (h' : U32 b) : U32 (Go.bits .xor .u32 a b):=by
  rw [Go.u32_xor a b h.1 h.2 h'.1 h'.2]
  have : a.toNat ^^^ b.toNat < 2 ^ 32:=Nat.xor_lt_two_pow (by have:=h.2;have:=h.1;omega) (by have:=h'.2;have:=h'.1;omega)
  exact ⟨by omega,by omega⟩
theorem and1_u32 {a : Int} (h : U32 a) : Go.bits .and .u32 a 1 = a % 2:=by
  rw [Go.u32_and a 1 h.1 h.2 (by decide) (by decide)]
  have : (1 : Int).toNat = 1:=rfl
  rw [this,Nat.and_one_is_mod]
  have:=h.1
  omega
def crcBit (s : Int) : Int:=if s % 2 = 1 then Go.bits .xor .u32 (s / 2) 3558460437 else s / 2
def crcN : Nat → Int → Int
  | 0,s=>s
  | n + 1,s=>crcN n (crcBit s)
def crcByte (s b : Int) : Int:=crcN 8 (Go.bits .xor .u32 s b)
def crcL (s : Int) (l : List Int) : Int:=l.foldl crcByte s
theorem crcBit_u32 {s : Int} (h : U32 s) : U32 (crcBit s):=by
  unfold crcBit
  have : U32 (s / 2):=⟨by have:=h.1;omega,by have:=h.2;omega⟩
  split
  · exact xor_u32 this ⟨by decide,by decide⟩
  · exact this
theorem crcN_u32 : ∀ (n : Nat) {s : Int},U32 s → U32 (crcN n s)
  | 0,_,h=>h
  | n + 1,_,h=>crcN_u32 n (crcBit_u32 h)
theorem crcByte_u32 {s b : Int} (h : U32 s) (hb : 0 ≤ b ∧ b < 256) : U32 (crcByte s b):=crcN_u32 8 (xor_u32 h ⟨hb.1,by omega⟩)
theorem crcL_cons (s b : Int) (l : List Int) : crcL s (b :: l) = crcL (crcByte s b) l:=by unfold crcL;rw [List.foldl_cons]
theorem u32_top : U32 4294967295:=⟨by decide,by decide⟩
def sumB (s : ByteArray) : Int:=crcL 4294967295 (bl s)
def four (n : Int) : List Int:=[(n / 16777216) % 256,(n / 65536) % 256,(n / 256) % 256,n % 256]
theorem four_byt (n : Int) : Byt (four n):=(((Byt.one ⟨by omega,by omega⟩).cons ⟨by omega,by omega⟩).cons ⟨by omega,by omega⟩).cons ⟨by omega,by omega⟩
def pSealed (s : ByteArray) : ByteArray × Bool:=if s.size > 8000 then (⟨#[]⟩,false) else (s ++ strOfNums (four (sumB s)),true)

def cutB (s : ByteArray) : ByteArray:=s.extract 0 (s.size - 4)
def pUnsealed (s : ByteArray) : ByteArray × Bool:=if 4 ≤ s.size ∧ s.size - 4 ≤ 8000 ∧ (bl s).drop (s.size - 4) = four (sumB (cutB s)) then (cutB s,true) else (⟨#[]⟩,false)
theorem cutB_bl (s : ByteArray) : bl (cutB s) = (bl s).take (s.size - 4):=by unfold cutB;rw [bl_ext,List.drop_zero]
theorem cutB_size (s : ByteArray) : (cutB s).size = s.size - 4:=by rw [bl_size,cutB_bl,List.length_take,bl_len];omega

/-! Roots -/
def two (n : Int) : List Int:=[(n / 256) % 256,n % 256]
theorem two_byt (n : Int) : Byt (two n):=(Byt.one ⟨by omega,by omega⟩).cons ⟨by omega,by omega⟩
def rootL (a b : Int) : List Int:=82 :: (four a ++ two (b + 1))
theorem rootL_byt (a b : Int) : Byt (rootL a b):=((four_byt a).app (two_byt _)).cons ⟨by decide,by decide⟩
def rootB (a b : Int) : ByteArray:=strOfNums (rootL a b)
theorem rootB_size (a b : Int) : (rootB a b).size = 7:=by unfold rootB;rw [str_len];rfl
theorem rootB_bl (a b : Int) : bl (rootB a b) = rootL a b:=bl_str (rootL_byt a b)
def pRootText (a b : Int) : ByteArray × Bool:=if (0 ≤ a ∧ a ≤ 1000000000) ∧ (-1 ≤ b ∧ b ≤ 399) then (rootB a b ++ strOfNums (four (sumB (rootB a b))),true) else (⟨#[]⟩,false)
theorem pSealed_root (a b : Int) : pSealed (rootB a b) = (rootB a b ++ strOfNums (four (sumB (rootB a b))),true):=by
  unfold pSealed
  rw [if_neg (by rw [rootB_size];omega)]

theorem impl_sm_l1 (s : ByteArray) (z i : Int) {r : Int} : ∀ (n : Nat) (x : Int),n ≤ 8 → U32 x → Ev (fun k=>impl_SumMore.l0 k (crcN n x) s z (wrap64 (i + 1))) r → Ev (fun k=>impl_SumMore.l1 k x s z i (8 - (n : Int))) r
  | 0,x,_,_,h=>h.to fun k=>by simp only [impl_SumMore.l1];rw [if_neg (by omega)];rfl
  | n + 1,x,hn,hx,h=>by
    have h1:=hx.1
    have h2:=hx.2
    refine (impl_sm_l1 s z i n (crcBit x) (by omega) (crcBit_u32 hx) h).to fun k=>?_
    simp only [impl_SumMore.l1]
    rw [if_pos (by omega),and1_u32 hx,wid (by omega) (by omega),show (8 - ((n + 1 : Nat) : Int) + 1) = 8 - (n : Int) by omega]
    unfold crcBit
    by_cases hb : x % 2 = 1
    · rw [if_pos hb,if_pos hb]
    · rw [if_neg hb,if_neg hb]
theorem impl_sm_l0 (s : ByteArray) (hs : s.size ≤ 140737488351232) : ∀ (d i : Nat) (x : Int),i + d = s.size → U32 x → Ev (fun k=>impl_SumMore.l0 k x s (s.size : Int) (i : Int)) (crcL x ((bl s).drop i))
  | 0,i,x,hi,_=>by
    refine (Ev.now _).to fun k=>?_
    simp only [impl_SumMore.l0]
    rw [if_neg (by omega),bl_end (by omega)]
    rfl
  | d + 1,i,x,hi,hx=>by
    have hb:=bt_range s (i : Int)
    rw [bl_cons (by omega),crcL_cons]
    have hx' : U32 (Go.bits .xor .u32 x (bt s i)):=xor_u32 hx ⟨hb.1,by omega⟩
    have:=impl_sm_l0 s hs d (i + 1) (crcByte x (bt s i)) (by omega) (crcByte_u32 hx ⟨hb.1,by omega⟩)
    refine (impl_sm_l1 s _ i 8 _ (Nat.le_refl _) hx' (by rw [wid (by omega) (by omega)];exact this)).to fun k=>?_
    simp only [impl_SumMore.l0]
    rw [if_pos (by omega),if_pos (by omega),if_pos (by omega),show bt s (i : Int) % 4294967296 = bt s i by omega]
    rfl
theorem impl_sm (x : Int) (s : ByteArray) (hs : s.size ≤ 140737488351232) (hx : U32 x) : Ev (fun k=>impl_SumMore.f k x s) (crcL x (bl s)):=impl_sm_l0 s hs s.size 0 x (by omega) hx

theorem iSumOf (s : ByteArray) (hs : s.size ≤ 140737488351232) : Ev (fun k=>impl_SumOf.f k s) (sumB s):=by
  unfold impl_SumOf.f
  exact (impl_sm _ s hs u32_top).bind (Ev.now _)

theorem iSealed (s : ByteArray) (hs : s.size ≤ 140737488351232) : Ev (fun k=>impl_Sealed.f k s) (pSealed s):=by
  unfold impl_Sealed.f pSealed
  by_cases h : s.size > 8000
  · rw [if_pos h]
    simp only [if_pos (show (s.size : Int) > 8000 by omega)]
    exact Ev.now _
  · rw [if_neg h]
    simp only [if_neg (show ¬ (s.size : Int) > 8000 by omega)]
    refine (iSumOf s hs).bind ?_
    simp only [Option.bind_some]
    exact Ev.same (if_pos (by rw [str_len];show s.size + 4 ≤ _;omega))

theorem bt_nat (s : ByteArray) (i : Nat) : bt s (i : Int) = (bl s).getD i 0:=by rw [bt_bl,Int.toNat_natCast]
def serB (s : ByteArray) : Int:=16777216 * bt s 1 + 65536 * bt s 2 + 256 * bt s 3 + bt s 4
def treB (s : ByteArray) : Int:=256 * bt s 5 + bt s 6 - 1
def pReadRoot (s : ByteArray) : Int × Int × Bool:=if s.size = 11 ∧ (pRootText (serB s) (treB s)).2 = true ∧ (pRootText (serB s) (treB s)).1 = s then (serB s,treB s,true) else (0,0,false)
/-- What is sealed is unsealed. -/
theorem unseal_seal (x : ByteArray) (h : x.size ≤ 8000) : pUnsealed (x ++ strOfNums (four (sumB x))) = (x,true):=by
  have hs : (x ++ strOfNums (four (sumB x))).size = x.size + 4:=by rw [ByteArray.size_append,str_len];rfl
  have hb : bl (x ++ strOfNums (four (sumB x))) = bl x ++ four (sumB x):=by rw [bl_app,bl_str (four_byt _)]
  have hc : cutB (x ++ strOfNums (four (sumB x))) = x:=by
    apply bl_inj
    rw [cutB_bl,hs,hb,Nat.add_sub_cancel,← bl_len x,List.take_left]
  unfold pUnsealed
  rw [hc,if_pos]
  refine ⟨by omega,by omega,?_⟩
  rw [hb,hs,Nat.add_sub_cancel,← bl_len x,List.drop_left]
theorem unsealed_some {s b : ByteArray} (h : pUnsealed s = (b,true)) : s = b ++ strOfNums (four (sumB b)) ∧ b.size ≤ 8000 ∧ s.size = b.size + 4:=by
  unfold pUnsealed at h
  split at h
  · rename_i hc
    simp only [Prod.mk.injEq,and_true] at h
    subst h
    have hsz:=cutB_size s
    refine ⟨?_,by omega,by omega⟩
    apply bl_inj
    rw [bl_app,bl_str (four_byt _),cutB_bl,← hc.2.2,List.take_append_drop]
  · simp at h
theorem unsealed_cases (s : ByteArray) : pUnsealed s = (⟨#[]⟩,false) ∨ ∃ b,pUnsealed s = (b,true):=by
  unfold pUnsealed
  split
  · exact .inr ⟨_,rfl⟩
  · exact .inl rfl
theorem bt_left (a b : ByteArray) (i : Nat) (h : i < a.size) : bt (a ++ b) (i : Int) = bt a (i : Int):=by
  rw [bt_nat,bt_nat,bl_app,List.getD_eq_getElem?_getD,List.getD_eq_getElem?_getD,List.getElem?_append_left (by rw [bl_len];exact h)]
theorem pRoot_inv {a b : Int} {s : ByteArray} (h : pRootText a b = (s,true)) : s = rootB a b ++ strOfNums (four (sumB (rootB a b))) ∧ pUnsealed s = (rootB a b,true):=by
  unfold pRootText at h
  split at h
  · simp only [Prod.mk.injEq,and_true] at h
    refine ⟨h.symm,?_⟩
    rw [← h]
    exact unseal_seal _ (by rw [rootB_size];omega)
  · simp at h
theorem pRR_t {s : ByteArray} (h1 : s.size = 11) (h2 : (pRootText (serB s) (treB s)).2 = true) (h3 : (pRootText (serB s) (treB s)).1 = s) : pReadRoot s = (serB s,treB s,true):=by
  unfold pReadRoot
  exact if_pos ⟨h1,h2,h3⟩
theorem pRR_f {s : ByteArray} (h : ¬ (s.size = 11 ∧ (pRootText (serB s) (treB s)).2 = true ∧ (pRootText (serB s) (treB s)).1 = s)) : pReadRoot s = (0,0,false):=by
  unfold pReadRoot
  exact if_neg h

def pLast (s : List ByteArray) (p : List S118) : Int × Int × Int × Bool :=
  let x:=pReadRoot (pReadSector s p 0).1
  let y:=pReadRoot (pReadSector s p 1).1
  if x.2.2 = true then (if y.2.2 = true ∧ y.1 > x.1 then (y.1,y.2.1,1,true) else (x.1,x.2.1,0,true)) else if y.2.2 = true then (y.1,y.2.1,1,true) else (0,0,0,false)

theorem iRS_go (s : List ByteArray) (p : List S118) (a : Int) (hp : p.length ≤ 1048576) (h0 : 0 ≤ a) (h1 : a < s.length) : ∀ (i : Nat),i ≤ p.length → Ev (fun k=>impl_readSector.l0 k a ((i : Int) - 1) s p) (readF a (secAt s a) (p.take i))
  | 0,hi=>by
    refine (Ev.now _).to fun k=>?_
    simp only [impl_readSector.l0]
    rw [if_neg (by omega),if_pos h0,if_pos h1]
    rfl
  | i + 1,hi=>by
    have hlt : i < p.length:=by omega
    have e : ((i + 1 : Nat) : Int) - 1 = (i : Int):=by omega
    have w : qn (wrap64 ((i : Int) - 1) = (i : Int) - 1):=⟨wid (by omega) (by omega)⟩
    rw [e,List.take_succ_eq_append_getElem hlt,readF_snoc]
    by_cases h : p[i].f0 = a
    · rw [if_pos h]
      refine (Ev.now _).to fun k=>?_
      simp only [impl_readSector.l0]
      rw [if_pos (by omega),if_pos (by omega),if_pos (by omega),ri_Put hlt,if_pos h]
    · rw [if_neg h]
      refine (iRS_go s p a hp h0 h1 i (by omega)).to fun k=>?_
      simp only [impl_readSector.l0]
      rw [if_pos (by omega),if_pos (by omega),if_pos (by omega),ri_Put hlt,if_neg h,w.out]
theorem ireadSector (s : List ByteArray) (p : List S118) (a : Int) (hp : p.length ≤ 1048576) (h0 : 0 ≤ a) (h1 : a < s.length) : Ev (fun k=>impl_readSector.f k s p a) (readF a (secAt s a) p):=by
  unfold impl_readSector.f
  rw [wid (by omega) (by omega)]
  have:=iRS_go s p a hp h0 h1 p.length (by omega)
  rwa [List.take_length] at this

theorem i_in (a b c : Int) : impl_in.f a b c = some (decide (b ≤ a ∧ a ≤ c)):=by
  unfold impl_in.f
  by_cases h : a ≥ b
  · rw [if_pos h];simp [show b ≤ a from h]
  · rw [if_neg h];simp [show ¬ b ≤ a from h]
theorem i_in_t {a b c : Int} (h : b ≤ a ∧ a ≤ c) : impl_in.f a b c = some true:=by rw [i_in,decide_eq_true h]
theorem i_in_f {a b c : Int} (h : ¬ (b ≤ a ∧ a ≤ c)) : impl_in.f a b c = some false:=by rw [i_in,decide_eq_false h]

theorem iDO_l1 (s : List ByteArray) (p : List S118) (hs : s.length ≤ 400) (hp : p.length ≤ 1048576) : ∀ (d i : Nat),i + d = p.length → Ev (fun k=>impl_DeviceOk.l1 k p (p.length : Int) (i : Int) s p) ((p.drop i).all fun x=>putOk s.length x)
  | 0,i,hi=>by
    rw [List.drop_of_length_le (by omega)]
    exact (Ev.now _).to fun k=>by simp only [impl_DeviceOk.l1];rw [if_neg (by omega)];rfl
  | d + 1,i,hi=>by
    have hlt : i < p.length:=by omega
    have ih:=iDO_l1 s p hs hp d (i + 1) (by omega)
    rw [List.drop_eq_getElem_cons hlt,List.all_cons]
    have w : qn (wrap64 ((s.length : Int) - 1) = (s.length : Int) - 1):=⟨wid (by omega) (by omega)⟩
    cases hb : putOk s.length p[i] with
    | false =>
      rw [Bool.false_and]
      refine (Ev.now _).to fun k=>?_
      simp only [impl_DeviceOk.l1]
      rw [if_pos (by omega),if_pos (by omega),if_pos (by omega),ri_Put hlt,w.out,i_in]
      simp only [Option.bind_some]
      unfold putOk at hb
      rw [decide_eq_false_iff_not] at hb
      by_cases h : 0 ≤ p[i].f0 ∧ p[i].f0 ≤ (s.length : Int) - 1
      · rw [if_pos (decide_eq_true h),if_pos (by omega)]
      · rw [if_neg (by simpa using h)]
    | true =>
      rw [Bool.true_and]
      refine ih.to fun k=>?_
      simp only [impl_DeviceOk.l1]
      rw [if_pos (by omega),if_pos (by omega),if_pos (by omega),ri_Put hlt,w.out,i_in]
      simp only [Option.bind_some]
      unfold putOk at hb
      rw [decide_eq_true_eq] at hb
      rw [if_pos (decide_eq_true ⟨hb.1,by omega⟩),if_neg (by omega),wid (by omega) (by omega)]
      rfl
theorem iDO_l0 (s : List ByteArray) (p : List S118) (hs : s.length ≤ 400) (hp : p.length ≤ 1048576) : ∀ (d i : Nat),i + d = s.length → Ev (fun k=>impl_DeviceOk.l0 k s (s.length : Int) (i : Int) s p) (((s.drop i).all fun x=>decide (x.size ≤ 64)) && (p.all fun x=>putOk s.length x))
  | 0,i,hi=>by
    rw [List.drop_of_length_le (by omega)]
    refine Ev.to (iDO_l1 s p hs hp p.length 0 (by omega)) fun k=>?_
    simp only [impl_DeviceOk.l0];rw [if_neg (by omega)];rfl
  | d + 1,i,hi=>by
    have hlt : i < s.length:=by omega
    have ih:=iDO_l0 s p hs hp d (i + 1) (by omega)
    rw [List.drop_eq_getElem_cons hlt,List.all_cons]
    by_cases hb : s[i].size ≤ 64
    · rw [decide_eq_true hb,Bool.true_and]
      refine ih.to fun k=>?_
      simp only [impl_DeviceOk.l0]
      rw [if_pos (by omega),if_pos (by omega),if_pos (by omega),rdOf_at _ hlt,if_neg (by omega),wid (by omega) (by omega)]
      rfl
    · rw [decide_eq_false hb,Bool.false_and,Bool.false_and]
      refine (Ev.now _).to fun k=>?_
      simp only [impl_DeviceOk.l0]
      rw [if_pos (by omega),if_pos (by omega),if_pos (by omega),rdOf_at _ hlt,if_pos (by omega)]
theorem iDeviceOk (s : List ByteArray) (p : List S118) (hs : s.length ≤ 1048576) (hp : p.length ≤ 1048576) : Ev (fun k=>impl_DeviceOk.f k s p) (devOk s p):=by
  unfold impl_DeviceOk.f devOk
  by_cases h : 1 ≤ (s.length : Int) ∧ (s.length : Int) ≤ 400
  · rw [i_in_t h]
    simp only [Option.bind_some,if_true]
    by_cases h2 : p.length ≤ 400
    · rw [decide_eq_false (show ¬ (p.length : Int) > 400 by omega),decide_eq_true (show 1 ≤ s.length ∧ s.length ≤ 400 ∧ p.length ≤ 400 by omega),Bool.true_and]
      exact (iDO_l0 s p (by omega) hp s.length 0 (by omega)).to fun k=>by simp only [impl_DeviceOk.j0];rw [if_neg (by decide)];rfl
    · rw [decide_eq_true (show (p.length : Int) > 400 by omega),decide_eq_false (show ¬ (1 ≤ s.length ∧ s.length ≤ 400 ∧ p.length ≤ 400) by omega),Bool.false_and]
      exact (Ev.now _).to fun k=>by simp only [impl_DeviceOk.j0,if_true]
  · rw [i_in_f h,decide_eq_false (show ¬ (1 ≤ s.length ∧ s.length ≤ 400 ∧ p.length ≤ 400) by omega),Bool.false_and]
    simp only [Option.bind_some,Bool.false_eq_true,if_false]
    exact (Ev.now _).to fun k=>by simp only [impl_DeviceOk.j0,if_true]

theorem iRootText (a b : Int) : Ev (fun k=>impl_RootText.f k a b) (pRootText a b):=by
  unfold impl_RootText.f pRootText
  by_cases h1 : 0 ≤ a ∧ a ≤ 1000000000
  · rw [i_in_t h1]
    simp only [Option.bind_some,if_true]
    by_cases h2 : -1 ≤ b ∧ b ≤ 399
    · rw [i_in_t h2,if_pos ⟨h1,h2⟩]
      simp only [Option.bind_some,if_true]
      have w : wrap64 (b + 1) = b + 1:=wid (by omega) (by omega)
      rw [w];clear w
      have hl : [a / 16777216 % 256,a / 65536 % 256,a / 256 % 256,a % 256,(b + 1) / 256 % 256,(b + 1) % 256] = four a ++ two (b + 1):=rfl
      have hc : (⟨#[82]⟩ : ByteArray) ++ strOfNums (four a ++ two (b + 1)) = rootB a b:=by
        apply bl_inj
        rw [rootB_bl,bl_app,bl_str ((four_byt _).app (two_byt _))]
        rfl
      rw [hl,hc]
      refine Ev.ifp (by rw [str_len];show 1 + 6 ≤ _;omega) ((iSealed _ (by rw [rootB_size];omega)).bind ?_)
      rw [pSealed_root]
      exact Ev.now _
    · rw [i_in_f h2,if_neg (fun h=>h2 h.2)]
      simp only [Option.bind_some,Bool.false_eq_true,if_false]
      exact Ev.now _
  · rw [i_in_f h1,if_neg (fun h=>h1 h.1)]
    simp only [Option.bind_some,Bool.false_eq_true,if_false]
    exact Ev.now _

theorem sealed_bl (s : ByteArray) : bl (s ++ strOfNums (four (sumB s))) = bl s ++ four (sumB s):=by rw [bl_app,bl_str (four_byt _)]
theorem iUnsealed (s : ByteArray) (hs : s.size ≤ 140737488351232) : Ev (fun k=>impl_Unsealed.f k s) (pUnsealed s):=by
  unfold impl_Unsealed.f pUnsealed
  have w : wrap64 ((s.size : Int) - 4) = (s.size : Int) - 4:=wid (by omega) (by omega)
  rw [w];clear w
  by_cases h4 : 4 ≤ s.size
  · have e : ((s.size : Int) - 4).toNat = s.size - 4:=by omega
    simp only [if_neg (show ¬ (s.size : Int) < 4 by omega),if_pos (show 0 ≤ (s.size : Int) - 4 by omega),if_pos (show (s.size : Int) - 4 ≤ s.size by omega),e]
    refine (iSealed (cutB s) (by rw [cutB_size];omega)).bind ?_
    have hcs:=cutB_size s
    by_cases h8 : s.size - 4 ≤ 8000
    · have e1 : pSealed (cutB s) = (cutB s ++ strOfNums (four (sumB (cutB s))),true):=by unfold pSealed;rw [if_neg (by omega)]
      rw [e1]
      have hiff : (cutB s ++ strOfNums (four (sumB (cutB s)))).toList = s.toList ↔ (bl s).drop (s.size - 4) = four (sumB (cutB s)):=by
        rw [tl_bl,sealed_bl,cutB_bl]
        conv=>lhs;rhs;rw [← List.take_append_drop (s.size - 4) (bl s)]
        rw [List.append_cancel_left_eq]
        exact eq_comm
      by_cases hh : (bl s).drop (s.size - 4) = four (sumB (cutB s))
      · rw [if_pos (⟨h4,h8,hh⟩ : 4 ≤ s.size ∧ s.size - 4 ≤ 8000 ∧ (bl s).drop (s.size - 4) = four (sumB (cutB s)))]
        simp only [if_true]
        exact Ev.same (if_pos (hiff.2 hh))
      · rw [if_neg (fun h : 4 ≤ s.size ∧ s.size - 4 ≤ 8000 ∧ (bl s).drop (s.size - 4) = four (sumB (cutB s))=>hh h.2.2)]
        simp only [if_true]
        exact Ev.same (if_neg (fun h=>hh (hiff.1 h)))
    · have e1 : pSealed (cutB s) = (⟨#[]⟩,false):=by unfold pSealed;rw [if_pos (by omega)]
      rw [e1,if_neg (fun h : 4 ≤ s.size ∧ s.size - 4 ≤ 8000 ∧ (bl s).drop (s.size - 4) = four (sumB (cutB s))=>h8 h.2.1)]
      simp only [Bool.false_eq_true,if_false]
      exact Ev.now _
  · rw [if_neg (fun h : 4 ≤ s.size ∧ s.size - 4 ≤ 8000 ∧ (bl s).drop (s.size - 4) = four (sumB (cutB s))=>h4 h.1)]
    exact Ev.ifp (by omega) (Ev.now _)

theorem wraps_i64 (n : Int) (h0 : 0 ≤ n) (h1 : n < 2 ^ 63) : IntKind.i64.wrap n = n:=by
  rw [Go.IntKind.wrap_i64]
  omega
theorem or_ser (a b c d : Int) (ha : 0 ≤ a ∧ a ≤ 255) (hb : 0 ≤ b ∧ b ≤ 255) (hc : 0 ≤ c ∧ c ≤ 255) (hd : 0 ≤ d ∧ d ≤ 255) :
    Go.bits .or .i64 (Go.bits .or .i64 (Go.bits .or .i64 (a * 16777216) (b * 65536)) (c * 256)) d = 16777216 * a + 65536 * b + 256 * c + d:=by
  have h1:=Go.bits_join .i64 63 (by decide) wraps_i64 24 (a * 16777216) (b * 65536) (by omega) (by omega) (by omega) (by omega) (by omega) (by omega)
  rw [h1]
  have h2:=Go.bits_join .i64 63 (by decide) wraps_i64 16 (a * 16777216 + b * 65536) (c * 256) (by omega) (by omega) (by omega) (by omega) (by omega) (by omega)
  rw [h2]
  have h3:=Go.bits_join .i64 63 (by decide) wraps_i64 8 (a * 16777216 + b * 65536 + c * 256) d (by omega) (by omega) (by omega) (by omega) (by omega) (by omega)
  rw [h3]
  omega
theorem iRR_bad (s b : ByteArray) : Ev (fun k=>impl_ReadRoot.j0 k s b true) (0,0,false):=(Ev.now _).to fun k=>by simp only [impl_ReadRoot.j0,if_true]
theorem iReadRoot (s : ByteArray) (hs : s.size ≤ 140737488351232) : Ev (fun k=>impl_ReadRoot.f k s) (pReadRoot s):=by
  unfold impl_ReadRoot.f
  refine (iUnsealed s hs).bind ?_
  have bad : pUnsealed s = (⟨#[]⟩,false) → pReadRoot s = (0,0,false):=by
    intro h
    unfold pReadRoot
    split
    · rename_i hc
      obtain ⟨_,h2,h3⟩:=hc
      have:=pRoot_inv (a:=serB s) (b:=treB s) (s:=s) (by rw [← h2];rw [Prod.ext_iff];exact ⟨h3,rfl⟩)
      rw [h] at this
      simp at this
    · rfl
  rcases unsealed_cases s with e|⟨b,e⟩
  · rw [bad e,e]
    simp only [Bool.false_eq_true,if_false]
    exact iRR_bad _ _
  · rw [e]
    simp only [if_true]
    obtain ⟨h1,h2,h3⟩:=unsealed_some e
    by_cases h7 : b.size = 7
    · refine Ev.ifp (by omega) (Ev.ifp (by omega) ?_)
      have hbt : ∀ i : Nat,i < 7 → bt b (i : Int) = bt s (i : Int):=fun i hi=>by rw [h1,bt_left _ _ _ (by omega)]
      have c0 : bt b 0 = bt s 0:=hbt 0 (by omega)
      have c1 : bt b 1 = bt s 1:=hbt 1 (by omega)
      have c2 : bt b 2 = bt s 2:=hbt 2 (by omega)
      have c3 : bt b 3 = bt s 3:=hbt 3 (by omega)
      have c4 : bt b 4 = bt s 4:=hbt 4 (by omega)
      have c5 : bt b 5 = bt s 5:=hbt 5 (by omega)
      have c6 : bt b 6 = bt s 6:=hbt 6 (by omega)
      by_cases h82 : bt b 0 = 82
      · rw [show (bt b 0 != 82) = false by rw [h82];decide]
        have b1:=bt_range s 1
        have b2:=bt_range s 2
        have b3:=bt_range s 3
        have b4:=bt_range s 4
        have b5:=bt_range s 5
        have b6:=bt_range s 6
        have w1 : wrap64 (wrap64 (bt b 1) * 16777216) = bt s 1 * 16777216:=by rw [c1,wid (n:=bt s 1) (by omega) (by omega),wid (by omega) (by omega)]
        have w2 : wrap64 (wrap64 (bt b 2) * 65536) = bt s 2 * 65536:=by rw [c2,wid (n:=bt s 2) (by omega) (by omega),wid (by omega) (by omega)]
        have w3 : wrap64 (wrap64 (bt b 3) * 256) = bt s 3 * 256:=by rw [c3,wid (n:=bt s 3) (by omega) (by omega),wid (by omega) (by omega)]
        have w4 : wrap64 (bt b 4) = bt s 4:=by rw [c4,wid (by omega) (by omega)]
        have w5 : wrap64 (wrap64 (wrap64 (wrap64 (bt b 5) * 256) + wrap64 (bt b 6)) - 1) = treB s:=by
          unfold treB
          rw [c5,c6,wid (n:=bt s 5) (by omega) (by omega),wid (n:=bt s 6) (by omega) (by omega),wid (n:=bt s 5 * 256) (by omega) (by omega),wid (n:=bt s 5 * 256 + bt s 6) (by omega) (by omega),wid (by omega) (by omega)]
          omega
        have w6 : Go.bits .or .i64 (Go.bits .or .i64 (Go.bits .or .i64 (bt s 1 * 16777216) (bt s 2 * 65536)) (bt s 3 * 256)) (bt s 4) = serB s:=by rw [or_ser _ _ _ _ b1 b2 b3 b4];rfl
        refine Ev.to (f:=fun k=>(impl_RootText.f k (serB s) (treB s)).bind fun bt140=>if bt140.2 = true then (if bt140.1.toList = s.toList then some (serB s,treB s,true) else some (0,0,false)) else some (0,0,false)) ?_ fun k=>by
          simp only [impl_ReadRoot.j0,w1,w2,w3,w4,w5,w6]
          clear w1 w2 w3 w4 w5 w6
          rw [if_neg (by decide),if_pos (by omega),if_pos (by omega),if_pos (by omega),if_pos (by omega),if_pos (by omega),if_pos (by omega)]
        clear w1 w2 w3 w4 w5 w6
        refine (iRootText (serB s) (treB s)).bind ?_
        by_cases g2 : (pRootText (serB s) (treB s)).2 = true
        · by_cases g3 : (pRootText (serB s) (treB s)).1 = s
          · rw [pRR_t (by omega) g2 g3]
            exact Ev.ifp g2 (Ev.ifp (tl_inj.2 g3) (Ev.now _))
          · rw [pRR_f (fun h=>g3 h.2.2)]
            exact Ev.ifp g2 (Ev.ifn (fun h=>g3 (tl_inj.1 h)) (Ev.now _))
        · rw [pRR_f (fun h=>g2 h.2.1)]
          exact Ev.ifn g2 (Ev.now _)
      · rw [show (bt b 0 != 82) = true by simpa using h82]
        have : pReadRoot s = (0,0,false):=by
          apply pRR_f
          rintro ⟨_,g2,g3⟩
          have hi:=pRoot_inv (a:=serB s) (b:=treB s) (s:=s) (by rw [← g2];rw [Prod.ext_iff];exact ⟨g3,rfl⟩)
          rw [e] at hi
          have hb : b = rootB (serB s) (treB s):=by simpa using hi.2
          apply h82
          rw [hb]
          have:=bt_nat (rootB (serB s) (treB s)) 0
          rw [rootB_bl] at this
          exact this
        rw [this]
        exact iRR_bad _ _
    · have : pReadRoot s = (0,0,false):=by
        exact pRR_f (fun h=>h7 (by omega))
      rw [this]
      exact Ev.ifn (by omega) (iRR_bad _ _)

def pLast2 (x y : Int × Int × Bool) : Int × Int × Int × Bool:=if x.2.2 = true then (if y.2.2 = true ∧ y.1 > x.1 then (y.1,y.2.1,1,true) else (x.1,x.2.1,0,true)) else if y.2.2 = true then (y.1,y.2.1,1,true) else (0,0,0,false)
theorem iLR_j0 (a b : ByteArray) (ha : a.size ≤ 140737488351232) (hb : b.size ≤ 140737488351232) : Ev (fun k=>impl_LastRoot.j0 k a b) (pLast2 (pReadRoot a) (pReadRoot b)):=by
  refine Ev.to (f:=fun k=>(impl_ReadRoot.f k a).bind fun bt179=>(impl_ReadRoot.f k b).bind fun bt183=>if bt179.2.2 = true then (if bt183.2.2 = true then impl_LastRoot.j1 k bt183.2.2 (decide (bt179.1 ≥ bt183.1)) bt179.1 bt179.2.1 bt183.1 bt183.2.1 else impl_LastRoot.j1 k bt183.2.2 true bt179.1 bt179.2.1 bt183.1 bt183.2.1) else impl_LastRoot.j1 k bt183.2.2 false bt179.1 bt179.2.1 bt183.1 bt183.2.1) ?_ fun k=>by simp only [impl_LastRoot.j0]
  refine (iReadRoot a ha).bind ((iReadRoot b hb).bind ?_)
  generalize pReadRoot a = x
  generalize pReadRoot b = y
  obtain ⟨x1,x2,x3⟩:=x
  obtain ⟨y1,y2,y3⟩:=y
  unfold pLast2
  cases x3 <;> cases y3 <;> simp only [Bool.false_eq_true,if_false,if_true,false_and,true_and]
  · exact (Ev.now _).to fun k=>by simp only [impl_LastRoot.j1,Bool.false_eq_true,if_false]
  · exact (Ev.now _).to fun k=>by simp only [impl_LastRoot.j1,Bool.false_eq_true,if_false,if_true]
  · exact (Ev.now _).to fun k=>by simp only [impl_LastRoot.j1,if_true]
  · by_cases h : y1 > x1
    · rw [if_pos h]
      exact (Ev.now _).to fun k=>by simp only [impl_LastRoot.j1,if_true];rw [if_neg (by rw [decide_eq_true_eq];omega)]
    · rw [if_neg h]
      exact (Ev.now _).to fun k=>by simp only [impl_LastRoot.j1,if_true];rw [if_pos (by rw [decide_eq_true_eq];omega)]
theorem readF_size (a : Int) (n : Nat) : ∀ (p : List S118) (acc : ByteArray),acc.size ≤ n → (∀ x ∈ p,x.f1.size ≤ n) → (readF a acc p).size ≤ n
  | [],acc,h,_=>h
  | x :: p,acc,h,hp=>by
    rw [readF_cons]
    refine readF_size a n p _ ?_ (fun y hy=>hp y (List.mem_cons_of_mem _ hy))
    split
    · exact hp x (List.mem_cons_self ..)
    · exact h
theorem iLastRoot (s : List ByteArray) (p : List S118) (hs : s.length ≤ 1048576) (hp : p.length ≤ 1048576) : Ev (fun k=>impl_LastRoot.f k s p) (pLast s p):=by
  have e0 : pLast s p = pLast2 (pReadRoot (pReadSector s p 0).1) (pReadRoot (pReadSector s p 1).1):=rfl
  rw [e0]
  unfold impl_LastRoot.f
  refine (iDeviceOk s p hs hp).bind ?_
  by_cases h : devOk s p = true
  · obtain ⟨h1,h2,h3⟩:=devOk_t h
    have hsz : ∀ a : Int,0 ≤ a → a < s.length → (readF a (secAt s a) p).size ≤ 140737488351232:=by
      intro a g0 g1
      refine readF_size a _ p _ ?_ (fun x hx=>by have:=(h3 x hx).2.2;omega)
      unfold secAt
      obtain ⟨n,rfl⟩:=Int.eq_ofNat_of_zero_le g0
      have hn : n < s.length:=by omega
      rw [rdOf_at _ hn]
      have:=h2 _ (List.getElem_mem hn)
      omega
    have r0 : (pReadSector s p 0).1 = readF 0 (secAt s 0) p:=by unfold pReadSector;rw [if_pos ⟨h,by omega,by omega⟩]
    rw [r0]
    refine Ev.ifp h ((ireadSector s p 0 hp (by omega) (by omega)).bind ?_)
    by_cases hl : (s.length : Int) > 1
    · have r1 : (pReadSector s p 1).1 = readF 1 (secAt s 1) p:=by unfold pReadSector;rw [if_pos ⟨h,by omega,by omega⟩]
      rw [r1]
      exact Ev.ifp hl ((ireadSector s p 1 hp (by omega) (by omega)).bind (iLR_j0 _ _ (hsz 0 (by omega) (by omega)) (hsz 1 (by omega) (by omega))))
    · have r1 : (pReadSector s p 1).1 = (⟨#[]⟩ : ByteArray):=by unfold pReadSector;rw [if_neg (fun g=>by omega)]
      rw [r1]
      exact Ev.ifn hl (iLR_j0 _ _ (hsz 0 (by omega) (by omega)) (by decide))
  · have r0 : (pReadSector s p 0).1 = (⟨#[]⟩ : ByteArray):=by unfold pReadSector;rw [if_neg (fun g=>h g.1)]
    have r1 : (pReadSector s p 1).1 = (⟨#[]⟩ : ByteArray):=by unfold pReadSector;rw [if_neg (fun g=>h g.1)]
    rw [r0,r1]
    exact Ev.ifn h (iLR_j0 _ _ (by decide) (by decide))

theorem spec_sm_l1 (s : ByteArray) (i : Int) {r : Int} : ∀ (n : Nat) (x : Int),n ≤ 8 → U32 x → Ev (fun k=>spec_SumMore.l0 k (crcN n x) s (wrap64 (i + 1))) r → Ev (fun k=>spec_SumMore.l1 k x s i (8 - (n : Int))) r
  | 0,x,_,_,h=>h.to fun k=>by simp only [spec_SumMore.l1];rw [if_neg (by omega)];rfl
  | n + 1,x,hn,hx,h=>by
    have h1:=hx.1
    have h2:=hx.2
    refine (spec_sm_l1 s i n (crcBit x) (by omega) (crcBit_u32 hx) h).to fun k=>?_
    simp only [spec_SumMore.l1]
    rw [if_pos (by omega),tmod_pos h1,tdiv_pos h1,wid (by omega) (by omega),show (x / 2) % 4294967296 = x / 2 by omega,show (8 - ((n + 1 : Nat) : Int) + 1) = 8 - (n : Int) by omega]
    unfold crcBit
    by_cases hb : x % 2 = 1
    · rw [if_pos hb,if_pos hb]
    · rw [if_neg hb,if_neg hb]
theorem spec_sm_l0 (s : ByteArray) (hs : s.size ≤ 140737488351232) : ∀ (d i : Nat) (x : Int),i + d = s.size → U32 x → Ev (fun k=>spec_SumMore.l0 k x s (i : Int)) (crcL x ((bl s).drop i))
  | 0,i,x,hi,_=>by
    refine (Ev.now _).to fun k=>?_
    simp only [spec_SumMore.l0]
    rw [if_neg (by omega),bl_end (by omega)]
    rfl
  | d + 1,i,x,hi,hx=>by
    have hb:=bt_range s (i : Int)
    rw [bl_cons (by omega),crcL_cons]
    have hx' : U32 (Go.bits .xor .u32 x (bt s i)):=xor_u32 hx ⟨hb.1,by omega⟩
    have:=spec_sm_l0 s hs d (i + 1) (crcByte x (bt s i)) (by omega) (crcByte_u32 hx ⟨hb.1,by omega⟩)
    refine (spec_sm_l1 s i 8 _ (Nat.le_refl _) hx' (by rw [wid (by omega) (by omega)];exact this)).to fun k=>?_
    simp only [spec_SumMore.l0]
    rw [if_pos (by omega),if_pos (by omega),show bt s (i : Int) % 4294967296 = bt s i by omega]
    rfl
theorem spec_sm (x : Int) (s : ByteArray) (hs : s.size ≤ 140737488351232) (hx : U32 x) : Ev (fun k=>spec_SumMore.f k x s) (crcL x (bl s)):=spec_sm_l0 s hs s.size 0 x (by omega) hx

theorem sSumOf (s : ByteArray) (hs : s.size ≤ 140737488351232) : Ev (fun k=>spec_SumOf.f k s) (sumB s):=by
  unfold spec_SumOf.f
  exact (spec_sm _ s hs u32_top).bind (Ev.now _)

theorem sSealed (s : ByteArray) (hs : s.size ≤ 140737488351232) : Ev (fun k=>spec_Sealed.f k s) (pSealed s):=by
  unfold spec_Sealed.f pSealed
  by_cases h : s.size > 8000
  · rw [if_pos h]
    simp only [if_pos (show (s.size : Int) > 8000 by omega)]
    exact Ev.now _
  · rw [if_neg h]
    simp only [if_neg (show ¬ (s.size : Int) > 8000 by omega)]
    refine (sSumOf s hs).bind ?_
    simp only [spec_l02Four.f,Option.bind_some]
    exact Ev.same (if_pos (by rw [str_len];show s.size + 4 ≤ _;omega))

theorem s_in (a b c : Int) : spec_l01In.f a b c = some (decide (b ≤ a ∧ a ≤ c)):=by
  unfold spec_l01In.f
  by_cases h : a ≥ b
  · rw [if_pos h];simp [show b ≤ a from h]
  · rw [if_neg h];simp [show ¬ b ≤ a from h]
theorem s_in_t {a b c : Int} (h : b ≤ a ∧ a ≤ c) : spec_l01In.f a b c = some true:=by rw [s_in,decide_eq_true h]
theorem s_in_f {a b c : Int} (h : ¬ (b ≤ a ∧ a ≤ c)) : spec_l01In.f a b c = some false:=by rw [s_in,decide_eq_false h]

theorem sBig_step (sz n : Int) (acc : ByteArray) (i : Nat) {r : ByteArray} (hn : 0 ≤ n) (hn' : n ≤ 1000000000000) (hi : (i : Int) < sz) (ha : acc.size ≤ 1000) (hs : i ≤ 1000) (h : Ev (fun k=>spec_l06Big.l0 k (n / 256) sz (strOfNums [n % 256] ++ acc) ((i + 1 : Nat) : Int)) r) : Ev (fun k=>spec_l06Big.l0 k n sz acc (i : Int)) r:=by
  refine h.to fun k=>?_
  have w1 : Int.tmod n 256 % 256 = n % 256:=by rw [tmod_pos hn];omega
  have w2 : wrap64 (Int.tdiv n 256) = n / 256:=by rw [tdiv_pos hn,wid (by omega) (by omega)]
  have w3 : wrap64 ((i : Int) + 1) = ((i + 1 : Nat) : Int):=by rw [wid (by omega) (by omega)];rfl
  simp only [spec_l06Big.l0,w1,w2,w3,Option.bind_some]
  clear w1 w2 w3
  rw [if_pos hi,if_pos (by rw [str_len,List.length_singleton];omega)]
theorem sBig_end (sz n : Int) (acc : ByteArray) (i : Nat) (hi : ¬ (i : Int) < sz) : Ev (fun k=>spec_l06Big.l0 k n sz acc (i : Int)) acc:=(Ev.now _).to fun k=>by simp only [spec_l06Big.l0];rw [if_neg hi]
theorem str1_size (x : Int) (a : ByteArray) : (strOfNums [x] ++ a).size = 1 + a.size:=by rw [bl_size,bl_app,List.length_append,bl_len,bl_len,str_len];rfl
theorem sBig4 (n : Int) (h0 : 0 ≤ n) (h1 : n ≤ 1000000000) : Ev (fun k=>spec_l06Big.f k n 4) (strOfNums (four n)):=by
  unfold spec_l06Big.f
  have e0 : (⟨#[]⟩ : ByteArray).size = 0:=rfl
  refine Ev.ofEq (sBig_step 4 n _ 0 h0 (by omega) (by decide) (by rw [e0];omega) (by omega) (sBig_step 4 (n / 256) _ 1 (by omega) (by omega) (by decide) (by rw [str1_size,e0];omega) (by omega) (sBig_step 4 (n / 256 / 256) _ 2 (by omega) (by omega) (by decide) (by rw [str1_size,str1_size,e0];omega) (by omega) (sBig_step 4 (n / 256 / 256 / 256) _ 3 (by omega) (by omega) (by decide) (by rw [str1_size,str1_size,str1_size,e0];omega) (by omega) (sBig_end 4 _ _ 4 (by decide)))))) ?_
  apply bl_inj
  rw [bl_str (four_byt n)]
  simp only [bl_app,bl_emp,List.append_nil]
  rw [bl_str (Byt.one ⟨by omega,by omega⟩),bl_str (Byt.one ⟨by omega,by omega⟩),bl_str (Byt.one ⟨by omega,by omega⟩),bl_str (Byt.one ⟨by omega,by omega⟩)]
  unfold four
  simp only [List.singleton_append,List.cons.injEq,and_true]
  refine ⟨by omega,by omega⟩
theorem sBig2 (n : Int) (h0 : 0 ≤ n) (h1 : n ≤ 1000000000) : Ev (fun k=>spec_l06Big.f k n 2) (strOfNums (two n)):=by
  unfold spec_l06Big.f
  have e0 : (⟨#[]⟩ : ByteArray).size = 0:=rfl
  refine Ev.ofEq (sBig_step 2 n _ 0 h0 (by omega) (by decide) (by rw [e0];omega) (by omega) (sBig_step 2 (n / 256) _ 1 (by omega) (by omega) (by decide) (by rw [str1_size,e0];omega) (by omega) (sBig_end 2 _ _ 2 (by decide)))) ?_
  apply bl_inj
  rw [bl_str (two_byt n)]
  simp only [bl_app,bl_emp,List.append_nil]
  rw [bl_str (Byt.one ⟨by omega,by omega⟩),bl_str (Byt.one ⟨by omega,by omega⟩)]
  rfl
theorem sRootText (a b : Int) : Ev (fun k=>spec_RootText.f k a b) (pRootText a b):=by
  unfold spec_RootText.f pRootText
  by_cases h1 : 0 ≤ a ∧ a ≤ 1000000000
  · rw [s_in_t h1]
    simp only [Option.bind_some,if_true]
    by_cases h2 : -1 ≤ b ∧ b ≤ 399
    · rw [s_in_t h2,if_pos ⟨h1,h2⟩]
      simp only [Option.bind_some,Bool.not_true]
      have w : wrap64 (b + 1) = b + 1:=wid (by omega) (by omega)
      have hc : ((⟨#[82]⟩ : ByteArray) ++ strOfNums (four a)) ++ strOfNums (two (b + 1)) = rootB a b:=by
        apply bl_inj
        rw [rootB_bl,bl_app,bl_app,bl_str (four_byt _),bl_str (two_byt _)]
        rfl
      refine Ev.to (f:=fun k=>(spec_l06Big.f k a 4).bind fun t113=>if 1 + t113.size ≤ 9223372036854775807 then (spec_l06Big.f k (b + 1) 2).bind fun t114=>if ((⟨#[82]⟩ : ByteArray) ++ t113).size + t114.size ≤ 9223372036854775807 then (spec_Sealed.f k (((⟨#[82]⟩ : ByteArray) ++ t113) ++ t114)).bind fun bt115=>some (bt115.1,bt115.2) else none else none) (r:=(rootB a b ++ strOfNums (four (sumB (rootB a b))),true)) ?_ fun k=>by simp only [spec_RootText.j0,w];rw [if_neg (by decide)]
      clear w
      refine (sBig4 a h1.1 h1.2).bind (Ev.ifp (by rw [str_len];show 1 + 4 ≤ _;omega) ((sBig2 (b + 1) (by omega) (by omega)).bind (Ev.ifp (by rw [ByteArray.size_append,str_len,str_len];show 1 + 4 + 2 ≤ _;omega) ?_)))
      rw [hc]
      refine (sSealed _ (by rw [rootB_size];omega)).bind ?_
      rw [pSealed_root]
      exact Ev.now _
    · rw [s_in_f h2,if_neg (fun h=>h2 h.2)]
      simp only [Option.bind_some,Bool.not_false]
      exact (Ev.now _).to fun k=>by simp only [spec_RootText.j0,if_true]
  · rw [s_in_f h1,if_neg (fun h=>h1 h.1)]
    simp only [Option.bind_some,Bool.false_eq_true,if_false]
    exact (Ev.now _).to fun k=>by simp only [spec_RootText.j0,if_true]

def rootS (a b : Int) : ByteArray:=rootB a b ++ strOfNums (four (sumB (rootB a b)))
theorem rootS_size (a b : Int) : (rootS a b).size = 11:=by unfold rootS;rw [ByteArray.size_append,rootB_size,str_len];rfl
theorem rootS_bt (a b : Int) (i : Nat) (h : i < 7) : bt (rootS a b) (i : Int) = (rootL a b).getD i 0:=by
  unfold rootS
  rw [bt_left _ _ _ (by rw [rootB_size];exact h),bt_nat,rootB_bl]
theorem rootS_back {a b : Int} (ha : 0 ≤ a ∧ a ≤ 1000000000) (hb : -1 ≤ b ∧ b ≤ 399) : pReadRoot (rootS a b) = (a,b,true):=by
  have c1 : bt (rootS a b) 1 = a / 16777216 % 256:=rootS_bt a b 1 (by omega)
  have c2 : bt (rootS a b) 2 = a / 65536 % 256:=rootS_bt a b 2 (by omega)
  have c3 : bt (rootS a b) 3 = a / 256 % 256:=rootS_bt a b 3 (by omega)
  have c4 : bt (rootS a b) 4 = a % 256:=rootS_bt a b 4 (by omega)
  have c5 : bt (rootS a b) 5 = (b + 1) / 256 % 256:=rootS_bt a b 5 (by omega)
  have c6 : bt (rootS a b) 6 = (b + 1) % 256:=rootS_bt a b 6 (by omega)
  have s : serB (rootS a b) = a:=by unfold serB;rw [c1,c2,c3,c4];omega
  have t : treB (rootS a b) = b:=by unfold treB;rw [c5,c6];omega
  have p : pRootText a b = (rootS a b,true):=by unfold pRootText;rw [if_pos ⟨ha,hb⟩];rfl
  rw [pRR_t (rootS_size a b) (by rw [s,t,p]) (by rw [s,t,p]),s,t]
theorem pRootText_S {a b : Int} (ha : 0 ≤ a ∧ a ≤ 1000000000) (hb : -1 ≤ b ∧ b ≤ 399) : pRootText a b = (rootS a b,true):=by unfold pRootText;rw [if_pos ⟨ha,hb⟩];rfl
theorem dev2_ok (x y : ByteArray) (hx : x.size ≤ 64) (hy : y.size ≤ 64) : devOk [x,y] ([] : List S118) = true :=
  devOk_mk ⟨⟨by simp,by simp,by simp⟩,fun z hz=>by
    rcases List.mem_cons.1 hz with rfl|hz
    · exact hx
    · rw [List.mem_singleton.1 hz];exact hy,fun z hz=>by simp at hz⟩
theorem dev2_0 (x y : ByteArray) (hx : x.size ≤ 64) (hy : y.size ≤ 64) : (pReadSector [x,y] ([] : List S118) 0).1 = x:=by
  unfold pReadSector
  rw [if_pos ⟨dev2_ok x y hx hy,by omega,by simp⟩]
  rfl
theorem dev2_1 (x y : ByteArray) (hx : x.size ≤ 64) (hy : y.size ≤ 64) : (pReadSector [x,y] ([] : List S118) 1).1 = y:=by
  unfold pReadSector
  rw [if_pos ⟨dev2_ok x y hx hy,by omega,by simp⟩]
  rfl
theorem roots_last {p q : Int} (hp : 0 ≤ p ∧ p < 10000) (hq : 0 ≤ q ∧ q < 10000) : pLast [rootS p (-1),rootS q 3] ([] : List S118) = if q > p then (q,3,1,true) else (p,-1,0,true):=by
  unfold pLast
  rw [dev2_0 _ _ (by rw [rootS_size];omega) (by rw [rootS_size];omega),dev2_1 _ _ (by rw [rootS_size];omega) (by rw [rootS_size];omega),rootS_back (by omega) (by omega),rootS_back (by omega) (by omega)]
  by_cases h : q > p
  · simp only [if_pos h];simp [h]
  · simp only [if_neg h];simp [h]
theorem roots_j0 (b : List Int) (hb : b.length ≤ 140737488351232) : Ev (fun k=>laws_FnRoots.j0 k b false) true:=by
  obtain ⟨P,evP,hP12,hP⟩:=dPlaces b hb
  have r0:=hP _ (List.getElem_mem (show 0 < P.length by omega))
  have r1:=hP _ (List.getElem_mem (show 1 < P.length by omega))
  have q0 : rd P 0 = P[0]'(by omega):=rd_at (i:=0) (by omega)
  have q1 : rd P 1 = P[1]'(by omega):=rd_at (i:=1) (by omega)
  generalize P[0]'(by omega) = p0 at r0 q0
  generalize P[1]'(by omega) = p1 at r1 q1
  have e1:=iRootText p0 (-1)
  have e2:=iRootText p1 3
  rw [pRootText_S (by omega) (by omega)] at e1 e2
  have e3:=iLastRoot [rootS p0 (-1),rootS p1 3] ([] : List S118) (by simp) (by simp)
  rw [roots_last r0 r1] at e3
  obtain ⟨k0,h0⟩:=evP
  obtain ⟨k1,h1⟩:=e1
  obtain ⟨k2,h2⟩:=e2
  obtain ⟨k3,h3⟩:=e3
  refine ⟨k0 + k1 + k2 + k3 + 1,fun k hk=>?_⟩
  obtain ⟨j,rfl⟩ : ∃ j,k = j + 1:=⟨k - 1,by omega⟩
  have h0 : spec_DrawPlaces.f j b = _:=h0 j (by omega)
  have h1 : impl_RootText.f j p0 (-1) = _:=h1 j (by omega)
  have h2 : impl_RootText.f j p1 3 = _:=h2 j (by omega)
  have h3 : impl_LastRoot.f j [rootS p0 (-1),rootS p1 3] ([] : List S118) = _:=h3 j (by omega)
  simp only [laws_FnRoots.j0]
  rw [if_neg (by decide),h0]
  simp only [Option.bind_some]
  rw [if_pos (by omega),if_pos (by omega),q0,q1,h1]
  simp only [Option.bind_some]
  rw [h2]
  simp only [Option.bind_some]
  rw [h3]
  simp only [Option.bind_some]
  by_cases h : p1 > p0
  · simp only [if_pos h]
    simp
  · simp only [if_neg h]
    simp
theorem FnRoots : laws_FnRoots.Pure:=by
  intro b _ hb _
  refine Ev.rounds (g:=fun k=>laws_FnRoots.f k b) ?_
  unfold laws_FnRoots.f
  by_cases hbig : (b.length : Int) > 1048576
  · rw [show laws_big.f b = some true from by unfold laws_big.f;rw [decide_eq_true hbig]]
    simp only [Option.bind_some,if_true]
    exact Ev.now _
  rw [show laws_big.f b = some false from by unfold laws_big.f;rw [decide_eq_false hbig]]
  simp only [Option.bind_some,Bool.false_eq_true,if_false]
  obtain ⟨x,y,evR⟩:=dRootText b (by omega)
  refine evR.bind ((iRootText x y).bind ((sRootText x y).bind ?_))
  by_cases h : (0 ≤ x ∧ x ≤ 1000000000) ∧ (-1 ≤ y ∧ y ≤ 399)
  · have e:=iReadRoot (rootS x y) (by rw [rootS_size];omega)
    rw [rootS_back h.1 h.2] at e
    rw [pRootText_S h.1 h.2]
    refine e.bind (Ev.ifn (by simp) (Ev.ifp rfl (Ev.ifp rfl ?_)))
    refine Ev.cg (roots_j0 b (by omega)) fun k=>?_
    simp
  · have p : pRootText x y = (⟨#[]⟩,false):=by unfold pRootText;rw [if_neg h]
    rw [p]
    exact (iReadRoot ⟨#[]⟩ (by decide)).bind (Ev.ifn (by simp) (Ev.ifn (by simp) (roots_j0 b (by omega))))

end Go.Proofs.Ytcdofljgeiohgaa.Pure
