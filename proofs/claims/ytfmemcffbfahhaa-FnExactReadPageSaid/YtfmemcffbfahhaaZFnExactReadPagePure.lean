/- The program's ReadPage and the reference's ReadPage return the same page and flag, for every text; the page owns its memory, behind another call too. -/
import Derived.Test.YtfmemcffbfahhaaZFnExactReadPagex12
import Derived.Laws.BitsAllLaws
namespace Go.Proofs.Ytfmemcffbfahhaa.Pure
open Go.RowKit Go.Proofs.Ytfmemcffbfahhaa.QFnExactReadPage Go.Proofs.YtfmemcffbfahhaaW.PrintWords Go.Proofs.YtfmemcffbfahhaaW.PrintLast
set_option linter.unusedVariables false
set_option linter.unusedSimpArgs false
set_option maxHeartbeats 4000000

theorem wid {n : Int} (h0 : -9223372036854775808 ≤ n) (h1 : n < 9223372036854775808) : wrap64 n = n:=by unfold wrap64;omega
theorem _root_.Go.Proofs.YtfmemcffbfahhaaW.PrintWords.Ev.ofEq {α : Type} {g : Nat → Option α} {r q : α} (h : Ev g r) (e : r = q) : Ev g q:=e ▸ h
theorem _root_.Go.Proofs.YtfmemcffbfahhaaW.PrintWords.Ev.same {α : Type} {o : Option α} {r : α} (h : o = some r) : Ev (fun _=>o) r:=⟨0,fun _ _=>h⟩
theorem _root_.Go.Proofs.YtfmemcffbfahhaaW.PrintWords.Ev.to {α : Type} {g f : Nat → Option α} {r : α} (k : Ev f r) (h : ∀ k,g (k + 1) = f k) : Ev g r:=Ev.step h k
theorem _root_.Go.Proofs.YtfmemcffbfahhaaW.PrintWords.Ev.ifp {α : Type} {c : Prop} [Decidable c] {g f : Nat → Option α} {r : α} (h : c) (e : Ev g r) : Ev (fun k=>if c then g k else f k) r:=by simp only [if_pos h];exact e
theorem _root_.Go.Proofs.YtfmemcffbfahhaaW.PrintWords.Ev.ifn {α : Type} {c : Prop} [Decidable c] {g f : Nat → Option α} {r : α} (h : ¬ c) (e : Ev f r) : Ev (fun k=>if c then g k else f k) r:=by simp only [if_neg h];exact e
/-- The bytes of a string, as numbers. -/
def bl (s : ByteArray) : List Int:=s.data.toList.map fun b=>(b.toNat : Int)
theorem bl_len (s : ByteArray) : (bl s).length = s.size:=by unfold bl;rw [List.length_map];rfl
def Byt (xs : List Int) : Prop:=∀ x ∈ xs,0 ≤ x ∧ x < 256
theorem Byt.nil : Byt []:=fun _ h=>by simp at h
theorem Byt.cons {x : Int} {xs : List Int} (h : 0 ≤ x ∧ x < 256) (h' : Byt xs) : Byt (x :: xs):=fun y hy=>by
  rcases List.mem_cons.1 hy with rfl|hy
  · exact h
  · exact h' y hy
theorem Byt.left {xs ys : List Int} (h : Byt (xs ++ ys)) : Byt xs:=fun y hy=>h y (List.mem_append_left _ hy)
theorem Byt.right {xs ys : List Int} (h : Byt (xs ++ ys)) : Byt ys:=fun y hy=>h y (List.mem_append_right _ hy)
theorem Byt.tail {x : Int} {xs : List Int} (h : Byt (x :: xs)) : Byt xs:=fun y hy=>h y (List.mem_cons_of_mem _ hy)
theorem Byt.head {x : Int} {xs : List Int} (h : Byt (x :: xs)) : 0 ≤ x ∧ x < 256:=h x (List.mem_cons_self ..)
theorem Byt.drop {xs : List Int} (h : Byt xs) (n : Nat) : Byt (xs.drop n):=fun y hy=>h y (List.mem_of_mem_drop hy)
theorem Byt.take {xs : List Int} (h : Byt xs) (n : Nat) : Byt (xs.take n):=fun y hy=>h y (List.mem_of_mem_take hy)
theorem bl_byt (s : ByteArray) : Byt (bl s):=fun x hx=>by
  obtain ⟨b,_,rfl⟩:=List.mem_map.1 hx
  have:=b.toNat_lt
  omega
theorem bl_str {xs : List Int} (h : Byt xs) : bl (strOfNums xs) = xs:=by
  unfold bl
  rw [strOfNums_data,List.map_map]
  conv=>rhs;rw [← List.map_id xs]
  apply List.map_congr_left
  intro x hx
  have:=h x hx
  simp only [Function.comp,id]
  obtain ⟨n,rfl⟩:=Int.eq_ofNat_of_zero_le this.1
  simp
  omega
theorem str_bl (s : ByteArray) : strOfNums (bl s) = s:=by
  unfold strOfNums bl
  rw [List.map_map]
  have : ((fun n : Int=>UInt8.ofNat n.toNat) ∘ fun b : UInt8=>(b.toNat : Int)) = id:=by
    funext b
    simp
  rw [this,List.map_id]
theorem bl_inj {a b : ByteArray} (h : bl a = bl b) : a = b:=by rw [← str_bl a,← str_bl b,h]
theorem bt_bl (s : ByteArray) (i : Int) : bt s i = (bl s).getD i.toNat 0:=by
  unfold bt
  split
  · rename_i h
    have hl : i.toNat < s.data.toList.length:=h
    simp only [bl,List.getD_eq_getElem?_getD,List.getElem?_map,List.getElem?_eq_getElem hl,Option.map_some,Option.getD_some]
    rfl
  · rename_i h
    rw [List.getD_eq_getElem?_getD,List.getElem?_eq_none (by rw [bl_len];omega)]
    rfl
theorem bl_app (a b : ByteArray) : bl (a ++ b) = bl a ++ bl b:=by
  unfold bl
  rw [ByteArray.data_append,Array.toList_append,List.map_append]
theorem bl_ext (a : ByteArray) (i j : Nat) : bl (a.extract i j) = ((bl a).take j).drop i:=by
  unfold bl
  rw [ByteArray.data_extract,Array.toList_extract,List.extract_eq_take_drop,List.map_take,List.map_drop,List.drop_take]
theorem bl_emp : bl (⟨#[]⟩ : ByteArray) = []:=rfl
theorem bl_cons {s : ByteArray} {i : Nat} (h : i < s.size) : (bl s).drop i = bt s (i : Int) :: (bl s).drop (i + 1):=by
  have hl : i < (bl s).length:=by rw [bl_len];exact h
  rw [List.drop_eq_getElem_cons hl,bt_bl,List.getD_eq_getElem?_getD,Int.toNat_natCast,List.getElem?_eq_getElem hl]
  rfl
theorem bl_end {s : ByteArray} {i : Nat} (h : s.size ≤ i) : (bl s).drop i = []:=List.drop_of_length_le (by rw [bl_len];exact h)
theorem tl_inj {a b : ByteArray} : a.toList = b.toList ↔ a = b:=by
  constructor
  · intro h
    rw [ByteArray.toList_eq,ByteArray.toList_eq] at h
    apply ByteArray.ext
    exact Array.toList_inj.1 h
  · rintro rfl;rfl
theorem tl_bl {a b : ByteArray} : a.toList = b.toList ↔ bl a = bl b:=tl_inj.trans ⟨fun h=>h ▸ rfl,bl_inj⟩
theorem tdiv_pos {a b : Int} (h : 0 ≤ a) : Int.tdiv a b = a / b:=Int.tdiv_eq_ediv_of_nonneg h
theorem tmod_pos {a b : Int} (h : 0 ≤ a) : Int.tmod a b = a % b:=Int.tmod_eq_emod_of_nonneg h
theorem bne_rfl_bool (b : Bool) : (b != b) = false:=by cases b <;> rfl
theorem Byt.one {x : Int} (h : 0 ≤ x ∧ x < 256) : Byt [x]:=Byt.nil.cons h
theorem bl_size (s : ByteArray) : s.size = (bl s).length:=(bl_len s).symm
theorem str_len (xs : List Int) : (strOfNums xs).size = xs.length:=strOfNums_size xs

theorem set_take {α : Type} (xs : List α) {i : Nat} (v : α) (h : i < xs.length) : (xs.set i v).take (i + 1) = xs.take i ++ [v]:=by
  rw [List.take_succ_eq_append_getElem (by rw [List.length_set];exact h),List.getElem_set_self,List.take_set_of_le (Nat.le_refl _)]
theorem take_set_drop {α : Type} (xs : List α) {i : Nat} (v : α) (h : i < xs.length) : (xs.set i v).drop (i + 1) = xs.drop (i + 1):=by
  rw [List.drop_set_of_lt (by omega)]
theorem getD_at {α : Type} {xs : List α} {i : Nat} (z : α) (h : i < xs.length) : xs.getD ((i : Int)).toNat z = xs[i]:=by
  rw [Int.toNat_natCast,List.getD_eq_getElem?_getD,List.getElem?_eq_getElem h];rfl
theorem ri_Item {xs : List S61} {i : Nat} (h : i < xs.length) : rd_T61 xs (i : Int) = xs[i]:=getD_at _ h

theorem eqItem_self (x : S61) : laws_eqItem.f x.f0 x.f1 x.f2 x.f0 x.f1 x.f2 = some true:=by unfold laws_eqItem.f;simp
theorem eqItemS_go (x0 : List S61) (hl : x0.length ≤ 100000000) : ∀ (d i : Nat),i + d = x0.length → Ev (fun k=>laws_eqItemS.l0 k x0 x0 (i : Int)) true
  | 0,i,hi=>(Ev.now _).to fun k=>by simp only [laws_eqItemS.l0];rw [if_neg (by omega)]
  | d + 1,i,hi=>by
    refine (eqItemS_go x0 hl d (i + 1) (by omega)).to fun k=>?_
    simp only [laws_eqItemS.l0]
    rw [if_pos (by omega),if_pos (by omega),if_pos (by omega),eqItem_self]
    simp only [Option.bind_some,if_true]
    rw [wid (by omega) (by omega)]
    rfl
theorem eqItemS (x0 : List S61) (hl : x0.length ≤ 100000000) : Ev (fun k=>laws_eqItemS.f k x0 x0) true:=by
  unfold laws_eqItemS.f
  exact Ev.ifp rfl (eqItemS_go x0 hl x0.length 0 (by omega))

/-! Marks -/
def digL (n : Nat) : List Int:=if h : n > 0 then digL (n / 10) ++ [48 + ((n % 10 : Nat) : Int)] else []
termination_by n
decreasing_by omega
theorem digL_pos {n : Nat} (h : n > 0) : digL n = digL (n / 10) ++ [48 + ((n % 10 : Nat) : Int)]:=by rw [digL,dif_pos h]
theorem digL_zero : digL 0 = []:=by rw [digL,dif_neg (by omega)]
def MB : ByteArray:=⟨#[109]⟩
def mText (m : Int) : ByteArray:=if m ≤ 0 then ⟨#[109,48]⟩ else MB ++ strOfNums (digL m.toNat)
theorem str_app {xs ys : List Int} : strOfNums (xs ++ ys) = strOfNums xs ++ strOfNums ys:=by
  apply ByteArray.ext
  unfold strOfNums
  rw [ByteArray.data_append]
  simp
theorem ba_assoc (a b c : ByteArray) : a ++ b ++ c = a ++ (b ++ c):=by
  apply bl_inj
  simp only [bl_app,List.append_assoc]
theorem mText_go (n : Nat) : ∀ acc : ByteArray,acc.size + n ≤ 1000000000000 → Ev (fun k=>laws_markText.l0 k (n : Int) acc) (MB ++ (strOfNums (digL n) ++ acc)):=by
  induction n using Nat.strongRecOn with
  | _ n ih =>
    intro acc ha
    by_cases h : n > 0
    · have h1 : (strOfNums [48 + ((n % 10 : Nat) : Int)] ++ acc).size = 1 + acc.size:=by rw [bl_size,bl_app,List.length_append,bl_len,bl_len,str_len];rfl
      have:=ih (n / 10) (by omega) (strOfNums [48 + ((n % 10 : Nat) : Int)] ++ acc) (by omega)
      rw [← ba_assoc (strOfNums (digL (n / 10))),← str_app,← digL_pos h] at this
      refine this.to fun k=>?_
      have w : wrap64 (48 + Int.tmod (n : Int) 10) % 256 = 48 + ((n % 10 : Nat) : Int):=by rw [tmod_pos (by omega),wid (by omega) (by omega)];omega
      simp only [laws_markText.l0,w,Option.bind_some]
      clear w
      rw [if_pos (by omega),if_pos (by rw [str_len,List.length_singleton];omega),tdiv_pos (by omega),wid (by omega) (by omega)]
      congr 1
    · obtain rfl : n = 0:=by omega
      rw [digL_zero]
      refine (Ev.now _).to fun k=>?_
      simp only [laws_markText.l0]
      rw [if_neg (by omega),if_pos (by omega)]
      have e : strOfNums [] ++ acc = acc:=by apply bl_inj;rw [bl_app];rfl
      rw [e]
      rfl
theorem markText (m : Int) (h : m ≤ 100000000000) : Ev (fun k=>laws_markText.f k m) (mText m):=by
  unfold laws_markText.f mText
  by_cases h0 : m ≤ 0
  · rw [if_pos h0];exact Ev.ifp h0 (Ev.now _)
  · rw [if_neg h0]
    refine Ev.ifn h0 ?_
    have:=mText_go m.toNat (⟨#[]⟩ : ByteArray) (by show 0 + m.toNat ≤ _;omega)
    rw [Int.toNat_of_nonneg (by omega)] at this
    refine Ev.ofEq this ?_
    congr 1
    apply bl_inj
    rw [bl_app,bl_emp,List.append_nil]

def mkItem : Int → List S61 → List S61
  | _,[]=>[]
  | m,_ :: l=>⟨mText m,mText (m + 1),m + 2⟩ :: mkItem (m + 3) l
theorem mkItem_len : ∀ (l : List S61) (m : Int),(mkItem m l).length = l.length
  | [],_=>rfl
  | _ :: l,m=>by simp only [mkItem,List.length_cons,mkItem_len l]
theorem ri_set_Item {xs : List S61} {i : Nat} (v : S61) (h : i < xs.length) : rd_T61 (xs.set i v) (i : Int) = v:=by
  rw [ri_Item (by rw [List.length_set];exact h),List.getElem_set_self]
theorem markItemS_go : ∀ (d i : Nat) (x0 : List S61) (m : Int),i + d = x0.length → x0.length ≤ 100000000 → 0 ≤ m → m + 3 * d ≤ 10000000000 → Ev (fun k=>laws_markItemS.l0 k x0 m (i : Int)) (m + 3 * d,x0.take i ++ mkItem m (x0.drop i))
  | 0,i,x0,m,hi,hl,h0,h1=>by
    rw [List.drop_of_length_le (by omega),List.take_of_length_le (by omega)]
    refine Ev.ofEq ((Ev.now (m,x0)).to fun k=>?_) (by simp [mkItem])
    simp only [laws_markItemS.l0];rw [if_neg (by omega)]
  | d + 1,i,x0,m,hi,hl,h0,h1=>by
    have hlt : i < x0.length:=by omega
    have ih:=markItemS_go d (i + 1) (x0.set i ⟨mText m,mText (m + 1),m + 2⟩) (m + 3) (by rw [List.length_set];omega) (by rw [List.length_set];omega) (by omega) (by omega)
    rw [set_take _ _ hlt,take_set_drop _ _ hlt,List.append_assoc] at ih
    rw [List.drop_eq_getElem_cons hlt,mkItem]
    have e : ((m + 3) + 3 * (d : Int),x0.take i ++ ([⟨mText m,mText (m + 1),m + 2⟩] ++ mkItem (m + 3) (x0.drop (i + 1)))) = (m + 3 * ((d + 1 : Nat) : Int),x0.take i ++ ⟨mText m,mText (m + 1),m + 2⟩ :: mkItem (m + 3) (x0.drop (i + 1))):=by
      rw [List.singleton_append];congr 1;omega
    rw [e] at ih
    refine Ev.to (f:=fun k=>(laws_markText.f k (m)).bind fun t0=>(laws_markText.f k (m + 1)).bind fun t1=>laws_markItemS.l0 k (x0.set i ⟨t0,t1,m + 2⟩) (m + 3) ((i + 1 : Nat) : Int)) (r:=(m + 3 * ((d + 1 : Nat) : Int),x0.take i ++ ⟨mText m,mText (m + 1),m + 2⟩ :: mkItem (m + 3) (x0.drop (i + 1)))) ?_ fun k=>?_
    · skip
      refine (markText _ (by omega)).bind ?_
      refine (markText _ (by omega)).bind ?_
      exact ih
    have w0 : wrap64 (m + 1) = m + 1:=wid (by omega) (by omega)
    have w1 : wrap64 (m + 1 + 1) = m + 2:=by rw [wid (by omega) (by omega)];omega
    have w2 : wrap64 (m + 2 + 1) = m + 3:=by rw [wid (by omega) (by omega)];omega
    have w_ : wrap64 ((i : Int) + 1) = ((i + 1 : Nat) : Int):=by rw [wid (by omega) (by omega)];rfl
    simp only [laws_markItemS.l0,w0,w1,w2,w_,Int.toNat_natCast,Option.bind_some,ri_Item hlt,ri_set_Item _ hlt,List.set_set,if_pos (show (i : Int) < (x0.length : Int) by omega),if_pos (show (0 : Int) ≤ (i : Int) by omega)]
theorem markItemS (x0 : List S61) (m : Int) (hl : x0.length ≤ 100000000) (h0 : 0 ≤ m) (h1 : m ≤ 1000000000) : Ev (fun k=>laws_markItemS.f k x0 m) (m + 3 * x0.length,mkItem m x0):=by
  unfold laws_markItemS.f
  have:=markItemS_go x0.length 0 x0 m (by omega) hl h0 (by omega)
  simpa using this

theorem heldItemS_go (z : List S61) (hl : z.length ≤ 100000000) : ∀ (d i : Nat) (l : List S61) (m : Int),l.length = d → i + d = z.length → z.drop i = mkItem m l → 0 ≤ m → m + 3 * d ≤ 10000000000 → Ev (fun k=>laws_heldItemS.l0 k z m (i : Int)) (m + 3 * d)
  | 0,i,l,m,hd,hi,hz,h0,h1=>by
    refine Ev.ofEq ((Ev.now m).to fun k=>?_) (by omega)
    simp only [laws_heldItemS.l0];rw [if_neg (by omega)]
  | d + 1,i,[],m,hd,hi,hz,h0,h1=>by simp at hd
  | d + 1,i,x :: l,m,hd,hi,hz,h0,h1=>by
    have hlt : i < z.length:=by omega
    rw [List.drop_eq_getElem_cons hlt,mkItem,List.cons.injEq] at hz
    have ih:=heldItemS_go z hl d (i + 1) l (m + 3) (by simpa using hd) (by omega) hz.2 (by omega) (by omega)
    refine Ev.ofEq (r:=m + 3 + 3 * d) ?_ (by omega)
    refine Ev.to (f:=fun k=>(laws_markText.f k (m)).bind fun t0=>if z[i].f0.toList = t0.toList then (laws_markText.f k (m + 1)).bind fun t1=>if z[i].f1.toList = t1.toList then if z[i].f2 = m + 2 then laws_heldItemS.l0 k z (m + 3) ((i + 1 : Nat) : Int) else some (-1) else some (-1) else some (-1)) (r:=m + 3 + 3 * d) ?_ fun k=>?_
    · skip
      refine (markText _ (by omega)).bind ?_
      refine Ev.ifp (by rw [hz.1]) ?_
      refine (markText _ (by omega)).bind ?_
      refine Ev.ifp (by rw [hz.1]) ?_
      refine Ev.ifp (by rw [hz.1]) ?_
      exact ih
    have w0 : wrap64 (m + 1) = m + 1:=wid (by omega) (by omega)
    have w1 : wrap64 (m + 1 + 1) = m + 2:=by rw [wid (by omega) (by omega)];omega
    have w2 : wrap64 (m + 2 + 1) = m + 3:=by rw [wid (by omega) (by omega)];omega
    have w_ : wrap64 ((i : Int) + 1) = ((i + 1 : Nat) : Int):=by rw [wid (by omega) (by omega)];rfl
    simp only [laws_heldItemS.l0,w0,w1,w2,w_,ri_Item hlt]
    clear w_ w0 w1 w2
    rw [if_pos (by omega),if_pos (by omega)]
theorem heldItemS (l : List S61) (m : Int) (hl : l.length ≤ 100000000) (h0 : 0 ≤ m) (h1 : m ≤ 1000000000) : Ev (fun k=>laws_heldItemS.f k (mkItem m l) m) (m + 3 * l.length):=by
  unfold laws_heldItemS.f
  exact heldItemS_go (mkItem m l) (by rw [mkItem_len];exact hl) l.length 0 l m rfl (by rw [mkItem_len];omega) (by simp) h0 (by omega)

/-! Numbers in bytes -/
def varB (n : Nat) : List Int:=if h : n > 127 then (((n % 128 + 128 : Nat) : Int)) :: varB (n / 128) else [(n : Int)]
termination_by n
decreasing_by omega
theorem varB_big {n : Nat} (h : n > 127) : varB n = (((n % 128 + 128 : Nat) : Int)) :: varB (n / 128):=by rw [varB,dif_pos h]
theorem varB_small {n : Nat} (h : ¬ n > 127) : varB n = [(n : Int)]:=by rw [varB,dif_neg h]
theorem varB_byt (n : Nat) : Byt (varB n):=by
  induction n using Nat.strongRecOn with
  | _ n ih =>
    by_cases h : n > 127
    · rw [varB_big h];exact (ih _ (by omega)).cons ⟨by omega,by omega⟩
    · rw [varB_small h];exact Byt.one ⟨by omega,by omega⟩
theorem varB_pos (n : Nat) : 1 ≤ (varB n).length:=by
  by_cases h : n > 127
  · rw [varB_big h];simp
  · rw [varB_small h];simp
theorem varB_len (n : Nat) : (varB n).length ≤ n + 1:=by
  induction n using Nat.strongRecOn with
  | _ n ih =>
    by_cases h : n > 127
    · rw [varB_big h];have:=ih (n / 128) (by omega);simp only [List.length_cons];omega
    · rw [varB_small h];simp
theorem varB_len1 {n : Nat} (h : n < 128) : (varB n).length = 1:=by rw [varB_small (by omega)];rfl
theorem varB_len2 {n : Nat} (h : n < 16384) : (varB n).length ≤ 2:=by
  by_cases h1 : n > 127
  · rw [varB_big h1,List.length_cons,varB_len1 (by omega)];omega
  · rw [varB_small h1];simp
theorem varB_len5 {n : Nat} (h : n ≤ 1000000000) : (varB n).length ≤ 5:=by
  by_cases h1 : n > 127
  · rw [varB_big h1,List.length_cons]
    by_cases h2 : n / 128 > 127
    · rw [varB_big h2,List.length_cons]
      by_cases h3 : n / 128 / 128 > 127
      · rw [varB_big h3,List.length_cons]
        have:=varB_len2 (n:=n / 128 / 128 / 128) (by omega)
        omega
      · rw [varB_small h3];simp
    · rw [varB_small h2];simp
  · rw [varB_small h1];simp
/-- The number that bytes tell, the first the lowest. -/
def dec : List Int → Int
  | []=>0
  | c :: l=>c % 128 + 128 * dec l
theorem dec_nonneg : ∀ l : List Int,0 ≤ dec l
  | []=>by simp [dec]
  | c :: l=>by have:=dec_nonneg l;simp only [dec];omega
theorem dec_snoc : ∀ (l : List Int) (c : Int),dec (l ++ [c]) = dec l + c % 128 * 128 ^ l.length
  | [],c=>by simp [dec]
  | a :: l,c=>by
    have:=dec_snoc l c
    simp only [List.cons_append,dec,this,List.length_cons,Int.pow_succ]
    rw [Int.mul_add]
    have : 128 * (c % 128 * 128 ^ l.length) = c % 128 * (128 ^ l.length * 128):=by rw [Int.mul_comm 128,Int.mul_assoc]
    omega
/-- Bytes above 127, and one more. -/
def Hi (l : List Int) : Prop:=∀ x ∈ l,128 ≤ x ∧ x < 256
theorem dec_pos : ∀ (l : List Int) (c : Int),0 < c → c < 128 → 1 ≤ dec (l ++ [c])
  | [],c,h,h'=>by simp only [List.nil_append,dec];omega
  | a :: l,c,h,h'=>by have:=dec_pos l c h h';simp only [List.cons_append,dec];omega
theorem varB_dec : ∀ (l : List Int) (c : Int),Hi l → 0 ≤ c → c < 128 → (l = [] ∨ c ≠ 0) → varB (dec (l ++ [c])).toNat = l ++ [c]
  | [],c,_,h,h',_=>by
    simp only [List.nil_append,dec]
    rw [varB_small (by omega)]
    congr 1
    omega
  | a :: l,c,hl,h,h',hc=>by
    have ha:=hl a (List.mem_cons_self ..)
    have hp:=dec_pos l c (by rcases hc with h|h <;> simp_all <;> omega) h'
    have ih:=varB_dec l c (fun x hx=>hl x (List.mem_cons_of_mem _ hx)) h h' (by rcases hc with h|h <;> simp_all)
    simp only [List.cons_append,dec]
    rw [varB_big (by omega)]
    have e : (a % 128 + 128 * dec (l ++ [c])).toNat / 128 = (dec (l ++ [c])).toNat:=by omega
    rw [e,ih]
    congr 1
    omega
theorem varB_last (n : Nat) : ∃ l c,varB n = l ++ [c] ∧ Hi l ∧ 0 ≤ c ∧ c < 128 ∧ (l = [] ∨ c ≠ 0) ∧ dec (l ++ [c]) = n:=by
  induction n using Nat.strongRecOn with
  | _ n ih =>
    by_cases h : n > 127
    · obtain ⟨l,c,e,hl,h0,h1,hc,hd⟩:=ih (n / 128) (by omega)
      refine ⟨((n % 128 + 128 : Nat) : Int) :: l,c,by rw [varB_big h,e];rfl,fun x hx=>?_,h0,h1,Or.inr ?_,?_⟩
      · rcases List.mem_cons.1 hx with rfl|hx
        · omega
        · exact hl x hx
      · rintro rfl
        have : l = []:=by simpa using hc
        subst this
        simp [dec] at hd
        omega
      · simp only [List.cons_append,dec,hd];omega
    · exact ⟨[],n,by rw [varB_small h];rfl,fun _ hx=>by simp at hx,by omega,by omega,.inl rfl,by simp only [List.nil_append,dec];omega⟩
/-- What is read off bytes: the number, and how many bytes it took. -/
def rvGo : Nat → Int → Int → Nat → List Int → Option (Int × Nat)
  | 0,_,_,_,_=>none
  | _ + 1,_,_,_,[]=>none
  | f + 1,n,sc,c,b :: l=>if b < 128 then (if (b = 0 ∧ 0 < c) ∨ n + b % 128 * sc > 1000000000 then none else some (n + b % 128 * sc,c + 1)) else rvGo f (n + b % 128 * sc) (sc * 128) (c + 1) l
def rv (l : List Int) : Option (Int × Nat):=rvGo 5 0 1 0 l
theorem rvGo_some : ∀ (f : Nat) (P l : List Int),P.length + f = 5 → Byt l → Hi P → ∀ n c,rvGo f (dec P) (128 ^ P.length) P.length l = some (n,c) →
    ∃ rest,P ++ l = varB n.toNat ++ rest ∧ c = (varB n.toNat).length ∧ 0 ≤ n ∧ n ≤ 1000000000
  | 0,P,l,_,_,_,n,c,h=>by simp [rvGo] at h
  | f + 1,P,[],_,_,_,n,c,h=>by simp [rvGo] at h
  | f + 1,P,b :: l,hf,hb,hP,n,c,h=>by
    have hbb:=hb.head
    simp only [rvGo] at h
    by_cases h1 : b < 128
    · rw [if_pos h1] at h
      split at h
      · cases h
      · rename_i h2
        simp only [Option.some.injEq,Prod.mk.injEq] at h
        obtain ⟨rfl,rfl⟩:=h
        have hd:=dec_snoc P b
        have hv:=varB_dec P b hP hbb.1 h1 (by
          rcases P with _|⟨a,P⟩
          · exact .inl rfl
          · refine .inr fun e=>h2 (.inl ⟨e,by simp⟩))
        rw [hd] at hv
        have hnn:=dec_nonneg (P ++ [b])
        rw [hd] at hnn
        refine ⟨l,by rw [hv];simp,by rw [hv];simp,hnn,by omega⟩
    · rw [if_neg h1] at h
      have:=rvGo_some f (P ++ [b]) l (by simp;omega) hb.tail (fun x hx=>by
        rcases List.mem_append.1 hx with hx|hx
        · exact hP x hx
        · simp at hx;subst hx;omega) n c (by rw [dec_snoc,List.length_append,Int.pow_add];simpa using h)
      obtain ⟨rest,e,r⟩:=this
      exact ⟨rest,by rw [← e];simp,r⟩
theorem rvGo_hi : ∀ (Q : List Int) (f : Nat) (P l : List Int),Hi Q → rvGo (f + Q.length) (dec P) (128 ^ P.length) P.length (Q ++ l) = rvGo f (dec (P ++ Q)) (128 ^ (P ++ Q).length) (P ++ Q).length l
  | [],f,P,l,_=>by simp
  | b :: Q,f,P,l,h=>by
    have hb:=h b (List.mem_cons_self ..)
    have:=rvGo_hi Q f (P ++ [b]) l (fun x hx=>h x (List.mem_cons_of_mem _ hx))
    rw [show f + (b :: Q).length = (f + Q.length) + 1 by simp;omega,List.cons_append]
    simp only [rvGo]
    rw [if_neg (by omega)]
    rw [dec_snoc,List.length_append,Int.pow_add] at this
    simp only [List.append_assoc,List.singleton_append,List.length_cons,List.length_nil] at this
    rw [← this]
    simp
theorem rv_var (n : Nat) (h : n ≤ 1000000000) (rest : List Int) : rv (varB n ++ rest) = some ((n : Int),(varB n).length):=by
  obtain ⟨l,c,e,hl,h0,h1,hc,hd⟩:=varB_last n
  have h5:=varB_len5 h
  rw [e] at h5
  have hlen : l.length ≤ 4:=by simpa using h5
  unfold rv
  have:=rvGo_hi l (5 - l.length) [] ([c] ++ rest) hl
  simp only [dec,List.nil_append,List.length_nil] at this
  rw [show 5 - l.length + l.length = 5 by omega] at this
  rw [e,List.append_assoc]
  refine Eq.trans this ?_
  obtain ⟨f,hf⟩ : ∃ f,5 - l.length = f + 1:=⟨4 - l.length,by omega⟩
  rw [hf,List.singleton_append]
  simp only [rvGo]
  rw [if_pos h1,if_neg,← dec_snoc,hd]
  · simp
  · rintro (⟨h2,h3⟩|h2)
    · rcases hc with rfl|hc
      · simp at h3
      · exact hc h2
    · rw [← dec_snoc,hd] at h2
      omega
theorem rv_some {l : List Int} (hl : Byt l) {n : Int} {c : Nat} (h : rv l = some (n,c)) : ∃ rest,l = varB n.toNat ++ rest ∧ c = (varB n.toNat).length ∧ 0 ≤ n ∧ n ≤ 1000000000:=by
  have:=rvGo_some 5 [] l rfl hl (fun _ hx=>by simp at hx) n c h
  simpa using this
theorem varB_dec_iff (P : List Int) (b : Int) (hP : Hi P) (h0 : 0 ≤ b) (h1 : b < 128) : varB (dec (P ++ [b])).toNat = P ++ [b] ↔ ¬ (b = 0 ∧ 0 < P.length):=by
  constructor
  · rintro h ⟨rfl,hp⟩
    obtain ⟨l,c,e,_,_,_,hc,_⟩:=varB_last (dec (P ++ [0])).toNat
    rw [h] at e
    obtain ⟨e1,e2⟩:=List.append_inj' e rfl
    subst e1
    simp only [List.cons.injEq,and_true] at e2
    rcases hc with hc|hc
    · rw [hc] at hp;simp at hp
    · exact hc e2.symm
  · intro h
    refine varB_dec P b hP h0 h1 ?_
    rcases P with _|⟨a,P⟩
    · exact .inl rfl
    · exact .inr fun e=>h ⟨e,by simp⟩
theorem dec_lt : ∀ l : List Int,dec l < 128 ^ l.length
  | []=>by simp [dec]
  | c :: l=>by
    have:=dec_lt l
    simp only [dec,List.length_cons,Int.pow_succ]
    omega
theorem pow128 {c : Nat} (h : c ≤ 4) : 1 ≤ (128 : Int) ^ c ∧ (128 : Int) ^ c ≤ 268435456:=by
  rcases (by omega : c = 0 ∨ c = 1 ∨ c = 2 ∨ c = 3 ∨ c = 4) with rfl|rfl|rfl|rfl|rfl <;> decide
def rvRes (at_ : Int) : Option (Int × Nat) → Int × Int × Bool
  | some (n,c)=>(n,at_ + c,true)
  | none=>(0,0,false)
def pReadVar (s : ByteArray) (a : Int) : Int × Int × Bool:=if 0 ≤ a ∧ a ≤ s.size then rvRes a (rv ((bl s).drop a.toNat)) else (0,0,false)

theorem i_in (a b c : Int) : impl_in.f a b c = some (decide (b ≤ a ∧ a ≤ c)):=by
  unfold impl_in.f
  by_cases h : a ≥ b
  · rw [if_pos h];simp [show b ≤ a from h]
  · rw [if_neg h];simp [show ¬ b ≤ a from h]
theorem i_in_t {a b c : Int} (h : b ≤ a ∧ a ≤ c) : impl_in.f a b c = some true:=by rw [i_in,decide_eq_true h]
theorem i_in_f {a b c : Int} (h : ¬ (b ≤ a ∧ a ≤ c)) : impl_in.f a b c = some false:=by rw [i_in,decide_eq_false h]

theorem iVarText_go (n : Nat) : ∀ acc : List Int,acc.length + n ≤ 100000000000 → Ev (fun k=>impl_VarText.l0 k (n : Int) acc) (strOfNums (acc ++ varB n),true):=by
  induction n using Nat.strongRecOn with
  | _ n ih =>
    intro acc hacc
    by_cases h : n > 127
    · have:=ih (n / 128) (by omega) (acc ++ [((n % 128 + 128 : Nat) : Int)]) (by simp;omega)
      rw [varB_big h]
      rw [List.append_assoc,List.singleton_append] at this
      refine this.to fun k=>?_
      simp only [impl_VarText.l0]
      rw [if_pos (by omega),if_pos (by omega),tdiv_pos (by omega),tmod_pos (by omega),wid (by omega) (by omega),wid (by omega) (by omega)]
      congr 3
      omega
    · rw [varB_small h]
      refine (Ev.now _).to fun k=>?_
      simp only [impl_VarText.l0]
      rw [if_neg (by omega),if_pos (by omega),show (n : Int) % 256 = n by omega]
def pVarText (n : Int) : ByteArray × Bool:=if 0 ≤ n ∧ n ≤ 1000000000 then (strOfNums (varB n.toNat),true) else (⟨#[]⟩,false)
theorem iVarText (n : Int) : Ev (fun k=>impl_VarText.f k n) (pVarText n):=by
  unfold impl_VarText.f pVarText
  by_cases h : 0 ≤ n ∧ n ≤ 1000000000
  · rw [i_in_t h,if_pos h]
    simp only [Option.bind_some,if_true]
    have:=iVarText_go n.toNat [] (by simp;omega)
    rw [Int.toNat_of_nonneg h.1] at this
    exact this
  · rw [i_in_f h,if_neg h]
    simp only [Option.bind_some,Bool.false_eq_true,if_false]
    exact Ev.now _

def pShort (s : ByteArray) : ByteArray × Bool:=if s.size > 8000 then (⟨#[]⟩,false) else (strOfNums (varB s.size) ++ s,true)

theorem iShortText (s : ByteArray) (hs : s.size ≤ 140737488351232) : Ev (fun k=>impl_ShortText.f k s) (pShort s):=by
  unfold impl_ShortText.f pShort
  by_cases h : s.size > 8000
  · rw [if_pos h]
    simp only [if_pos (show (s.size : Int) > 8000 by omega)]
    exact Ev.now _
  · rw [if_neg h]
    simp only [if_neg (show ¬ (s.size : Int) > 8000 by omega)]
    have hl:=varB_len s.size
    refine (iVarText s.size).bind ?_
    have e : pVarText (s.size : Int) = (strOfNums (varB s.size),true):=by unfold pVarText;rw [if_pos (by omega),Int.toNat_natCast]
    rw [e]
    exact Ev.same (if_pos (by rw [str_len];omega))

theorem l01Var_go (n : Nat) : ∀ acc : List Int,acc.length + n ≤ 100000000000 → Ev (fun k=>spec_l01Var.l0 k (n : Int) acc) (strOfNums (acc ++ varB n)):=by
  induction n using Nat.strongRecOn with
  | _ n ih =>
    intro acc hacc
    by_cases h : n > 127
    · have:=ih (n / 128) (by omega) (acc ++ [((n % 128 + 128 : Nat) : Int)]) (by simp;omega)
      rw [varB_big h]
      rw [List.append_assoc,List.singleton_append] at this
      refine this.to fun k=>?_
      simp only [spec_l01Var.l0]
      rw [if_pos (by omega),if_pos (by omega),tdiv_pos (by omega),tmod_pos (by omega),wid (by omega) (by omega),wid (by omega) (by omega)]
      congr 3
      omega
    · rw [varB_small h]
      refine (Ev.now _).to fun k=>?_
      simp only [spec_l01Var.l0]
      rw [if_neg (by omega),if_pos (by omega),show (n : Int) % 256 = n by omega]
theorem l01Var_ev (n : Nat) (h : n ≤ 10000000000) : Ev (fun k=>spec_l01Var.f k (n : Int)) (strOfNums (varB n)):=l01Var_go n [] (by simp;omega)

theorem s_in (a b c : Int) : spec_l01In.f a b c = some (decide (b ≤ a ∧ a ≤ c)):=by
  unfold spec_l01In.f
  by_cases h : a ≥ b
  · rw [if_pos h];simp [show b ≤ a from h]
  · rw [if_neg h];simp [show ¬ b ≤ a from h]
theorem s_in_t {a b c : Int} (h : b ≤ a ∧ a ≤ c) : spec_l01In.f a b c = some true:=by rw [s_in,decide_eq_true h]
theorem s_in_f {a b c : Int} (h : ¬ (b ≤ a ∧ a ≤ c)) : spec_l01In.f a b c = some false:=by rw [s_in,decide_eq_false h]

theorem sVarText (n : Int) : Ev (fun k=>spec_VarText.f k n) (pVarText n):=by
  unfold spec_VarText.f pVarText
  by_cases h : 0 ≤ n ∧ n ≤ 1000000000
  · rw [s_in_t h,if_pos h]
    simp only [Option.bind_some,if_true]
    have:=l01Var_ev n.toNat (by omega)
    rw [Int.toNat_of_nonneg h.1] at this
    exact this.bind (Ev.now _)
  · rw [s_in_f h,if_neg h]
    simp only [Option.bind_some,Bool.false_eq_true,if_false]
    exact Ev.now _

def szI (kind : Int) (x : S61) : Int:=if kind = 1 then ((pShort x.f0).1.size : Int) + (pShort x.f1).1.size else if kind = 2 then ((pShort x.f0).1.size : Int) + (pVarText x.f2).1.size else 0
theorem pShort_size (s : ByteArray) : (pShort s).1.size ≤ 9000:=by
  unfold pShort
  split
  · exact Nat.zero_le _
  · rw [ByteArray.size_append,str_len]
    have:=varB_len5 (n:=s.size) (by omega)
    omega
theorem pVar_size (n : Int) : (pVarText n).1.size ≤ 5:=by
  unfold pVarText
  split
  · rename_i h
    rw [str_len]
    exact varB_len5 (by omega)
  · exact Nat.zero_le _
theorem szI_bd (kind : Int) (x : S61) : 0 ≤ szI kind x ∧ szI kind x ≤ 18000:=by
  have h0:=pShort_size x.f0
  have h1:=pShort_size x.f1
  have h2:=pVar_size x.f2
  unfold szI
  split
  · omega
  · split <;> omega
theorem iItemSize (kind : Int) (x : S61) (h0 : x.f0.size ≤ 140737488351232) (h1 : x.f1.size ≤ 140737488351232) : Ev (fun k=>impl_ItemSize.f k kind x.f0 x.f1 x.f2) (szI kind x):=by
  unfold impl_ItemSize.f szI
  have b0:=pShort_size x.f0
  have b1:=pShort_size x.f1
  have b2:=pVar_size x.f2
  refine (iShortText x.f0 h0).bind ?_
  by_cases c1 : kind = 1
  · rw [if_pos c1]
    refine Ev.ifp c1 ((iShortText x.f1 h1).bind (Ev.same ?_))
    rw [wid (by omega) (by omega)]
  · rw [if_neg c1]
    refine Ev.ifn c1 ?_
    by_cases c2 : kind = 2
    · rw [if_pos c2]
      refine Ev.ifp c2 ((iVarText x.f2).bind (Ev.same ?_))
      rw [wid (by omega) (by omega)]
    · rw [if_neg c2]
      exact Ev.ifn c2 (Ev.now _)
/-! Sums -/
def U32 (s : Int) : Prop:=0 ≤ s ∧ s < 4294967296
theorem xor_u32 {a b : Int} (h : U32 a) (h' : U32 b) : U32 (Go.bits .xor .u32 a b):=by
  rw [Go.u32_xor a b h.1 h.2 h'.1 h'.2]
  have : a.toNat ^^^ b.toNat < 2 ^ 32:=Nat.xor_lt_two_pow (by have:=h.2;have:=h.1;omega) (by have:=h'.2;have:=h'.1;omega)
  exact ⟨by omega,by omega⟩
theorem and1_u32 {a : Int} (h : U32 a) : Go.bits .and .u32 a 1 = a % 2:=by
  rw [Go.u32_and a 1 h.1 h.2 (by decide) (by decide)]
  have : (1 : Int).toNat = 1:=rfl
  rw [this,Nat.and_one_is_mod]
  have:=h.1
  omega
def crcBit (s : Int) : Int:=if s % 2 = 1 then Go.bits .xor .u32 (s / 2) 3558460437 else s / 2
def crcN : Nat → Int → Int
  | 0,s=>s
  | n + 1,s=>crcN n (crcBit s)
def crcByte (s b : Int) : Int:=crcN 8 (Go.bits .xor .u32 s b)
def crcL (s : Int) (l : List Int) : Int:=l.foldl crcByte s
theorem crcBit_u32 {s : Int} (h : U32 s) : U32 (crcBit s):=by
  unfold crcBit
  have : U32 (s / 2):=⟨by have:=h.1;omega,by have:=h.2;omega⟩
  split
  · exact xor_u32 this ⟨by decide,by decide⟩
  · exact this
theorem crcN_u32 : ∀ (n : Nat) {s : Int},U32 s → U32 (crcN n s)
  | 0,_,h=>h
  | n + 1,_,h=>crcN_u32 n (crcBit_u32 h)
theorem crcByte_u32 {s b : Int} (h : U32 s) (hb : 0 ≤ b ∧ b < 256) : U32 (crcByte s b):=crcN_u32 8 (xor_u32 h ⟨hb.1,by omega⟩)
theorem crcL_cons (s b : Int) (l : List Int) : crcL s (b :: l) = crcL (crcByte s b) l:=by unfold crcL;rw [List.foldl_cons]
theorem u32_top : U32 4294967295:=⟨by decide,by decide⟩
def sumB (s : ByteArray) : Int:=crcL 4294967295 (bl s)
def four (n : Int) : List Int:=[(n / 16777216) % 256,(n / 65536) % 256,(n / 256) % 256,n % 256]
theorem four_byt (n : Int) : Byt (four n):=(((Byt.one ⟨by omega,by omega⟩).cons ⟨by omega,by omega⟩).cons ⟨by omega,by omega⟩).cons ⟨by omega,by omega⟩
def pSealed (s : ByteArray) : ByteArray × Bool:=if s.size > 8000 then (⟨#[]⟩,false) else (s ++ strOfNums (four (sumB s)),true)

theorem impl_sm_l1 (s : ByteArray) (z i : Int) {r : Int} : ∀ (n : Nat) (x : Int),n ≤ 8 → U32 x → Ev (fun k=>impl_SumMore.l0 k (crcN n x) s z (wrap64 (i + 1))) r → Ev (fun k=>impl_SumMore.l1 k x s z i (8 - (n : Int))) r
  | 0,x,_,_,h=>h.to fun k=>by simp only [impl_SumMore.l1];rw [if_neg (by omega)];rfl
  | n + 1,x,hn,hx,h=>by
    have h1:=hx.1
    have h2:=hx.2
    refine (impl_sm_l1 s z i n (crcBit x) (by omega) (crcBit_u32 hx) h).to fun k=>?_
    simp only [impl_SumMore.l1]
    rw [if_pos (by omega),and1_u32 hx,wid (by omega) (by omega),show (8 - ((n + 1 : Nat) : Int) + 1) = 8 - (n : Int) by omega]
    unfold crcBit
    by_cases hb : x % 2 = 1
    · rw [if_pos hb,if_pos hb]
    · rw [if_neg hb,if_neg hb]
theorem impl_sm_l0 (s : ByteArray) (hs : s.size ≤ 140737488351232) : ∀ (d i : Nat) (x : Int),i + d = s.size → U32 x → Ev (fun k=>impl_SumMore.l0 k x s (s.size : Int) (i : Int)) (crcL x ((bl s).drop i))
  | 0,i,x,hi,_=>by
    refine (Ev.now _).to fun k=>?_
    simp only [impl_SumMore.l0]
    rw [if_neg (by omega),bl_end (by omega)]
    rfl
  | d + 1,i,x,hi,hx=>by
    have hb:=bt_range s (i : Int)
    rw [bl_cons (by omega),crcL_cons]
    have hx' : U32 (Go.bits .xor .u32 x (bt s i)):=xor_u32 hx ⟨hb.1,by omega⟩
    have:=impl_sm_l0 s hs d (i + 1) (crcByte x (bt s i)) (by omega) (crcByte_u32 hx ⟨hb.1,by omega⟩)
    refine (impl_sm_l1 s _ i 8 _ (Nat.le_refl _) hx' (by rw [wid (by omega) (by omega)];exact this)).to fun k=>?_
    simp only [impl_SumMore.l0]
    rw [if_pos (by omega),if_pos (by omega),if_pos (by omega),show bt s (i : Int) % 4294967296 = bt s i by omega]
    rfl
theorem impl_sm (x : Int) (s : ByteArray) (hs : s.size ≤ 140737488351232) (hx : U32 x) : Ev (fun k=>impl_SumMore.f k x s) (crcL x (bl s)):=impl_sm_l0 s hs s.size 0 x (by omega) hx

theorem iSumOf (s : ByteArray) (hs : s.size ≤ 140737488351232) : Ev (fun k=>impl_SumOf.f k s) (sumB s):=by
  unfold impl_SumOf.f
  exact (impl_sm _ s hs u32_top).bind (Ev.now _)

theorem iSealed (s : ByteArray) (hs : s.size ≤ 140737488351232) : Ev (fun k=>impl_Sealed.f k s) (pSealed s):=by
  unfold impl_Sealed.f pSealed
  by_cases h : s.size > 8000
  · rw [if_pos h]
    simp only [if_pos (show (s.size : Int) > 8000 by omega)]
    exact Ev.now _
  · rw [if_neg h]
    simp only [if_neg (show ¬ (s.size : Int) > 8000 by omega)]
    refine (iSumOf s hs).bind ?_
    simp only [Option.bind_some]
    exact Ev.same (if_pos (by rw [str_len];show s.size + 4 ≤ _;omega))

theorem spec_sm_l1 (s : ByteArray) (i : Int) {r : Int} : ∀ (n : Nat) (x : Int),n ≤ 8 → U32 x → Ev (fun k=>spec_SumMore.l0 k (crcN n x) s (wrap64 (i + 1))) r → Ev (fun k=>spec_SumMore.l1 k x s i (8 - (n : Int))) r
  | 0,x,_,_,h=>h.to fun k=>by simp only [spec_SumMore.l1];rw [if_neg (by omega)];rfl
  | n + 1,x,hn,hx,h=>by
    have h1:=hx.1
    have h2:=hx.2
    refine (spec_sm_l1 s i n (crcBit x) (by omega) (crcBit_u32 hx) h).to fun k=>?_
    simp only [spec_SumMore.l1]
    rw [if_pos (by omega),tmod_pos h1,tdiv_pos h1,wid (by omega) (by omega),show (x / 2) % 4294967296 = x / 2 by omega,show (8 - ((n + 1 : Nat) : Int) + 1) = 8 - (n : Int) by omega]
    unfold crcBit
    by_cases hb : x % 2 = 1
    · rw [if_pos hb,if_pos hb]
    · rw [if_neg hb,if_neg hb]
theorem spec_sm_l0 (s : ByteArray) (hs : s.size ≤ 140737488351232) : ∀ (d i : Nat) (x : Int),i + d = s.size → U32 x → Ev (fun k=>spec_SumMore.l0 k x s (i : Int)) (crcL x ((bl s).drop i))
  | 0,i,x,hi,_=>by
    refine (Ev.now _).to fun k=>?_
    simp only [spec_SumMore.l0]
    rw [if_neg (by omega),bl_end (by omega)]
    rfl
  | d + 1,i,x,hi,hx=>by
    have hb:=bt_range s (i : Int)
    rw [bl_cons (by omega),crcL_cons]
    have hx' : U32 (Go.bits .xor .u32 x (bt s i)):=xor_u32 hx ⟨hb.1,by omega⟩
    have:=spec_sm_l0 s hs d (i + 1) (crcByte x (bt s i)) (by omega) (crcByte_u32 hx ⟨hb.1,by omega⟩)
    refine (spec_sm_l1 s i 8 _ (Nat.le_refl _) hx' (by rw [wid (by omega) (by omega)];exact this)).to fun k=>?_
    simp only [spec_SumMore.l0]
    rw [if_pos (by omega),if_pos (by omega),show bt s (i : Int) % 4294967296 = bt s i by omega]
    rfl
theorem spec_sm (x : Int) (s : ByteArray) (hs : s.size ≤ 140737488351232) (hx : U32 x) : Ev (fun k=>spec_SumMore.f k x s) (crcL x (bl s)):=spec_sm_l0 s hs s.size 0 x (by omega) hx

theorem sSumOf (s : ByteArray) (hs : s.size ≤ 140737488351232) : Ev (fun k=>spec_SumOf.f k s) (sumB s):=by
  unfold spec_SumOf.f
  exact (spec_sm _ s hs u32_top).bind (Ev.now _)

theorem sSealed (s : ByteArray) (hs : s.size ≤ 140737488351232) : Ev (fun k=>spec_Sealed.f k s) (pSealed s):=by
  unfold spec_Sealed.f pSealed
  by_cases h : s.size > 8000
  · rw [if_pos h]
    simp only [if_pos (show (s.size : Int) > 8000 by omega)]
    exact Ev.now _
  · rw [if_neg h]
    simp only [if_neg (show ¬ (s.size : Int) > 8000 by omega)]
    refine (sSumOf s hs).bind ?_
    simp only [spec_l02Four.f,Option.bind_some]
    exact Ev.same (if_pos (by rw [str_len];show s.size + 4 ≤ _;omega))

/-! A page's text -/
def shT (s : ByteArray) : ByteArray:=strOfNums (varB s.size) ++ s
def itG (kind : Int) (prev : Option ByteArray) (x : S61) : Bool :=
  decide (¬ x.f0.toList = []) && ((match prev with|none=>true|some p=>Op.bytesLess p.toList x.f0.toList) && (if kind = 1 then decide (x.f2 = 0) else decide (x.f1.toList = [] ∧ 0 ≤ x.f2 ∧ x.f2 ≤ 399)))
def txI (kind : Int) (x : S61) : ByteArray:=shT x.f0 ++ (if kind = 1 then shT x.f1 else strOfNums (varB x.f2.toNat))
def szT (kind : Int) (x : S61) : Int:=((shT x.f0).size : Int) + (if kind = 1 then ((shT x.f1).size : Int) else (pVarText x.f2).1.size)
def sumT (kind : Int) (l : List S61) : Int:=(l.map (szT kind)).sum
def noText : ByteArray × Bool:=(⟨#[]⟩,false)
def spL (kind : Int) : Option ByteArray → ByteArray → List S61 → ByteArray × Bool
  | _,acc,[]=>pSealed acc
  | prev,acc,x :: l=>if itG kind prev x = true then spL kind (some x.f0) (acc ++ txI kind x) l else noText
def imL (kind : Int) : Option ByteArray → ByteArray → Int → List S61 → ByteArray × Bool
  | _,acc,z,[]=>if z > 54 then noText else pSealed acc
  | prev,acc,z,x :: l=>if itG kind prev x = true ∧ x.f0.size ≤ 54 ∧ x.f1.size ≤ 54 then imL kind (some x.f0) (acc ++ txI kind x) (z + szT kind x) l else noText
theorem varB_lenB {n : Nat} (h : n ≤ 1048576) : (varB n).length ≤ 5:=varB_len5 (by omega)
theorem shT_size (s : ByteArray) : (shT s).size = (varB s.size).length + s.size:=by unfold shT;rw [ByteArray.size_append,str_len]
theorem shT_lo (s : ByteArray) : s.size + 1 ≤ (shT s).size:=by rw [shT_size];have:=varB_pos s.size;omega
theorem shT_hi {s : ByteArray} (h : s.size ≤ 1048576) : (shT s).size ≤ 1048581:=by rw [shT_size];have:=varB_lenB h;omega
theorem szT_lo (kind : Int) (x : S61) : (x.f0.size : Int) + 1 ≤ szT kind x:=by
  have:=shT_lo x.f0
  unfold szT
  split <;> omega
theorem szT_lo1 (x : S61) : (x.f1.size : Int) + 1 ≤ szT 1 x:=by
  have:=shT_lo x.f1
  unfold szT
  rw [if_pos rfl]
  omega
theorem szT_hi (kind : Int) (x : S61) (h0 : x.f0.size ≤ 1048576) (h1 : x.f1.size ≤ 1048576) : szT kind x ≤ 2097162:=by
  have a:=shT_hi h0
  have b:=shT_hi h1
  have c:=pVar_size x.f2
  unfold szT
  split <;> omega
theorem sumT_cons (kind : Int) (x : S61) (l : List S61) : sumT kind (x :: l) = szT kind x + sumT kind l:=by unfold sumT;simp
theorem sumT_lo (kind : Int) : ∀ l : List S61,(l.length : Int) ≤ sumT kind l
  | []=>by simp [sumT]
  | x :: l=>by
    have ih:=sumT_lo kind l
    have:=szT_lo kind x
    rw [sumT_cons,List.length_cons]
    omega
theorem tl_nil {s : ByteArray} (h : s.toList = []) : s.size = 0:=by
  rw [ByteArray.toList_eq] at h
  have : s.data.toList.length = 0:=by rw [h];rfl
  exact this
theorem itG_inner {kind : Int} {prev : Option ByteArray} {x : S61} (h : itG kind prev x = true) (hk : ¬ kind = 1) : x.f1.toList = [] ∧ 0 ≤ x.f2 ∧ x.f2 ≤ 399:=by
  unfold itG at h
  rw [if_neg hk] at h
  simp only [Bool.and_eq_true,decide_eq_true_eq] at h
  exact h.2.2
/-- Both ways to count come to the same. -/
theorem imL_eq (kind : Int) : ∀ (l : List S61) (prev : Option ByteArray) (acc : ByteArray) (z : Int),0 ≤ z → imL kind prev acc z l = if z + sumT kind l > 54 then noText else spL kind prev acc l
  | [],prev,acc,z,hz=>by unfold imL spL sumT;simp
  | x :: l,prev,acc,z,hz=>by
    have lo:=szT_lo kind x
    have hs:=sumT_lo kind l
    rw [imL,spL,sumT_cons]
    by_cases h : itG kind prev x = true ∧ x.f0.size ≤ 54 ∧ x.f1.size ≤ 54
    · rw [if_pos h,if_pos h.1,imL_eq kind l (some x.f0) (acc ++ txI kind x) (z + szT kind x) (by omega),Int.add_assoc]
    · rw [if_neg h]
      by_cases c : z + (szT kind x + sumT kind l) > 54
      · rw [if_pos c]
      · rw [if_neg c,if_neg]
        intro g
        apply h
        refine ⟨g,by omega,?_⟩
        by_cases hk : kind = 1
        · subst hk
          have:=szT_lo1 x
          omega
        · rw [tl_nil (itG_inner g hk).1]
          omega
def headP (kind : Int) (n : Nat) : ByteArray:=strOfNums [kind % 256] ++ strOfNums (varB n)
def pPage (kind : Int) (l : List S61) : ByteArray × Bool:=if (kind = 1 ∨ kind = 2) ∧ l ≠ [] ∧ ¬ sumT kind l > 54 then spL kind none (headP kind l.length) l else noText
def OkIt (x : S61) : Prop:=x.f0.size ≤ 1048576 ∧ x.f1.size ≤ 1048576
def prevAt (l : List S61) (i : Nat) : Option ByteArray:=if i = 0 then none else (l[i - 1]?).map fun x=>x.f0
theorem prevAt_succ {l : List S61} {i : Nat} (h : i < l.length) : prevAt l (i + 1) = some l[i].f0:=by
  unfold prevAt
  rw [if_neg (by omega),Nat.add_sub_cancel,List.getElem?_eq_getElem h]
  rfl
theorem txI_size (kind : Int) (x : S61) (h : OkIt x) (hk : kind = 1 ∨ 0 ≤ x.f2 ∧ x.f2 ≤ 399) : (txI kind x).size ≤ 2097162:=by
  have a:=shT_hi h.1
  have b:=shT_hi h.2
  unfold txI
  rw [ByteArray.size_append]
  split
  · omega
  · rename_i hn
    rw [str_len]
    have:=varB_lenB (n:=x.f2.toNat) (by omega)
    omega
theorem headP_size (kind : Int) {n : Nat} (h : n ≤ 1048576) : (headP kind n).size ≤ 6:=by
  unfold headP
  rw [ByteArray.size_append,str_len,str_len]
  have:=varB_lenB h
  simp only [List.length_singleton]
  omega

theorem pReadVar_some {s : ByteArray} {a n next : Int} (h : pReadVar s a = (n,next,true)) : ∃ c : Nat,0 ≤ a ∧ next = a + c ∧ (bl s).drop a.toNat = varB n.toNat ++ (bl s).drop next.toNat ∧ c = (varB n.toNat).length ∧ a + c ≤ s.size ∧ 0 ≤ n ∧ n ≤ 1000000000:=by
  unfold pReadVar at h
  by_cases h0 : 0 ≤ a ∧ a ≤ s.size
  · rw [if_pos h0] at h
    cases hr : rv ((bl s).drop a.toNat) with
    | none=>rw [hr] at h;simp [rvRes] at h
    | some p =>
      obtain ⟨m,c⟩:=p
      rw [hr] at h
      simp only [rvRes,Prod.mk.injEq,and_true] at h
      obtain ⟨rfl,rfl⟩:=h
      obtain ⟨rest,e,hc,h1,h2⟩:=rv_some ((bl_byt s).drop _) hr
      have hl:=congrArg List.length e
      rw [List.length_drop,List.length_append,bl_len] at hl
      refine ⟨c,h0.1,rfl,?_,hc,by omega,h1,h2⟩
      have hd : rest = (bl s).drop (a + c).toNat:=by
        have:=congrArg (List.drop c) e
        rw [List.drop_drop,hc,List.drop_left] at this
        rw [← this]
        congr 1
        omega
      rw [e,hd]
  · rw [if_neg h0] at h;simp at h
theorem pReadVar_cases (s : ByteArray) (a : Int) : pReadVar s a = (0,0,false) ∨ ∃ n next,pReadVar s a = (n,next,true):=by
  unfold pReadVar
  split
  · cases rv ((bl s).drop a.toNat) with
    | none=>exact .inl rfl
    | some p=>exact .inr ⟨_,_,rfl⟩
  · exact .inl rfl
def pReadShort (s : ByteArray) (a : Int) : ByteArray × Int × Bool :=
  if (pReadVar s a).2.2 = true ∧ (pReadVar s a).1 ≤ 8000 ∧ (pReadVar s a).1 ≤ s.size - (pReadVar s a).2.1 then (s.extract (pReadVar s a).2.1.toNat ((pReadVar s a).2.1 + (pReadVar s a).1).toNat,(pReadVar s a).2.1 + (pReadVar s a).1,true) else (⟨#[]⟩,0,false)

def cutB (s : ByteArray) : ByteArray:=s.extract 0 (s.size - 4)
def pUnsealed (s : ByteArray) : ByteArray × Bool:=if 4 ≤ s.size ∧ s.size - 4 ≤ 8000 ∧ (bl s).drop (s.size - 4) = four (sumB (cutB s)) then (cutB s,true) else (⟨#[]⟩,false)
theorem cutB_bl (s : ByteArray) : bl (cutB s) = (bl s).take (s.size - 4):=by unfold cutB;rw [bl_ext,List.drop_zero]
theorem cutB_size (s : ByteArray) : (cutB s).size = s.size - 4:=by rw [bl_size,cutB_bl,List.length_take,bl_len];omega

/-! Roots -/
def two (n : Int) : List Int:=[(n / 256) % 256,n % 256]
theorem bt_nat (s : ByteArray) (i : Nat) : bt s (i : Int) = (bl s).getD i 0:=by rw [bt_bl,Int.toNat_natCast]
/-- What is sealed is unsealed. -/
theorem unseal_seal (x : ByteArray) (h : x.size ≤ 8000) : pUnsealed (x ++ strOfNums (four (sumB x))) = (x,true):=by
  have hs : (x ++ strOfNums (four (sumB x))).size = x.size + 4:=by rw [ByteArray.size_append,str_len];rfl
  have hb : bl (x ++ strOfNums (four (sumB x))) = bl x ++ four (sumB x):=by rw [bl_app,bl_str (four_byt _)]
  have hc : cutB (x ++ strOfNums (four (sumB x))) = x:=by
    apply bl_inj
    rw [cutB_bl,hs,hb,Nat.add_sub_cancel,← bl_len x,List.take_left]
  unfold pUnsealed
  rw [hc,if_pos]
  refine ⟨by omega,by omega,?_⟩
  rw [hb,hs,Nat.add_sub_cancel,← bl_len x,List.drop_left]
/-! Pages read back -/
abbrev It:=S61
def noB : ByteArray:=⟨#[]⟩
def spG (kind : Int) (b : ByteArray) : Nat → Int → Bool → List It → Bool × List It
  | 0,_,r,acc=>(r,acc)
  | d + 1,a,r,acc=>if r = true then (if (pReadShort b a).2.2 = true then (if kind = 1 then spG kind b d (pReadShort b (pReadShort b a).2.1).2.1 (pReadShort b (pReadShort b a).2.1).2.2 (acc ++ [⟨(pReadShort b a).1,(pReadShort b (pReadShort b a).2.1).1,0⟩]) else spG kind b d (pReadVar b (pReadShort b a).2.1).2.1 (pReadVar b (pReadShort b a).2.1).2.2 (acc ++ [⟨(pReadShort b a).1,noB,(pReadVar b (pReadShort b a).2.1).1⟩])) else (false,acc ++ [⟨(pReadShort b a).1,noB,0⟩])) else (false,acc)
def rS (b : ByteArray) (a : Int) (bad : Bool) : ByteArray × Int × Bool:=if bad = true then (noB,a,true) else if (pReadShort b a).2.2 = true then ((pReadShort b a).1,(pReadShort b a).2.1,false) else (noB,a,true)
def rV (b : ByteArray) (a : Int) (bad : Bool) : Int × Int × Bool:=if bad = true then (0,a,true) else if (pReadVar b a).2.2 = true then ((pReadVar b a).1,(pReadVar b a).2.1,false) else (0,a,true)
def imG (kind : Int) (b : ByteArray) : Nat → Int → Bool → List It → Int × Bool × List It
  | 0,a,bad,acc=>(a,bad,acc)
  | d + 1,a,bad,acc=>if bad = true then (a,true,acc) else if kind = 2 then imG kind b d (rV b (rS b a false).2.1 (rS b a false).2.2).2.1 (rV b (rS b a false).2.1 (rS b a false).2.2).2.2 (acc ++ [⟨(rS b a false).1,noB,(rV b (rS b a false).2.1 (rS b a false).2.2).1⟩]) else imG kind b d (rS b (rS b a false).2.1 (rS b a false).2.2).2.1 (rS b (rS b a false).2.1 (rS b a false).2.2).2.2 (acc ++ [⟨(rS b a false).1,(rS b (rS b a false).2.1 (rS b a false).2.2).1,0⟩])
def noPage : Int × List It × Bool:=(0,[],false)
def spEnd (s : ByteArray) (kind : Int) (R : Bool × List It) : Int × List It × Bool:=if R.1 = true ∧ (pPage kind R.2).2 = true ∧ (pPage kind R.2).1 = s then (kind,R.2,true) else noPage
def imEnd (s : ByteArray) (kind : Int) (b : ByteArray) (R : Int × Bool × List It) : Int × List It × Bool:=if (R.2.1 = false ∧ R.1 = (b.size : Int)) ∧ (pPage kind R.2.2).2 = true ∧ (pPage kind R.2.2).1 = s then (kind,R.2.2,true) else noPage
def pReadPage (s : ByteArray) : Int × List It × Bool:=if (pUnsealed s).2 = true ∧ 2 ≤ (pUnsealed s).1.size then spEnd s (bt (pUnsealed s).1 0) (spG (bt (pUnsealed s).1 0) (pUnsealed s).1 (pReadVar (pUnsealed s).1 1).1.toNat (pReadVar (pUnsealed s).1 1).2.1 (pReadVar (pUnsealed s).1 1).2.2 []) else noPage
def rO (b : ByteArray) : Int × Int × Bool:=if 1 ≤ b.size then (bt b 0,1,false) else (0,0,true)
def iReadP (s : ByteArray) : Int × List It × Bool:=if (pUnsealed s).2 = true then imEnd s (rO (pUnsealed s).1).1 (pUnsealed s).1 (imG (rO (pUnsealed s).1).1 (pUnsealed s).1 (rV (pUnsealed s).1 (rO (pUnsealed s).1).2.1 (rO (pUnsealed s).1).2.2).1.toNat (rV (pUnsealed s).1 (rO (pUnsealed s).1).2.1 (rO (pUnsealed s).1).2.2).2.1 (rV (pUnsealed s).1 (rO (pUnsealed s).1).2.1 (rO (pUnsealed s).1).2.2).2.2 []) else noPage
theorem spEnd_y {s : ByteArray} {kind : Int} {r : Bool} {acc : List It} (h : r = true ∧ (pPage kind acc).2 = true ∧ (pPage kind acc).1 = s) : spEnd s kind (r,acc) = (kind,acc,true):=if_pos h
theorem spEnd_n {s : ByteArray} {kind : Int} {r : Bool} {acc : List It} (h : ¬ (r = true ∧ (pPage kind acc).2 = true ∧ (pPage kind acc).1 = s)) : spEnd s kind (r,acc) = noPage:=if_neg h
theorem imEnd_y {s b : ByteArray} {kind a : Int} {r : Bool} {acc : List It} (h : (r = false ∧ a = (b.size : Int)) ∧ (pPage kind acc).2 = true ∧ (pPage kind acc).1 = s) : imEnd s kind b (a,r,acc) = (kind,acc,true):=if_pos h
theorem imEnd_n {s b : ByteArray} {kind a : Int} {r : Bool} {acc : List It} (h : ¬ ((r = false ∧ a = (b.size : Int)) ∧ (pPage kind acc).2 = true ∧ (pPage kind acc).1 = s)) : imEnd s kind b (a,r,acc) = noPage:=if_neg h
theorem rShort_bd {b : ByteArray} {a : Int} (h : (pReadShort b a).2.2 = true) : 0 ≤ a ∧ a + 1 ≤ (pReadShort b a).2.1 ∧ (pReadShort b a).2.1 ≤ b.size ∧ (pReadShort b a).1.size ≤ 8000:=by
  unfold pReadShort at h ⊢
  split at h
  · rename_i hc
    rw [if_pos hc]
    obtain ⟨h1,h2,h3⟩:=hc
    obtain ⟨c,p0,p1,_,p3,p4,p5,p6⟩:=pReadVar_some (s:=b) (a:=a) (n:=(pReadVar b a).1) (next:=(pReadVar b a).2.1) (by rw [← h1])
    have hv:=varB_pos (pReadVar b a).1.toNat
    simp only
    refine ⟨p0,by omega,by omega,?_⟩
    rw [ByteArray.size_extract]
    omega
  · simp at h
theorem rShort_no {b : ByteArray} {a : Int} (h : ¬ (pReadShort b a).2.2 = true) : pReadShort b a = (noB,0,false):=by
  unfold pReadShort at h ⊢
  split at h
  · simp at h
  · rename_i hc
    rw [if_neg hc];rfl
theorem rVar_bd {b : ByteArray} {a : Int} (h : (pReadVar b a).2.2 = true) : 0 ≤ a ∧ a + 1 ≤ (pReadVar b a).2.1 ∧ (pReadVar b a).2.1 ≤ b.size ∧ 0 ≤ (pReadVar b a).1 ∧ (pReadVar b a).1 ≤ 1000000000:=by
  obtain ⟨c,p0,p1,_,p3,p4,p5,p6⟩:=pReadVar_some (s:=b) (a:=a) (n:=(pReadVar b a).1) (next:=(pReadVar b a).2.1) (by rw [← h])
  have hv:=varB_pos (pReadVar b a).1.toNat
  exact ⟨p0,by omega,by omega,p5,p6⟩
theorem rVar_no {b : ByteArray} {a : Int} (h : ¬ (pReadVar b a).2.2 = true) : pReadVar b a = (0,0,false):=by
  rcases pReadVar_cases b a with e|⟨n,x,e⟩
  · exact e
  · rw [e] at h;simp at h
/-! What was written is read. -/
theorem rv_at {b : ByteArray} {p n : Nat} {rest : List Int} (h : (bl b).drop p = varB n ++ rest) (hn : n ≤ 1000000000) : pReadVar b (p : Int) = ((n : Int),((p + (varB n).length : Nat) : Int),true) ∧ p + (varB n).length ≤ b.size ∧ (bl b).drop (p + (varB n).length) = rest:=by
  have hl:=congrArg List.length h
  rw [List.length_drop,List.length_append,bl_len] at hl
  have hv:=varB_pos n
  have hd : (bl b).drop (p + (varB n).length) = rest:=by
    have:=congrArg (List.drop (varB n).length) h
    rw [List.drop_drop,List.drop_left] at this
    exact this
  refine ⟨?_,by omega,hd⟩
  unfold pReadVar
  rw [if_pos (by omega),Int.toNat_natCast,h,rv_var n hn rest]
  rfl
theorem shT_bl (s : ByteArray) : bl (shT s) = varB s.size ++ bl s:=by unfold shT;rw [bl_app,bl_str (varB_byt _)]
theorem rs_at {b s : ByteArray} {p : Nat} {rest : List Int} (h : (bl b).drop p = bl (shT s) ++ rest) (hs : s.size ≤ 8000) : pReadShort b (p : Int) = (s,((p + (shT s).size : Nat) : Int),true) ∧ p + (shT s).size ≤ b.size ∧ (bl b).drop (p + (shT s).size) = rest:=by
  rw [shT_bl,List.append_assoc] at h
  obtain ⟨h1,h2,h3⟩:=rv_at h (by omega)
  have hl:=congrArg List.length h3
  rw [List.length_drop,List.length_append,bl_len,bl_len] at hl
  have hz:=shT_size s
  have hd : (bl b).drop (p + (shT s).size) = rest:=by
    have:=congrArg (List.drop s.size) h3
    rw [List.drop_drop,← bl_len s,List.drop_left,bl_len] at this
    rw [hz,← Nat.add_assoc]
    exact this
  refine ⟨?_,by omega,hd⟩
  unfold pReadShort
  rw [h1]
  simp only
  rw [if_pos ⟨trivial,by omega,by omega⟩]
  have e1 : (((p + (varB s.size).length : Nat) : Int) + (s.size : Int)) = ((p + (shT s).size : Nat) : Int):=by omega
  rw [e1,Int.toNat_natCast,Int.toNat_natCast]
  have e2 : b.extract (p + (varB s.size).length) (p + (shT s).size) = s:=by
    apply bl_inj
    rw [bl_ext,List.drop_take,h3,show p + (shT s).size - (p + (varB s.size).length) = s.size by omega,← bl_len s,List.take_left]
  rw [e2]
def txsI (kind : Int) (l : List It) : List Int:=(l.map fun x=>bl (txI kind x)).flatten
theorem txsI_cons (kind : Int) (x : It) (l : List It) : txsI kind (x :: l) = bl (txI kind x) ++ txsI kind l:=by unfold txsI;rw [List.map_cons,List.flatten_cons]
/-- An item that a page may have. -/
def gI (kind : Int) (x : It) : Prop:=x.f0.size ≤ 8000 ∧ (kind = 1 ∧ x.f1.size ≤ 8000 ∧ x.f2 = 0 ∨ kind = 2 ∧ x.f1 = noB ∧ 0 ≤ x.f2 ∧ x.f2 ≤ 399)
theorem txI_1 (x : It) : bl (txI 1 x) = bl (shT x.f0) ++ bl (shT x.f1):=by unfold txI;rw [if_pos rfl,bl_app]
theorem txI_2 (x : It) : bl (txI 2 x) = bl (shT x.f0) ++ varB x.f2.toNat:=by unfold txI;rw [if_neg (by decide),bl_app,bl_str (varB_byt _)]
theorem spG_back (kind : Int) (b : ByteArray) : ∀ (l : List It) (p : Nat) (acc : List It),(bl b).drop p = txsI kind l → (∀ x ∈ l,gI kind x) → spG kind b l.length (p : Int) true acc = (true,acc ++ l)
  | [],p,acc,_,_=>by rw [List.append_nil];rfl
  | x :: l,p,acc,h,hg=>by
    obtain ⟨h0,hk⟩:=hg x (List.mem_cons_self ..)
    have hg':=fun y hy=>hg y (List.mem_cons_of_mem _ hy)
    rw [txsI_cons] at h
    rw [List.length_cons,spG,if_pos rfl]
    rcases hk with ⟨rfl,h1,h2⟩|⟨rfl,h1,h2,h3⟩
    · rw [txI_1,List.append_assoc] at h
      obtain ⟨a1,a2,a3⟩:=rs_at h h0
      obtain ⟨b1,b2,b3⟩:=rs_at a3 h1
      rw [a1]
      simp only [if_true]
      rw [b1]
      simp only
      rw [spG_back 1 b l _ (acc ++ [(⟨x.f0,x.f1,0⟩ : It)]) b3 hg',List.append_assoc,List.singleton_append,← h2]
    · rw [txI_2,List.append_assoc] at h
      obtain ⟨a1,a2,a3⟩:=rs_at h h0
      obtain ⟨b1,b2,b3⟩:=rv_at a3 (by omega)
      rw [a1]
      simp only [if_true]
      rw [if_neg (by decide),b1]
      simp only
      rw [Int.toNat_of_nonneg h2,spG_back 2 b l _ (acc ++ [(⟨x.f0,noB,x.f2⟩ : It)]) b3 hg',List.append_assoc,List.singleton_append,← h1]
theorem rS_ok {b s : ByteArray} {a c : Int} (h : pReadShort b a = (s,c,true)) : rS b a false = (s,c,false):=by unfold rS;rw [h];simp
theorem rV_ok {b : ByteArray} {a n c : Int} (h : pReadVar b a = (n,c,true)) : rV b a false = (n,c,false):=by unfold rV;rw [h];simp
theorem imG_back (kind : Int) (b : ByteArray) : ∀ (l : List It) (p : Nat) (acc : List It),p ≤ b.size → (bl b).drop p = txsI kind l → (∀ x ∈ l,gI kind x) → imG kind b l.length (p : Int) false acc = ((b.size : Int),false,acc ++ l)
  | [],p,acc,hp,h,_=>by
    have hl:=congrArg List.length h
    rw [List.length_drop,bl_len] at hl
    have e : txsI kind [] = []:=rfl
    rw [e,List.length_nil] at hl
    rw [List.append_nil,List.length_nil,imG]
    congr 1
    omega
  | x :: l,p,acc,hp,h,hg=>by
    obtain ⟨h0,hk⟩:=hg x (List.mem_cons_self ..)
    have hg':=fun y hy=>hg y (List.mem_cons_of_mem _ hy)
    rw [txsI_cons] at h
    rw [List.length_cons,imG,if_neg (by decide)]
    rcases hk with ⟨rfl,h1,h2⟩|⟨rfl,h1,h2,h3⟩
    · rw [txI_1,List.append_assoc] at h
      obtain ⟨a1,a2,a3⟩:=rs_at h h0
      obtain ⟨b1,b2,b3⟩:=rs_at a3 h1
      rw [if_neg (by decide),rS_ok a1]
      simp only
      rw [rS_ok b1]
      simp only
      rw [imG_back 1 b l _ (acc ++ [(⟨x.f0,x.f1,0⟩ : It)]) b2 b3 hg',List.append_assoc,List.singleton_append,← h2]
    · rw [txI_2,List.append_assoc] at h
      obtain ⟨a1,a2,a3⟩:=rs_at h h0
      obtain ⟨b1,b2,b3⟩:=rv_at a3 (by omega)
      rw [if_pos rfl,rS_ok a1]
      simp only
      rw [rV_ok b1]
      simp only
      rw [Int.toNat_of_nonneg h2,imG_back 2 b l _ (acc ++ [(⟨x.f0,noB,x.f2⟩ : It)]) b2 b3 hg',List.append_assoc,List.singleton_append,← h1]
theorem noB_of {s : ByteArray} (h : s.toList = []) : s = noB:=by
  apply bl_inj
  have : (bl s).length = 0:=by rw [bl_len];exact tl_nil h
  rw [List.length_eq_zero_iff.1 this];rfl
theorem spL_true {kind : Int} {s : ByteArray} : ∀ (l : List It) (prev : Option ByteArray) (acc : ByteArray),spL kind prev acc l = (s,true) → ∃ B,pSealed B = (s,true) ∧ bl B = bl acc ++ txsI kind l ∧ ∀ x ∈ l,(if kind = 1 then x.f2 = 0 else x.f1.toList = [] ∧ 0 ≤ x.f2 ∧ x.f2 ≤ 399)
  | [],prev,acc,h=>by
    rw [spL] at h
    exact ⟨acc,h,by rw [show txsI kind [] = [] from rfl,List.append_nil],fun x hx=>by simp at hx⟩
  | x :: l,prev,acc,h=>by
    rw [spL] at h
    by_cases g : itG kind prev x = true
    · rw [if_pos g] at h
      obtain ⟨B,h1,h2,h3⟩:=spL_true l _ _ h
      refine ⟨B,h1,by rw [h2,txsI_cons,bl_app,List.append_assoc],fun y hy=>?_⟩
      rcases List.mem_cons.1 hy with rfl|hy
      · unfold itG at g
        by_cases c : kind = 1
        · rw [if_pos c] at g ⊢
          simp only [Bool.and_eq_true,decide_eq_true_eq] at g
          exact g.2.2
        · rw [if_neg c] at g ⊢
          simp only [Bool.and_eq_true,decide_eq_true_eq] at g
          exact g.2.2
      · exact h3 y hy
    · rw [if_neg g] at h
      simp [noText] at h
theorem szT_mem (kind : Int) : ∀ (l : List It) (x : It),x ∈ l → szT kind x ≤ sumT kind l
  | [],x,h=>by simp at h
  | y :: l,x,h=>by
    rw [sumT_cons]
    have hl:=sumT_lo kind l
    have hy:=szT_lo kind y
    rcases List.mem_cons.1 h with rfl|h
    · omega
    · have:=szT_mem kind l x h
      omega
theorem pSealed_true {B s : ByteArray} (h : pSealed B = (s,true)) : s = B ++ strOfNums (four (sumB B)) ∧ B.size ≤ 8000:=by
  unfold pSealed at h
  split at h
  · simp at h
  · simp only [Prod.mk.injEq,and_true] at h
    exact ⟨h.symm,by omega⟩
/-- What a right page's text is made of. -/
theorem pPage_true {kind : Int} {l : List It} {s : ByteArray} (h : pPage kind l = (s,true)) : (kind = 1 ∨ kind = 2) ∧ l ≠ [] ∧ sumT kind l ≤ 54 ∧ (∀ x ∈ l,gI kind x) ∧ ∃ B,pUnsealed s = (B,true) ∧ s = B ++ strOfNums (four (sumB B)) ∧ bl B = kind :: (varB l.length ++ txsI kind l):=by
  unfold pPage at h
  split at h
  · rename_i hc
    obtain ⟨hk,h0,hs⟩:=hc
    obtain ⟨B,h1,h2,h3⟩:=spL_true l _ _ h
    obtain ⟨h4,h5⟩:=pSealed_true h1
    refine ⟨hk,h0,by omega,fun x hx=>?_,B,by rw [h4];exact unseal_seal B h5,h4,?_⟩
    · have hz:=szT_mem kind l x hx
      have lo:=szT_lo kind x
      have hg:=h3 x hx
      refine ⟨by omega,?_⟩
      rcases hk with rfl|rfl
      · rw [if_pos rfl] at hg
        have:=szT_lo1 x
        exact .inl ⟨rfl,by omega,hg⟩
      · rw [if_neg (by decide)] at hg
        exact .inr ⟨rfl,noB_of hg.1,hg.2⟩
    · rw [h2]
      unfold headP
      rw [bl_app,bl_str (varB_byt _),bl_str (Byt.one ⟨by omega,by omega⟩)]
      have : kind % 256 = kind:=by omega
      rw [this]
      simp
  · simp [noText] at h
theorem sumT_len54 {kind : Int} {l : List It} (h : sumT kind l ≤ 54) : l.length ≤ 54:=by have:=sumT_lo kind l;omega
theorem bt0_of {B : ByteArray} {v : Int} {r : List Int} (h : bl B = v :: r) : bt B 0 = v:=by have:=bt_nat B 0;rw [h] at this;exact this
theorem body_facts {kind : Int} {l : List It} {s B : ByteArray} (h : sumT kind l ≤ 54) (hB : bl B = kind :: (varB l.length ++ txsI kind l)) : 2 ≤ B.size ∧ pReadVar B 1 = ((l.length : Int),((1 + (varB l.length).length : Nat) : Int),true) ∧ 1 + (varB l.length).length ≤ B.size ∧ (bl B).drop (1 + (varB l.length).length) = txsI kind l:=by
  have hl:=sumT_len54 h
  have hd : (bl B).drop 1 = varB l.length ++ txsI kind l:=by rw [hB];rfl
  obtain ⟨h1,h2,h3⟩:=rv_at hd (by omega)
  have:=varB_pos l.length
  exact ⟨by omega,h1,h2,h3⟩
theorem pReadPage_of {kind : Int} {l : List It} {s : ByteArray} (h : pPage kind l = (s,true)) : pReadPage s = (kind,l,true):=by
  obtain ⟨hk,_,h54,hg,B,hU,_,hB⟩:=pPage_true h
  obtain ⟨h2,hv,_,hd⟩:=body_facts (s:=s) h54 hB
  unfold pReadPage
  rw [hU]
  simp only
  rw [if_pos ⟨trivial,h2⟩,bt0_of hB,hv]
  simp only
  rw [Int.toNat_natCast,spG_back kind B l _ [] hd hg,List.nil_append]
  unfold spEnd
  rw [h]
  simp
theorem iReadP_of {kind : Int} {l : List It} {s : ByteArray} (h : pPage kind l = (s,true)) : iReadP s = (kind,l,true):=by
  obtain ⟨hk,_,h54,hg,B,hU,_,hB⟩:=pPage_true h
  obtain ⟨h2,hv,hle,hd⟩:=body_facts (s:=s) h54 hB
  have ho : rO B = (kind,1,false):=by unfold rO;rw [if_pos (by omega),bt0_of hB]
  unfold iReadP
  rw [hU]
  simp only
  rw [if_pos trivial,ho]
  simp only
  rw [rV_ok hv]
  simp only
  rw [Int.toNat_natCast,imG_back kind B l _ [] hle hd hg,List.nil_append]
  unfold imEnd
  rw [h]
  simp
theorem pair_true {x : ByteArray × Bool} {s : ByteArray} (h : x.2 = true) (h' : x.1 = s) : x = (s,true):=by cases x;simp_all
theorem readP_eq (s : ByteArray) : iReadP s = pReadPage s:=by
  by_cases h : ∃ (kind : Int) (l : List It),pPage kind l = (s,true)
  · obtain ⟨kind,l,h⟩:=h
    rw [iReadP_of h,pReadPage_of h]
  · have h1 : pReadPage s = noPage:=by
      unfold pReadPage
      split
      · unfold spEnd
        split
        · rename_i hc
          exact absurd ⟨_,_,pair_true hc.2.1 hc.2.2⟩ h
        · rfl
      · rfl
    have h2 : iReadP s = noPage:=by
      unfold iReadP
      split
      · unfold imEnd
        split
        · rename_i hc
          exact absurd ⟨_,_,pair_true hc.2.1 hc.2.2⟩ h
        · rfl
      · rfl
    rw [h1,h2]
theorem snocOk {acc : List It} (h : ∀ x ∈ acc,OkIt x) {x : It} (hx : OkIt x) : ∀ y ∈ acc ++ [x],OkIt y:=fun y hy=>by
  rcases List.mem_append.1 hy with hy|hy
  · exact h y hy
  · rw [List.mem_singleton.1 hy];exact hx
theorem unsealed_size {s : ByteArray} : (pUnsealed s).1.size ≤ 8000:=by
  unfold pUnsealed
  split
  · rename_i h
    have:=cutB_size s
    simp only
    omega
  · exact Nat.zero_le _

theorem sShT (s : ByteArray) (h : s.size ≤ 1048576) : Ev (fun k=>spec_l04Short.f k s) (shT s):=by
  unfold spec_l04Short.f
  refine (l01Var_ev s.size (by omega)).bind ?_
  have hl:=varB_lenB (n:=s.size) (by omega)
  exact Ev.ifp (by rw [str_len];omega) (Ev.same rfl)
theorem sItemSizeT (kind : Int) (x : S61) (hk : kind = 1 ∨ kind = 2) (h : OkIt x) : Ev (fun k=>spec_ItemSize.f k kind x.f0 x.f1 x.f2) (szT kind x):=by
  have b0:=shT_hi h.1
  have b1:=shT_hi h.2
  have b2:=pVar_size x.f2
  unfold spec_ItemSize.f szT
  rcases hk with rfl|rfl
  · refine Ev.ifp rfl ((sShT x.f0 h.1).bind ((sShT x.f1 h.2).bind (Ev.same ?_)))
    rw [wid (by omega) (by omega),if_pos rfl]
  · refine Ev.ifn (by decide) (Ev.ifp rfl ((sVarText x.f2).bind ?_))
    rw [if_neg (by decide)]
    by_cases hv : 0 ≤ x.f2 ∧ x.f2 ≤ 1000000000
    · have e : pVarText x.f2 = (strOfNums (varB x.f2.toNat),true):=by unfold pVarText;rw [if_pos hv]
      rw [e] at b2 ⊢
      refine Ev.ifp rfl ((sShT x.f0 h.1).bind (Ev.same ?_))
      simp only at b2 ⊢
      rw [wid (by omega) (by omega)]
    · have e : pVarText x.f2 = (⟨#[]⟩,false):=by unfold pVarText;rw [if_neg hv]
      rw [e]
      refine Ev.ifn (by decide) ((sShT x.f0 h.1).bind (Ev.same ?_))
      have : (⟨#[]⟩ : ByteArray).size = 0:=rfl
      simp only [this]
      simp
theorem sSumT_go (kind : Int) (hk : kind = 1 ∨ kind = 2) (L : List S61) (hL : L.length ≤ 1048576) (hO : ∀ x ∈ L,OkIt x) : ∀ (d i : Nat) (z : Int),i + d = L.length → 0 ≤ z → z ≤ 2097162 * i → Ev (fun k=>spec_l04Sum.l0 k kind L z (i : Int)) (z + sumT kind (L.drop i))
  | 0,i,z,hi,h0,h1=>by
    rw [List.drop_of_length_le (by omega)]
    exact (Ev.now _).to fun k=>by simp only [spec_l04Sum.l0];rw [if_neg (by omega)];simp [sumT]
  | d + 1,i,z,hi,h0,h1=>by
    have hlt : i < L.length:=by omega
    have hx:=hO L[i] (List.getElem_mem hlt)
    have lo:=szT_lo kind L[i]
    have hi':=szT_hi kind L[i] hx.1 hx.2
    have ih:=sSumT_go kind hk L hL hO d (i + 1) (z + szT kind L[i]) (by omega) (by omega) (by omega)
    have w : qn (wrap64 ((i : Int) + 1) = ((i + 1 : Nat) : Int)):=⟨by rw [wid (by omega) (by omega)];rfl⟩
    have wz : qn (wrap64 (z + szT kind L[i]) = z + szT kind L[i]):=⟨wid (by omega) (by omega)⟩
    rw [List.drop_eq_getElem_cons hlt,sumT_cons,← Int.add_assoc]
    refine Ev.to (f:=fun k=>(spec_ItemSize.f k kind L[i].f0 L[i].f1 L[i].f2).bind fun t=>spec_l04Sum.l0 k kind L (wrap64 (z + t)) ((i + 1 : Nat) : Int)) ((sItemSizeT kind L[i] hk hx).bind ?_) fun k=>?_
    · rw [wz.out];exact ih
    · simp only [spec_l04Sum.l0]
      rw [if_pos (by omega),if_pos (by omega),ri_Item hlt,w.out]
theorem sSumT (kind : Int) (hk : kind = 1 ∨ kind = 2) (L : List S61) (hL : L.length ≤ 1048576) (hO : ∀ x ∈ L,OkIt x) : Ev (fun k=>spec_l04Sum.f k kind L) (sumT kind L):=by
  unfold spec_l04Sum.f
  have:=sSumT_go kind hk L hL hO L.length 0 0 (by omega) (by omega) (by omega)
  rw [List.drop_zero,Int.zero_add] at this
  exact this
theorem sPage_t (kind : Int) (L : List S61) (acc : ByteArray) (i : Int) (a b : ByteArray) (c : Int) : Ev (fun k=>spec_PageText.j2 k acc i true kind L a b c) noText:=(Ev.now _).to fun k=>by simp only [spec_PageText.j2,if_true];rfl
theorem sPage_l1 (L : List S61) (hL : L.length ≤ 1048576) (acc : ByteArray) (i : Nat) (hlt : i < L.length) (k : Nat) : spec_PageText.l0 (k + 1) acc (i : Int) 1 L = spec_PageText.j2 k acc (i : Int) (!itG 1 (prevAt L i) L[i]) 1 L L[i].f0 L[i].f1 L[i].f2:=by
  simp only [spec_PageText.l0]
  rw [if_pos (by omega),if_pos (by omega),ri_Item hlt]
  by_cases e : L[i].f0.toList = []
  · rw [if_pos e,show itG 1 (prevAt L i) L[i] = false from by unfold itG;simp [e]];rfl
  · rw [if_neg e]
    by_cases hi : i = 0
    · rw [if_neg (by omega)]
      have hp : prevAt L i = none:=by unfold prevAt;rw [if_pos hi]
      rw [if_pos trivial]
      by_cases g : L[i].f2 = 0
      · rw [if_pos g,if_neg (by decide),show itG 1 (prevAt L i) L[i] = true from by unfold itG;rw [hp];simp [e,g]];rfl
      · rw [if_neg g,show itG 1 (prevAt L i) L[i] = false from by unfold itG;rw [hp];simp [g]];rfl
    · have hj : i - 1 < L.length:=by omega
      have w : wrap64 ((i : Int) - 1) = ((i - 1 : Nat) : Int):=by rw [wid (by omega) (by omega)];omega
      have hp : prevAt L i = some L[i - 1].f0:=by unfold prevAt;rw [if_neg hi,List.getElem?_eq_getElem hj];rfl
      rw [if_pos (by omega),w];clear w
      rw [if_pos (by omega),if_pos (by omega),ri_Item hj]
      by_cases b : Op.bytesLess L[i - 1].f0.toList L[i].f0.toList = true
      · rw [if_pos b,if_pos trivial]
        by_cases g : L[i].f2 = 0
        · rw [if_pos g,if_neg (by decide),show itG 1 (prevAt L i) L[i] = true from by unfold itG;rw [hp];simp [e,g,b]];rfl
        · rw [if_neg g,show itG 1 (prevAt L i) L[i] = false from by unfold itG;rw [hp];simp [g]];rfl
      · rw [if_neg b,show itG 1 (prevAt L i) L[i] = false from by unfold itG;rw [hp];simp [b]];rfl
theorem sPage_in (L : List S61) (acc : ByteArray) (i : Int) (x : S61) (k : Nat) : (if x.f1.toList = ([] : List UInt8) then ((spec_l01In.f x.f2 0 399).bind fun t=>(spec_PageText.j2 k acc i (!t) 2 L x.f0 x.f1 x.f2)) else (spec_PageText.j2 k acc i true 2 L x.f0 x.f1 x.f2)) = spec_PageText.j2 k acc i (!decide (x.f1.toList = [] ∧ 0 ≤ x.f2 ∧ x.f2 ≤ 399)) 2 L x.f0 x.f1 x.f2:=by
  by_cases e : x.f1.toList = []
  · rw [if_pos e,s_in];simp [e]
  · rw [if_neg e];simp [e]
theorem sPage_l2 (L : List S61) (hL : L.length ≤ 1048576) (acc : ByteArray) (i : Nat) (hlt : i < L.length) (k : Nat) : spec_PageText.l0 (k + 1) acc (i : Int) 2 L = spec_PageText.j2 k acc (i : Int) (!itG 2 (prevAt L i) L[i]) 2 L L[i].f0 L[i].f1 L[i].f2:=by
  simp only [spec_PageText.l0]
  rw [if_pos (by omega),if_pos (by omega),ri_Item hlt]
  by_cases e : L[i].f0.toList = []
  · rw [if_pos e,show itG 2 (prevAt L i) L[i] = false from by unfold itG;simp [e]];rfl
  · rw [if_neg e]
    by_cases hi : i = 0
    · rw [if_neg (by omega)]
      have hp : prevAt L i = none:=by unfold prevAt;rw [if_pos hi]
      rw [if_neg (by decide),if_pos trivial,sPage_in,show itG 2 (prevAt L i) L[i] = decide (L[i].f1.toList = [] ∧ 0 ≤ L[i].f2 ∧ L[i].f2 ≤ 399) from by unfold itG;rw [hp,decide_eq_true e,if_neg (by decide)];rfl]
    · have hj : i - 1 < L.length:=by omega
      have w : wrap64 ((i : Int) - 1) = ((i - 1 : Nat) : Int):=by rw [wid (by omega) (by omega)];omega
      have hp : prevAt L i = some L[i - 1].f0:=by unfold prevAt;rw [if_neg hi,List.getElem?_eq_getElem hj];rfl
      rw [if_pos (by omega),w];clear w
      rw [if_pos (by omega),if_pos (by omega),ri_Item hj]
      by_cases b : Op.bytesLess L[i - 1].f0.toList L[i].f0.toList = true
      · rw [if_pos b,if_neg (by decide),if_pos trivial,sPage_in,show itG 2 (prevAt L i) L[i] = decide (L[i].f1.toList = [] ∧ 0 ≤ L[i].f2 ∧ L[i].f2 ≤ 399) from by unfold itG;rw [hp,decide_eq_true e,if_neg (by decide)];simp only [b];rfl]
      · rw [if_neg b,show itG 2 (prevAt L i) L[i] = false from by unfold itG;rw [hp];simp [b]];rfl
theorem sPage_j (kind : Int) (hk : kind = 1 ∨ kind = 2) (L : List S61) (acc : ByteArray) (i : Int) (x : S61) (hx : OkIt x) (hg : kind = 1 ∨ 0 ≤ x.f2 ∧ x.f2 ≤ 399) (ha : acc.size ≤ 100000000000000) {r : ByteArray × Bool} (h : Ev (fun k=>spec_PageText.l0 k (acc ++ txI kind x) (wrap64 (i + 1)) kind L) r) : Ev (fun k=>spec_PageText.j2 k acc i false kind L x.f0 x.f1 x.f2) r:=by
  have b0:=shT_hi hx.1
  have b1:=shT_hi hx.2
  refine Ev.to (f:=fun k=>(spec_l04Short.f k x.f0).bind fun t149=>if acc.size + t149.size ≤ 9223372036854775807 then (if kind = 1 then (spec_l04Short.f k x.f1).bind fun t150=>if (acc ++ t149).size + t150.size ≤ 9223372036854775807 then spec_PageText.l0 k ((acc ++ t149) ++ t150) (wrap64 (i + 1)) kind L else none else (spec_l01Var.f k x.f2).bind fun t151=>if (acc ++ t149).size + t151.size ≤ 9223372036854775807 then spec_PageText.l0 k ((acc ++ t149) ++ t151) (wrap64 (i + 1)) kind L else none) else none) ?_ fun k=>by simp only [spec_PageText.j2];rw [if_neg (by decide)]
  refine (sShT x.f0 hx.1).bind (Ev.ifp (by omega) ?_)
  by_cases c : kind = 1
  · refine Ev.ifp c ((sShT x.f1 hx.2).bind (Ev.ifp (by rw [ByteArray.size_append];omega) ?_))
    have : txI kind x = shT x.f0 ++ shT x.f1:=by unfold txI;rw [if_pos c]
    rw [this,← ByteArray.append_assoc] at h
    exact h
  · have hr:=hg.resolve_left c
    have ev:=l01Var_ev x.f2.toNat (by omega)
    rw [Int.toNat_of_nonneg hr.1] at ev
    have hl:=varB_lenB (n:=x.f2.toNat) (by omega)
    refine Ev.ifn c (ev.bind (Ev.ifp (by rw [ByteArray.size_append,str_len];omega) ?_))
    have : txI kind x = shT x.f0 ++ strOfNums (varB x.f2.toNat):=by unfold txI;rw [if_neg c]
    rw [this,← ByteArray.append_assoc] at h
    exact h
theorem sPage_go (kind : Int) (hk : kind = 1 ∨ kind = 2) (L : List S61) (hL : L.length ≤ 1048576) (hO : ∀ x ∈ L,OkIt x) : ∀ (d i : Nat) (acc : ByteArray),i + d = L.length → acc.size ≤ 100 + 2097162 * i → Ev (fun k=>spec_PageText.l0 k acc (i : Int) kind L) (spL kind (prevAt L i) acc (L.drop i))
  | 0,i,acc,hi,ha=>by
    rw [List.drop_of_length_le (by omega),spL]
    refine Ev.to (f:=fun k=>(spec_Sealed.f k acc).bind fun bt140=>some (bt140.1,bt140.2)) ((sSealed acc (by omega)).bind (Ev.now _)) fun k=>?_
    simp only [spec_PageText.l0]
    rw [if_neg (by omega)]
  | d + 1,i,acc,hi,ha=>by
    have hlt : i < L.length:=by omega
    have hx:=hO L[i] (List.getElem_mem hlt)
    have w : wrap64 ((i : Int) + 1) = ((i + 1 : Nat) : Int):=by rw [wid (by omega) (by omega)];rfl
    rw [List.drop_eq_getElem_cons hlt,spL]
    refine Ev.to (f:=fun k=>spec_PageText.j2 k acc (i : Int) (!itG kind (prevAt L i) L[i]) kind L L[i].f0 L[i].f1 L[i].f2) ?_ fun k=>by
      rcases hk with rfl|rfl
      · exact sPage_l1 L hL acc i hlt k
      · exact sPage_l2 L hL acc i hlt k
    by_cases g : itG kind (prevAt L i) L[i] = true
    · rw [if_pos g,g]
      have hg : kind = 1 ∨ 0 ≤ L[i].f2 ∧ L[i].f2 ≤ 399:=by
        by_cases c : kind = 1
        · exact .inl c
        · exact .inr (itG_inner g c).2
      have hs:=txI_size kind L[i] hx hg
      have ih:=sPage_go kind hk L hL hO d (i + 1) (acc ++ txI kind L[i]) (by omega) (by rw [ByteArray.size_append];omega)
      rw [prevAt_succ hlt] at ih
      refine sPage_j kind hk L acc i L[i] hx hg (by omega) ?_
      rw [w]
      exact ih
    · rw [if_neg g,show itG kind (prevAt L i) L[i] = false from by simpa using g]
      exact sPage_t kind L acc i _ _ _
theorem sPageText (kind : Int) (L : List S61) (hL : L.length ≤ 1048576) (hO : ∀ x ∈ L,OkIt x) : Ev (fun k=>spec_PageText.f k kind L) (pPage kind L):=by
  have bad : Ev (fun k=>spec_PageText.j0 k true kind L) noText:=(Ev.now _).to fun k=>by simp only [spec_PageText.j0,if_true];rfl
  unfold spec_PageText.f
  by_cases hk : kind = 1 ∨ kind = 2
  · rw [s_in_t (by omega)]
    simp only [Option.bind_some,if_true]
    by_cases h0 : L = []
    · have : pPage kind L = noText:=by unfold pPage;rw [if_neg (fun h=>h.2.1 h0)]
      rw [this]
      exact Ev.ifp (by rw [h0];rfl) bad
    · have hp : L.length ≠ 0:=fun h=>h0 (List.length_eq_zero_iff.1 h)
      refine Ev.ifn (by omega) ?_
      have lo:=sumT_lo kind L
      by_cases h54 : (L.length : Int) > 54
      · have : pPage kind L = noText:=by unfold pPage;rw [if_neg (fun h=>h.2.2 (by omega))]
        rw [this]
        exact Ev.ifp h54 bad
      · refine Ev.ifn h54 ((sSumT kind hk L hL hO).bind ?_)
        by_cases hs : sumT kind L > 54
        · have : pPage kind L = noText:=by unfold pPage;rw [if_neg (fun h=>h.2.2 hs)]
          rw [this,decide_eq_true hs]
          exact bad
        · have : pPage kind L = spL kind none (headP kind L.length) L:=by unfold pPage;rw [if_pos ⟨hk,h0,hs⟩]
          rw [this,decide_eq_false hs]
          have hh:=headP_size kind hL
          have ih:=sPage_go kind hk L hL hO L.length 0 (headP kind L.length) (by omega) (by omega)
          rw [List.drop_zero,show prevAt L 0 = none from rfl] at ih
          have hv:=varB_lenB hL
          refine Ev.to (f:=fun k=>(spec_l01Var.f k (L.length : Int)).bind fun t139=>if (strOfNums [kind % 256]).size + t139.size ≤ 9223372036854775807 then spec_PageText.l0 k (strOfNums [kind % 256] ++ t139) 0 kind L else none) ((l01Var_ev L.length (by omega)).bind (Ev.ifp (by rw [str_len,str_len];simp only [List.length_singleton];omega) ih)) fun k=>?_
          simp only [spec_PageText.j0,Option.bind_some]
          rw [if_neg (by decide)]
  · rw [s_in_f (by omega)]
    have : pPage kind L = noText:=by unfold pPage;rw [if_neg (fun h=>hk h.1)]
    rw [this]
    simp only [Option.bind_some,Bool.false_eq_true,if_false]
    exact bad

theorem sRV_go (s : ByteArray) (hs : s.size ≤ 140737488351232) (a : Nat) : ∀ (f : Nat) (P : List Int),P.length + f = 5 → a + P.length ≤ s.size → Hi P → (bl s).drop a = P ++ (bl s).drop (a + P.length) →
    Ev (fun k=>spec_ReadVar.l0 k s a (dec P) (128 ^ P.length) ((a + P.length : Nat) : Int)) (rvRes a (rvGo f (dec P) (128 ^ P.length) P.length ((bl s).drop (a + P.length))))
  | 0,P,hf,hc,hP,hd=>by
    have h5 : qn (¬ ((a + P.length : Nat) : Int) < wrap64 ((a : Int) + 5)):=⟨by rw [wid (by omega) (by omega)];omega⟩
    simp only [rvGo,rvRes]
    have : Ev (fun k=>spec_ReadVar.j1 k s a (dec P) (128 ^ P.length) ((a + P.length : Nat) : Int) false) (0,0,false):=(Ev.now _).to fun k=>by simp only [spec_ReadVar.j1];rw [if_neg (by decide)]
    refine this.to fun k=>?_
    simp only [spec_ReadVar.l0]
    rw [decide_eq_false h5.out,ite_self]
  | f + 1,P,hf,hc,hP,hd=>by
    have h5 : qn (((a + P.length : Nat) : Int) < wrap64 ((a : Int) + 5)):=⟨by rw [wid (by omega) (by omega)];omega⟩
    by_cases hi : a + P.length < s.size
    · have hb:=bt_range s ((a + P.length : Nat) : Int)
      have hp:=pow128 (c:=P.length) (by omega)
      have h0:=dec_nonneg P
      have h1:=dec_lt P
      have hcons:=bl_cons hi
      rw [hcons]
      generalize hB : bt s ((a + P.length : Nat) : Int) = b at *
      have hx0 : 0 ≤ b % 128 * 128 ^ P.length:=Int.mul_nonneg (by omega) (by omega)
      have hx1 : b % 128 * 128 ^ P.length ≤ 127 * 128 ^ P.length:=Int.mul_le_mul_of_nonneg_right (by omega) (by omega)
      have e1 : qn (wrap64 (dec P + wrap64 (Int.tmod (wrap64 b) 128 * 128 ^ P.length)) = dec (P ++ [b])):=⟨by
        rw [dec_snoc,wid (n:=b) (by omega) (by omega),tmod_pos hb.1,wid (n:=b % 128 * 128 ^ P.length) (by omega) (by omega),wid (by omega) (by omega)]⟩
      have e2 : qn (wrap64 (((a + P.length : Nat) : Int) + 1) = ((a + (P.length + 1) : Nat) : Int)):=⟨by rw [wid (by omega) (by omega)];omega⟩
      have hsn:=dec_snoc P b
      by_cases h8 : b < 128
      · simp only [rvGo]
        rw [if_pos h8,← hsn]
        have : Ev (fun k=>spec_ReadVar.j1 k s a (dec P) (128 ^ P.length) ((a + P.length : Nat) : Int) true) (rvRes a (if (b = 0 ∧ 0 < P.length) ∨ dec (P ++ [b]) > 1000000000 then none else some (dec (P ++ [b]),P.length + 1))):=by
          by_cases hm : dec (P ++ [b]) > 1000000000
          · rw [if_pos (.inr hm)]
            refine (Ev.now _).to fun k=>?_
            simp only [spec_ReadVar.j1,if_true]
            rw [if_pos (by omega),if_pos (by omega),hB,e1.out,if_pos h8,if_pos hm]
            rfl
          · have hv:=l01Var_ev (dec (P ++ [b])).toNat (by omega)
            rw [Int.toNat_of_nonneg (dec_nonneg _)] at hv
            have hx : bl (s.extract a (a + (P.length + 1))) = P ++ [b]:=by
              have hsz:=bl_len s
              rw [bl_ext,List.drop_take,hd,hcons,show a + (P.length + 1) - a = P.length + 1 by omega]
              rw [List.take_append,List.take_of_length_le (by omega),show P.length + 1 - P.length = 1 by omega]
              rfl
            refine Ev.to (Ev.bind (f:=fun _ t=>if t.toList = (s.extract a (a + (P.length + 1))).toList then some (dec (P ++ [b]),((a + (P.length + 1) : Nat) : Int),true) else some (0,0,false)) hv ?_) fun k=>?_
            · have hiff : ((strOfNums (varB (dec (P ++ [b])).toNat)).toList = (s.extract a (a + (P.length + 1))).toList) ↔ ¬ (b = 0 ∧ 0 < P.length):=by
                rw [tl_bl,hx,bl_str (varB_byt _),varB_dec_iff P b hP hb.1 h8]
              by_cases hz : b = 0 ∧ 0 < P.length
              · have e3 : rvRes a (if (b = 0 ∧ 0 < P.length) ∨ dec (P ++ [b]) > 1000000000 then none else some (dec (P ++ [b]),P.length + 1)) = (0,0,false):=by rw [if_pos (.inl hz)];rfl
                rw [e3]
                exact Ev.same (if_neg (fun h=>hiff.1 h hz))
              · have e3 : rvRes a (if (b = 0 ∧ 0 < P.length) ∨ dec (P ++ [b]) > 1000000000 then none else some (dec (P ++ [b]),P.length + 1)) = (dec (P ++ [b]),((a + (P.length + 1) : Nat) : Int),true):=by rw [if_neg (by omega)];simp only [rvRes];congr 2
                rw [e3]
                exact Ev.same (if_pos (hiff.2 hz))
            · simp only [spec_ReadVar.j1,if_true]
              rw [if_pos (by omega),if_pos (by omega),hB,e1.out,e2.out,if_pos h8,if_neg hm]
              congr 1
              funext t
              rw [if_pos (by omega),if_pos (by omega),if_pos (by omega)]
              rfl
        refine this.to fun k=>?_
        simp only [spec_ReadVar.l0]
        rw [if_pos (by omega),decide_eq_true h5.out]
      · simp only [rvGo]
        rw [if_neg h8]
        have ih:=sRV_go s hs a f (P ++ [b]) (by simp;omega) (by simp;omega) (fun x hx=>by
          rcases List.mem_append.1 hx with hx|hx
          · exact hP x hx
          · simp at hx;subst hx;omega) (by rw [hd,hcons,List.length_append];simp [Nat.add_assoc])
        rw [List.length_append,List.length_singleton,Int.pow_succ,hsn] at ih
        have : Ev (fun k=>spec_ReadVar.j1 k s a (dec P) (128 ^ P.length) ((a + P.length : Nat) : Int) true) (rvRes a (rvGo f (dec P + b % 128 * 128 ^ P.length) (128 ^ P.length * 128) (P.length + 1) ((bl s).drop (a + (P.length + 1))))):=by
          refine ih.to fun k=>?_
          simp only [spec_ReadVar.j1,if_true]
          rw [if_pos (by omega),if_pos (by omega),hB,e1.out,e2.out,if_neg h8,wid (n:=128 ^ P.length * 128) (by omega) (by omega),hsn]
        refine this.to fun k=>?_
        simp only [spec_ReadVar.l0]
        rw [if_pos (by omega),decide_eq_true h5.out]
    · rw [bl_end (by omega)]
      simp only [rvGo,rvRes]
      have : Ev (fun k=>spec_ReadVar.j1 k s a (dec P) (128 ^ P.length) ((a + P.length : Nat) : Int) false) (0,0,false):=(Ev.now _).to fun k=>by simp only [spec_ReadVar.j1];rw [if_neg (by decide)]
      refine this.to fun k=>?_
      simp only [spec_ReadVar.l0]
      rw [if_neg (by omega)]
theorem sReadVar (s : ByteArray) (hs : s.size ≤ 140737488351232) (a : Int) : Ev (fun k=>spec_ReadVar.f k s a) (pReadVar s a):=by
  unfold spec_ReadVar.f pReadVar
  by_cases h : 0 ≤ a ∧ a ≤ s.size
  · rw [s_in_t h,if_pos h]
    simp only [Option.bind_some,if_true]
    have:=sRV_go s hs a.toNat 5 [] rfl (by simp;omega) (fun _ hx=>by simp at hx) (by simp)
    simp only [List.length_nil,Nat.add_zero,Int.pow_zero,Int.toNat_of_nonneg h.1,dec] at this
    exact this
  · rw [s_in_f h,if_neg h]
    simp only [Option.bind_some,Bool.false_eq_true,if_false]
    exact Ev.now _

theorem sReadShort (s : ByteArray) (hs : s.size ≤ 140737488351232) (a : Int) : Ev (fun k=>spec_ReadShort.f k s a) (pReadShort s a):=by
  unfold spec_ReadShort.f
  refine (sReadVar s hs a).bind ?_
  unfold pReadShort
  rcases pReadVar_cases s a with e|⟨n,next,e⟩
  · rw [e]
    simp only [Bool.false_eq_true,false_and,if_false]
    exact Ev.now _
  · obtain ⟨c,h0,hn,_,_,hc,h1,h2⟩:=pReadVar_some e
    rw [e]
    simp only [true_and,if_true]
    have w1 : wrap64 ((s.size : Int) - next) = (s.size : Int) - next:=wid (by omega) (by omega)
    have w2 : wrap64 (next + n) = next + n:=wid (by omega) (by omega)
    rw [w1,w2];clear w1 w2
    by_cases h8 : n ≤ 8000
    · by_cases h9 : n ≤ (s.size : Int) - next
      · rw [if_neg (by omega),if_neg (by omega),if_pos (by omega),if_pos (by omega),if_pos (by omega),if_pos ⟨h8,h9⟩]
        exact Ev.now _
      · rw [if_neg (by omega),if_pos (by omega),if_neg (fun h=>h9 h.2)]
        exact Ev.now _
    · rw [if_pos (by omega),if_neg (fun h=>h8 h.1)]
      exact Ev.now _

theorem sUnsealed (s : ByteArray) (hs : s.size ≤ 140737488351232) : Ev (fun k=>spec_Unsealed.f k s) (pUnsealed s):=by
  unfold spec_Unsealed.f pUnsealed
  have w : wrap64 ((s.size : Int) - 4) = (s.size : Int) - 4:=wid (by omega) (by omega)
  rw [w];clear w
  by_cases h4 : 4 ≤ s.size
  · have e : ((s.size : Int) - 4).toNat = s.size - 4:=by omega
    simp only [if_neg (show ¬ (s.size : Int) - 4 < 0 by omega),if_pos (show 0 ≤ (s.size : Int) - 4 by omega),if_pos (show (s.size : Int) - 4 ≤ s.size by omega),e]
    by_cases h8 : s.size - 4 ≤ 8000
    · simp only [if_neg (show ¬ (s.size : Int) - 4 > 8000 by omega)]
      refine (sSumOf (cutB s) (by rw [cutB_size];omega)).bind ?_
      simp only [spec_l02Four.f,Option.bind_some]
      have hiff : (s.extract (s.size - 4) s.size).toList = (strOfNums [sumB (cutB s) / 16777216 % 256,sumB (cutB s) / 65536 % 256,sumB (cutB s) / 256 % 256,sumB (cutB s) % 256]).toList ↔ (bl s).drop (s.size - 4) = four (sumB (cutB s)):=by
        rw [tl_bl,bl_ext,List.take_of_length_le (by rw [bl_len];omega),show [sumB (cutB s) / 16777216 % 256,sumB (cutB s) / 65536 % 256,sumB (cutB s) / 256 % 256,sumB (cutB s) % 256] = four (sumB (cutB s)) from rfl,bl_str (four_byt _)]
      by_cases hh : (bl s).drop (s.size - 4) = four (sumB (cutB s))
      · rw [if_pos (⟨h4,h8,hh⟩ : 4 ≤ s.size ∧ s.size - 4 ≤ 8000 ∧ (bl s).drop (s.size - 4) = four (sumB (cutB s)))]
        exact Ev.same (if_pos (hiff.2 hh))
      · rw [if_neg (fun h : 4 ≤ s.size ∧ s.size - 4 ≤ 8000 ∧ (bl s).drop (s.size - 4) = four (sumB (cutB s))=>hh h.2.2)]
        exact Ev.same (if_neg (fun h=>hh (hiff.1 h)))
    · rw [if_neg (fun h : 4 ≤ s.size ∧ s.size - 4 ≤ 8000 ∧ (bl s).drop (s.size - 4) = four (sumB (cutB s))=>h8 h.2.1)]
      exact Ev.ifp (by omega) (Ev.now _)
  · rw [if_neg (fun h : 4 ≤ s.size ∧ s.size - 4 ≤ 8000 ∧ (bl s).drop (s.size - 4) = four (sumB (cutB s))=>h4 h.1)]
    exact Ev.ifp (by omega) (Ev.now _)

theorem sRP_end (s b : ByteArray) (n a i : Int) (r : Bool) (kind : Int) (acc : List It) (hl : acc.length ≤ 1048576) (hO : ∀ x ∈ acc,OkIt x) : Ev (fun k=>spec_ReadPage.j2 k s b n a r i false kind acc) (spEnd s kind (r,acc)):=by
  refine Ev.to (f:=fun k=>(spec_PageText.f k kind acc).bind fun bt161=>if r = true then (if bt161.2 = true then (if bt161.1.toList = s.toList then (some (kind,acc,true)) else (some (0,([] : List It),false))) else (some (0,([] : List It),false))) else (some (0,([] : List It),false))) ?_ fun k=>by simp only [spec_ReadPage.j2];rw [if_neg (by decide)]
  refine (sPageText kind acc hl hO).bind ?_
  by_cases h1 : r = true
  · by_cases h2 : (pPage kind acc).2 = true
    · by_cases h3 : (pPage kind acc).1 = s
      · rw [spEnd_y ⟨h1,h2,h3⟩]
        exact Ev.ifp h1 (Ev.ifp h2 (Ev.ifp (tl_inj.2 h3) (Ev.now _)))
      · rw [spEnd_n (fun h=>h3 h.2.2)]
        exact Ev.ifp h1 (Ev.ifp h2 (Ev.ifn (fun h=>h3 (tl_inj.1 h)) (Ev.now _)))
    · rw [spEnd_n (fun h=>h2 h.2.1)]
      exact Ev.ifp h1 (Ev.ifn h2 (Ev.now _))
  · rw [spEnd_n (fun h=>h1 h.1)]
    exact Ev.ifn h1 (Ev.now _)
theorem sRP_go (s b : ByteArray) (hb : b.size ≤ 8000) (n kind : Int) (hn : n ≤ 1000000000) : ∀ (d : Nat) (i a : Int) (r : Bool) (acc : List It),0 ≤ i → (n - i).toNat = d → acc.length ≤ 9000 → (r = true → (acc.length : Int) ≤ a ∧ a ≤ b.size) → (∀ x ∈ acc,OkIt x) → Ev (fun k=>spec_ReadPage.l0 k s b n a r i kind acc) (spEnd s kind (spG kind b d a r acc))
  | 0,i,a,r,acc,h0,hi,hl,hr,hO=>by
    rw [spG]
    refine (sRP_end s b n a i r kind acc (by omega) hO).to fun k=>?_
    simp only [spec_ReadPage.l0]
    rw [if_neg (by omega)]
  | d + 1,i,a,r,acc,h0,hi,hl,hr,hO=>by
    have w : qn (wrap64 (i + 1) = i + 1):=⟨wid (by omega) (by omega)⟩
    refine Ev.to (f:=fun k=>spec_ReadPage.j2 k s b n a r i r kind acc) ?_ fun k=>by simp only [spec_ReadPage.l0];rw [if_pos (by omega)]
    rw [spG]
    by_cases h1 : r = true
    · obtain ⟨ha,hab⟩:=hr h1
      rw [if_pos h1,h1]
      refine Ev.to (f:=fun k=>(spec_ReadShort.f k b a).bind fun bt164=>if bt164.2.2 = true then (spec_ReadPage.j3 k s b n a bt164.2.2 i bt164.2.1 (kind == 1) kind acc bt164.1 (⟨#[]⟩ : ByteArray) 0) else (spec_ReadPage.j3 k s b n a bt164.2.2 i bt164.2.1 false kind acc bt164.1 (⟨#[]⟩ : ByteArray) 0)) ?_ fun k=>by simp only [spec_ReadPage.j2,if_true]
      refine (sReadShort b (by omega) a).bind ?_
      by_cases h2 : (pReadShort b a).2.2 = true
      · obtain ⟨p0,p1,p2,p3⟩:=rShort_bd h2
        rw [if_pos h2]
        refine Ev.ifp h2 ?_
        rw [h2]
        by_cases h3 : kind = 1
        · rw [if_pos h3]
          have e : (kind == 1) = true:=beq_iff_eq.2 h3
          rw [e]
          have ok : OkIt ⟨(pReadShort b a).1,(pReadShort b (pReadShort b a).2.1).1,0⟩:=by
            refine ⟨by show (pReadShort b a).1.size ≤ _;omega,?_⟩
            show (pReadShort b (pReadShort b a).2.1).1.size ≤ _
            by_cases h4 : (pReadShort b (pReadShort b a).2.1).2.2 = true
            · have:=(rShort_bd h4).2.2.2;omega
            · rw [rShort_no h4];exact Nat.zero_le _
          have ih:=sRP_go s b hb n kind hn d (i + 1) (pReadShort b (pReadShort b a).2.1).2.1 (pReadShort b (pReadShort b a).2.1).2.2 (acc ++ [⟨(pReadShort b a).1,(pReadShort b (pReadShort b a).2.1).1,0⟩]) (by omega) (by omega) (by rw [List.length_append,List.length_singleton];omega) (fun h=>by
            have:=rShort_bd h
            rw [List.length_append,List.length_singleton]
            omega) (snocOk hO ok)
          refine Ev.to (f:=fun k=>(spec_ReadShort.f k b (pReadShort b a).2.1).bind fun bt167=>if acc.length < 3518437208883 then (spec_ReadPage.l0 k s b n bt167.2.1 bt167.2.2 (i + 1) kind (acc ++ [(⟨(pReadShort b a).1,bt167.1,0⟩ : It)])) else none) ?_ fun k=>by simp only [spec_ReadPage.j3,if_true,w.out]
          exact (sReadShort b (by omega) _).bind (Ev.ifp (by omega) ih)
        · rw [if_neg h3]
          have e : (kind == 1) = false:=beq_eq_false_iff_ne.2 h3
          rw [e]
          have ok : OkIt ⟨(pReadShort b a).1,noB,(pReadVar b (pReadShort b a).2.1).1⟩:=⟨by show (pReadShort b a).1.size ≤ _;omega,Nat.zero_le _⟩
          have ih:=sRP_go s b hb n kind hn d (i + 1) (pReadVar b (pReadShort b a).2.1).2.1 (pReadVar b (pReadShort b a).2.1).2.2 (acc ++ [⟨(pReadShort b a).1,noB,(pReadVar b (pReadShort b a).2.1).1⟩]) (by omega) (by omega) (by rw [List.length_append,List.length_singleton];omega) (fun h=>by
            have:=rVar_bd h
            rw [List.length_append,List.length_singleton]
            omega) (snocOk hO ok)
          refine Ev.to (f:=fun k=>(spec_ReadVar.f k b (pReadShort b a).2.1).bind fun bt173=>if acc.length < 3518437208883 then (spec_ReadPage.l0 k s b n bt173.2.1 bt173.2.2 (i + 1) kind (acc ++ [(⟨(pReadShort b a).1,noB,bt173.1⟩ : It)])) else none) ?_ fun k=>by
            simp only [spec_ReadPage.j3,if_true,w.out]
            rw [if_neg (by decide)]
            rfl
          exact (sReadVar b (by omega) _).bind (Ev.ifp (by omega) ih)
      · rw [if_neg h2]
        refine Ev.ifn h2 ?_
        rw [rShort_no h2]
        have ok : OkIt ⟨noB,noB,0⟩:=⟨Nat.zero_le _,Nat.zero_le _⟩
        have en:=sRP_end s b n a (i + 1) false kind (acc ++ [⟨noB,noB,0⟩]) (by rw [List.length_append,List.length_singleton];omega) (snocOk hO ok)
        have e2 : Ev (fun k=>spec_ReadPage.l0 k s b n a false (i + 1) kind (acc ++ [⟨noB,noB,0⟩])) (spEnd s kind (false,acc ++ [⟨noB,noB,0⟩])):=en.to fun k=>by
          simp only [spec_ReadPage.l0]
          split <;> rfl
        refine Ev.to (f:=fun k=>if acc.length < 3518437208883 then (spec_ReadPage.l0 k s b n a false (i + 1) kind (acc ++ [(⟨noB,noB,0⟩ : It)])) else none) (Ev.ifp (by omega) e2) fun k=>?_
        simp only [spec_ReadPage.j3,w.out]
        rw [if_neg (by decide),if_neg (by decide)]
        rfl
    · have e : r = false:=by simpa using h1
      subst e
      rw [if_neg (by decide)]
      exact sRP_end s b n a i false kind acc (by omega) hO
theorem sReadPage (s : ByteArray) (hs : s.size ≤ 140737488351232) : Ev (fun k=>spec_ReadPage.f k s) (pReadPage s):=by
  have hb:=unsealed_size (s:=s)
  have bad : ∀ x,Ev (fun k=>spec_ReadPage.j0 k s x true) noPage:=fun x=>(Ev.now _).to fun k=>by simp only [spec_ReadPage.j0,if_true];rfl
  unfold spec_ReadPage.f
  refine (sUnsealed s hs).bind ?_
  unfold pReadPage
  by_cases h : (pUnsealed s).2 = true
  · refine Ev.ifp h ?_
    by_cases h2 : 2 ≤ (pUnsealed s).1.size
    · rw [if_pos ⟨h,h2⟩,decide_eq_false (by omega)]
      generalize (pUnsealed s).1 = b at hb h2 ⊢
      have h0:=bt_range b 0
      have w : wrap64 (bt b 0) = bt b 0:=wid (by omega) (by omega)
      refine Ev.to (f:=fun k=>(spec_ReadVar.f k b 1).bind fun bt158=>spec_ReadPage.l0 k s b bt158.1 bt158.2.1 bt158.2.2 0 (bt b 0) ([] : List It)) ?_ fun k=>by
        simp only [spec_ReadPage.j0,w]
        rw [if_neg (by decide),if_pos (by omega)]
      refine (sReadVar b (by omega) 1).bind ?_
      by_cases hv : (pReadVar b 1).2.2 = true
      · have:=rVar_bd hv
        exact sRP_go s b hb _ (bt b 0) (by omega) _ 0 _ _ [] (by omega) (by omega) (by simp) (fun _=>⟨by simp;omega,by omega⟩) (fun x hx=>by simp at hx)
      · rw [rVar_no hv]
        exact sRP_go s b hb _ (bt b 0) (by omega) _ 0 _ _ [] (by omega) rfl (by simp) (fun h=>by simp at h) (fun x hx=>by simp at hx)
    · rw [if_neg (fun g=>h2 g.2),decide_eq_true (by omega)]
      exact bad _
  · rw [if_neg (fun g=>h g.1)]
    exact Ev.ifn h (bad _)

def kgP (kind : Int) (x : S61) : Bool:=if kind = 1 then decide (x.f2 = 0) else decide (x.f1.toList = [] ∧ 0 ≤ x.f2 ∧ x.f2 ≤ 399)
theorem i_itemOk (kind : Int) (x : S61) : impl_itemOk.f kind x.f0 x.f1 x.f2 = some (decide (¬ x.f0.toList = []) && kgP kind x):=by
  unfold impl_itemOk.f kgP
  by_cases e : x.f0.toList = []
  · rw [if_pos e];simp [e]
  · rw [if_neg e,decide_eq_true e,Bool.true_and]
    by_cases c : kind = 1
    · rw [if_pos c,if_pos c]
      congr 1
    · rw [if_neg c,if_neg c]
      by_cases g : x.f1.toList = []
      · rw [if_pos g,i_in];simp [g]
      · rw [if_neg g];simp [g]
theorem iPage_t (kind : Int) (L M : List S61) (acc : ByteArray) (z n i : Int) (a b : ByteArray) (c : Int) : Ev (fun k=>impl_PageText.j2 k acc z L n i true kind M a b c) noText:=(Ev.now _).to fun k=>by simp only [impl_PageText.j2,if_true];rfl
def smI (x : S61) : Bool:=decide (x.f0.size ≤ 54 ∧ x.f1.size ≤ 54)
theorem iPage_sm (L : List S61) (kind : Int) (acc : ByteArray) (z n i : Int) (x : S61) (k : Nat) : (if (x.f0.size : Int) > 54 then (impl_PageText.j2 k acc z L n i true kind L x.f0 x.f1 x.f2) else (impl_PageText.j2 k acc z L n i (decide ((x.f1.size : Int) > 54)) kind L x.f0 x.f1 x.f2)) = impl_PageText.j2 k acc z L n i (!smI x) kind L x.f0 x.f1 x.f2:=by
  unfold smI
  by_cases e : (x.f0.size : Int) > 54
  · rw [if_pos e,decide_eq_false (by omega)];rfl
  · rw [if_neg e]
    congr 1
    by_cases g : (x.f1.size : Int) > 54
    · rw [decide_eq_true g,decide_eq_false (by omega)];rfl
    · rw [decide_eq_false g,decide_eq_true (by omega)];rfl
theorem iPage_l (kind : Int) (L : List S61) (hL : L.length ≤ 1048576) (acc : ByteArray) (z : Int) (i : Nat) (hlt : i < L.length) (k : Nat) : impl_PageText.l0 (k + 1) acc z L (L.length : Int) (i : Int) kind L = impl_PageText.j2 k acc z L (L.length : Int) (i : Int) (!(itG kind (prevAt L i) L[i] && smI L[i])) kind L L[i].f0 L[i].f1 L[i].f2:=by
  simp only [impl_PageText.l0]
  rw [if_pos (by omega),if_pos (by omega),if_pos (by omega),ri_Item hlt,i_itemOk]
  simp only [Option.bind_some]
  by_cases e : (decide (¬ L[i].f0.toList = []) && kgP kind L[i]) = true
  · rw [if_pos e]
    have e1 : decide (¬ L[i].f0.toList = []) = true:=(Bool.and_eq_true _ _ ▸ e).1
    have e2 : kgP kind L[i] = true:=(Bool.and_eq_true _ _ ▸ e).2
    by_cases hi : i = 0
    · have hp : prevAt L i = none:=by unfold prevAt;rw [if_pos hi]
      have g : itG kind (prevAt L i) L[i] = true:=by unfold itG;rw [hp,e1];unfold kgP at e2;rw [e2];rfl
      rw [if_neg (by omega),iPage_sm,g,Bool.true_and]
    · have hj : i - 1 < L.length:=by omega
      have w : wrap64 ((i : Int) - 1) = ((i - 1 : Nat) : Int):=by rw [wid (by omega) (by omega)];omega
      have hp : prevAt L i = some L[i - 1].f0:=by unfold prevAt;rw [if_neg hi,List.getElem?_eq_getElem hj];rfl
      rw [if_pos (by omega),w];clear w
      rw [if_pos (by omega),if_pos (by omega),ri_Item hj]
      by_cases b : Op.bytesLess L[i - 1].f0.toList L[i].f0.toList = true
      · have g : itG kind (prevAt L i) L[i] = true:=by unfold itG;rw [hp,e1];unfold kgP at e2;rw [e2];simp only [b];rfl
        rw [if_pos b,iPage_sm,g,Bool.true_and]
      · have g : itG kind (prevAt L i) L[i] = false:=by unfold itG;rw [hp];simp [b]
        rw [if_neg b,g];rfl
  · rw [if_neg e]
    have g : itG kind (prevAt L i) L[i] = false:=by
      unfold itG
      unfold kgP at e
      generalize (if kind = 1 then decide (L[i].f2 = 0) else decide (L[i].f1.toList = [] ∧ 0 ≤ L[i].f2 ∧ L[i].f2 ≤ 399)) = q at e ⊢
      generalize decide (¬ L[i].f0.toList = []) = p at e ⊢
      cases p <;> cases q <;> simp_all
    rw [g];rfl
theorem pShort_small {s : ByteArray} (h : s.size ≤ 54) : (pShort s).1 = shT s:=by unfold pShort shT;rw [if_neg (by omega)]
theorem szI_small {kind : Int} {x : S61} (hk : kind = 1 ∨ kind = 2) (h0 : x.f0.size ≤ 54) (h1 : x.f1.size ≤ 54) : szI kind x = szT kind x:=by
  unfold szI szT
  rw [pShort_small h0,pShort_small h1]
  rcases hk with rfl|rfl
  · rw [if_pos rfl,if_pos rfl]
  · rw [if_neg (by decide),if_pos rfl,if_neg (by decide)]
theorem iPage_j (kind : Int) (hk : kind = 1 ∨ kind = 2) (L : List S61) (acc : ByteArray) (z n i : Int) (x : S61) (h0 : x.f0.size ≤ 54) (h1 : x.f1.size ≤ 54) (hg : kind = 1 ∨ 0 ≤ x.f2 ∧ x.f2 ≤ 399) (ha : acc.size ≤ 100000000000000) (hz0 : 0 ≤ z) (hz1 : z ≤ 100000000000000) {r : ByteArray × Bool} (h : Ev (fun k=>impl_PageText.l0 k (acc ++ txI kind x) (z + szT kind x) L n (wrap64 (i + 1)) kind L) r) : Ev (fun k=>impl_PageText.j2 k acc z L n i false kind L x.f0 x.f1 x.f2) r:=by
  have b0:=shT_hi (s:=x.f0) (by omega)
  have b1:=shT_hi (s:=x.f1) (by omega)
  have bz:=szI_bd kind x
  rw [← szI_small hk h0 h1] at h
  have w : qn (wrap64 (z + szI kind x) = z + szI kind x):=⟨wid (by omega) (by omega)⟩
  refine Ev.to (f:=fun k=>(impl_ItemSize.f k kind x.f0 x.f1 x.f2).bind fun t204=>(impl_ShortText.f k x.f0).bind fun bt205=>(impl_ShortText.f k x.f1).bind fun bt207=>if kind = 2 then (impl_VarText.f k x.f2).bind fun bt209=>if bt205.1.size + bt209.1.size ≤ 9223372036854775807 then (if acc.size + (bt205.1 ++ bt209.1).size ≤ 9223372036854775807 then impl_PageText.l0 k (acc ++ (bt205.1 ++ bt209.1)) (wrap64 (z + t204)) L n (wrap64 (i + 1)) kind L else none) else none else if bt205.1.size + bt207.1.size ≤ 9223372036854775807 then (if acc.size + (bt205.1 ++ bt207.1).size ≤ 9223372036854775807 then impl_PageText.l0 k (acc ++ (bt205.1 ++ bt207.1)) (wrap64 (z + t204)) L n (wrap64 (i + 1)) kind L else none) else none) ?_ fun k=>by simp only [impl_PageText.j2];rw [if_neg (by decide)]
  refine (iItemSize kind x (by omega) (by omega)).bind ((iShortText x.f0 (by omega)).bind ((iShortText x.f1 (by omega)).bind ?_))
  rw [w.out,pShort_small h0,pShort_small h1]
  rcases hk with c|c
  · refine Ev.ifn (by omega) (Ev.ifp (by omega) (Ev.ifp (by rw [ByteArray.size_append];omega) ?_))
    have : txI kind x = shT x.f0 ++ shT x.f1:=by unfold txI;rw [if_pos c]
    rw [this] at h
    exact h
  · have hr:=hg.resolve_left (by omega)
    have hl:=varB_lenB (n:=x.f2.toNat) (by omega)
    have e : (pVarText x.f2).1 = strOfNums (varB x.f2.toNat):=by unfold pVarText;rw [if_pos (by omega)]
    refine Ev.ifp c ((iVarText x.f2).bind ?_)
    rw [e]
    refine Ev.ifp (by rw [str_len];omega) (Ev.ifp (by rw [ByteArray.size_append,str_len];omega) ?_)
    have : txI kind x = shT x.f0 ++ strOfNums (varB x.f2.toNat):=by unfold txI;rw [if_neg (by omega)]
    rw [this] at h
    exact h
theorem iPage_go (kind : Int) (hk : kind = 1 ∨ kind = 2) (L : List S61) (hL : L.length ≤ 1048576) (hO : ∀ x ∈ L,OkIt x) : ∀ (d i : Nat) (acc : ByteArray) (z : Int),i + d = L.length → acc.size ≤ 100 + 2097162 * i → 0 ≤ z → z ≤ 2097162 * i → Ev (fun k=>impl_PageText.l0 k acc z L (L.length : Int) (i : Int) kind L) (imL kind (prevAt L i) acc z (L.drop i))
  | 0,i,acc,z,hi,ha,h0,h1=>by
    rw [List.drop_of_length_le (by omega),imL]
    refine Ev.to (f:=fun k=>if z > 54 then some noText else (impl_Sealed.f k acc).bind fun bt140=>some (bt140.1,bt140.2)) ?_ fun k=>by
      simp only [impl_PageText.l0]
      rw [if_neg (by omega)]
      rfl
    by_cases c : z > 54
    · rw [if_pos c]
      exact Ev.ifp c (Ev.now _)
    · rw [if_neg c]
      exact Ev.ifn c ((iSealed acc (by omega)).bind (Ev.now _))
  | d + 1,i,acc,z,hi,ha,h0,h1=>by
    have hlt : i < L.length:=by omega
    have hx:=hO L[i] (List.getElem_mem hlt)
    have w : wrap64 ((i : Int) + 1) = ((i + 1 : Nat) : Int):=by rw [wid (by omega) (by omega)];rfl
    rw [List.drop_eq_getElem_cons hlt,imL]
    refine Ev.to (f:=fun k=>impl_PageText.j2 k acc z L (L.length : Int) (i : Int) (!(itG kind (prevAt L i) L[i] && smI L[i])) kind L L[i].f0 L[i].f1 L[i].f2) ?_ fun k=>iPage_l kind L hL acc z i hlt k
    by_cases g : itG kind (prevAt L i) L[i] = true ∧ L[i].f0.size ≤ 54 ∧ L[i].f1.size ≤ 54
    · rw [if_pos g,g.1,show smI L[i] = true from decide_eq_true g.2]
      have hg : kind = 1 ∨ 0 ≤ L[i].f2 ∧ L[i].f2 ≤ 399:=by
        by_cases c : kind = 1
        · exact .inl c
        · exact .inr (itG_inner g.1 c).2
      have hs:=txI_size kind L[i] hx hg
      have lo:=szT_lo kind L[i]
      have hi':=szT_hi kind L[i] hx.1 hx.2
      have ih:=iPage_go kind hk L hL hO d (i + 1) (acc ++ txI kind L[i]) (z + szT kind L[i]) (by omega) (by rw [ByteArray.size_append];omega) (by omega) (by omega)
      rw [prevAt_succ hlt] at ih
      refine iPage_j kind hk L acc z _ i L[i] g.2.1 g.2.2 hg (by omega) (by omega) (by omega) ?_
      rw [w]
      exact ih
    · rw [if_neg g,show (itG kind (prevAt L i) L[i] && smI L[i]) = false from by
        unfold smI
        cases hh : itG kind (prevAt L i) L[i] with
        | false=>rfl
        | true=>rw [decide_eq_false (fun h=>g ⟨hh,h⟩)];rfl]
      exact iPage_t kind L L acc z _ i _ _ _
theorem iPageText (kind : Int) (L : List S61) (hL : L.length ≤ 1048576) (hO : ∀ x ∈ L,OkIt x) : Ev (fun k=>impl_PageText.f k kind L) (pPage kind L):=by
  have bad : Ev (fun k=>impl_PageText.j0 k true kind L) noText:=(Ev.now _).to fun k=>by simp only [impl_PageText.j0,if_true];rfl
  have main : (kind = 1 ∨ kind = 2) → Ev (fun k=>impl_PageText.j0 k ((L.length : Int) == 0) kind L) (pPage kind L):=by
    intro hk
    by_cases h0 : L = []
    · have : pPage kind L = noText:=by unfold pPage;rw [if_neg (fun h=>h.2.1 h0)]
      rw [this,show ((L.length : Int) == 0) = true from by rw [h0];rfl]
      exact bad
    · have hp : L.length ≠ 0:=fun h=>h0 (List.length_eq_zero_iff.1 h)
      rw [show ((L.length : Int) == 0) = false from beq_eq_false_iff_ne.mpr (by omega)]
      have : pPage kind L = imL kind none (headP kind L.length) 0 L:=by
        rw [imL_eq kind L none _ 0 (by omega),Int.zero_add]
        unfold pPage
        by_cases hs : sumT kind L > 54
        · rw [if_neg (fun h=>h.2.2 hs),if_pos hs]
        · rw [if_pos ⟨hk,h0,hs⟩,if_neg hs]
      rw [this]
      have hh:=headP_size kind hL
      have ih:=iPage_go kind hk L hL hO L.length 0 (headP kind L.length) 0 (by omega) (by omega) (by omega) (by omega)
      rw [List.drop_zero,show prevAt L 0 = none from rfl] at ih
      have hv:=varB_lenB hL
      have e : (pVarText (L.length : Int)).1 = strOfNums (varB L.length):=by unfold pVarText;rw [if_pos (by omega),Int.toNat_natCast]
      refine Ev.to (f:=fun k=>(impl_VarText.f k (L.length : Int)).bind fun t139=>if (strOfNums [kind % 256]).size + t139.1.size ≤ 9223372036854775807 then impl_PageText.l0 k (strOfNums [kind % 256] ++ t139.1) 0 L (L.length : Int) 0 kind L else none) ((iVarText (L.length : Int)).bind ?_) fun k=>?_
      · rw [e]
        exact Ev.ifp (by rw [str_len,str_len];simp only [List.length_singleton];omega) ih
      · simp only [impl_PageText.j0,Option.bind_some]
        rw [if_neg (by decide)]
  unfold impl_PageText.f
  by_cases h1 : kind = 1
  · exact Ev.ifp h1 (main (.inl h1))
  · by_cases h2 : kind = 2
    · exact Ev.ifn h1 (Ev.ifp h2 (main (.inr h2)))
    · have : pPage kind L = noText:=by unfold pPage;rw [if_neg (fun h=>by omega)]
      rw [this]
      exact Ev.ifn h1 (Ev.ifn h2 bad)

theorem iRV_go (s : ByteArray) (hs : s.size ≤ 140737488351232) (a : Nat) : ∀ (f c : Nat) (n : Int),c + f = 5 → a + c ≤ s.size → 0 ≤ n → n < 128 ^ c →
    Ev (fun k=>impl_ReadVar.l0 k s a n (128 ^ c) ((a + c : Nat) : Int)) (rvRes a (rvGo f n (128 ^ c) c ((bl s).drop (a + c))))
  | 0,c,n,hf,hc,h0,h1=>by
    have h5 : qn (¬ ((a + c : Nat) : Int) < wrap64 ((a : Int) + 5)):=⟨by rw [wid (by omega) (by omega)];omega⟩
    simp only [rvGo,rvRes]
    have : Ev (fun k=>impl_ReadVar.j1 k s a n (128 ^ c) ((a + c : Nat) : Int) false) (0,0,false):=(Ev.now _).to fun k=>by simp only [impl_ReadVar.j1];rw [if_neg (by decide)]
    refine this.to fun k=>?_
    simp only [impl_ReadVar.l0]
    rw [decide_eq_false h5.out,ite_self]
  | f + 1,c,n,hf,hc,h0,h1=>by
    have h5 : qn (((a + c : Nat) : Int) < wrap64 ((a : Int) + 5)):=⟨by rw [wid (by omega) (by omega)];omega⟩
    by_cases hi : a + c < s.size
    · have hb:=bt_range s ((a + c : Nat) : Int)
      have hp:=pow128 (c:=c) (by omega)
      rw [bl_cons hi]
      generalize hB : bt s ((a + c : Nat) : Int) = b at *
      have hx0 : 0 ≤ b % 128 * 128 ^ c:=Int.mul_nonneg (by omega) (by omega)
      have hx1 : b % 128 * 128 ^ c ≤ 127 * 128 ^ c:=Int.mul_le_mul_of_nonneg_right (by omega) (by omega)
      have e1 : qn (wrap64 (n + wrap64 (Int.tmod (wrap64 b) 128 * 128 ^ c)) = n + b % 128 * 128 ^ c):=⟨by
        rw [wid (n:=b) (by omega) (by omega),tmod_pos hb.1,wid (n:=b % 128 * 128 ^ c) (by omega) (by omega),wid (by omega) (by omega)]⟩
      have e2 : qn (wrap64 (((a + c : Nat) : Int) + 1) = ((a + (c + 1) : Nat) : Int)):=⟨by rw [wid (by omega) (by omega)];omega⟩
      by_cases h8 : b < 128
      · simp only [rvGo]
        rw [if_pos h8]
        have : Ev (fun k=>impl_ReadVar.j1 k s a n (128 ^ c) ((a + c : Nat) : Int) true) (rvRes a (if (b = 0 ∧ 0 < c) ∨ n + b % 128 * 128 ^ c > 1000000000 then none else some (n + b % 128 * 128 ^ c,c + 1))):=by
          refine (Ev.now _).to fun k=>?_
          simp only [impl_ReadVar.j1,if_true]
          rw [if_pos (by omega),if_pos (by omega),hB,e1.out,e2.out,wid (n:=b) (by omega) (by omega),if_pos h8]
          by_cases hz : b = 0
          · rw [if_pos hz]
            by_cases hc0 : 0 < c
            · rw [if_pos (by omega),if_pos (.inl ⟨hz,hc0⟩)];rfl
            · rw [if_neg (by omega)]
              by_cases hm : n + b % 128 * 128 ^ c > 1000000000
              · rw [if_pos hm,if_pos (.inr hm)];rfl
              · rw [if_neg hm,if_neg (by omega)];simp only [rvRes];congr 3
          · rw [if_neg hz]
            by_cases hm : n + b % 128 * 128 ^ c > 1000000000
            · rw [if_pos hm,if_pos (.inr hm)];rfl
            · rw [if_neg hm,if_neg (by omega)];simp only [rvRes];congr 3
        refine this.to fun k=>?_
        simp only [impl_ReadVar.l0]
        rw [if_pos (by omega),decide_eq_true h5.out]
      · simp only [rvGo]
        rw [if_neg h8]
        have ih:=iRV_go s hs a f (c + 1) (n + b % 128 * 128 ^ c) (by omega) (by omega) (by omega) (by rw [Int.pow_succ];omega)
        rw [Int.pow_succ] at ih
        have : Ev (fun k=>impl_ReadVar.j1 k s a n (128 ^ c) ((a + c : Nat) : Int) true) (rvRes a (rvGo f (n + b % 128 * 128 ^ c) (128 ^ c * 128) (c + 1) ((bl s).drop (a + (c + 1))))):=by
          refine ih.to fun k=>?_
          simp only [impl_ReadVar.j1,if_true]
          rw [if_pos (by omega),if_pos (by omega),hB,e1.out,e2.out,wid (n:=b) (by omega) (by omega),if_neg h8,wid (n:=128 ^ c * 128) (by omega) (by omega)]
        refine this.to fun k=>?_
        simp only [impl_ReadVar.l0]
        rw [if_pos (by omega),decide_eq_true h5.out]
    · rw [bl_end (by omega)]
      simp only [rvGo,rvRes]
      have : Ev (fun k=>impl_ReadVar.j1 k s a n (128 ^ c) ((a + c : Nat) : Int) false) (0,0,false):=(Ev.now _).to fun k=>by simp only [impl_ReadVar.j1];rw [if_neg (by decide)]
      refine this.to fun k=>?_
      simp only [impl_ReadVar.l0]
      rw [if_neg (by omega)]
theorem iReadVar (s : ByteArray) (hs : s.size ≤ 140737488351232) (a : Int) : Ev (fun k=>impl_ReadVar.f k s a) (pReadVar s a):=by
  unfold impl_ReadVar.f pReadVar
  by_cases h : 0 ≤ a ∧ a ≤ s.size
  · rw [i_in_t h,if_pos h]
    simp only [Option.bind_some,if_true]
    have:=iRV_go s hs a.toNat 5 0 0 rfl (by omega) (by omega) (by decide)
    simp only [Nat.add_zero,Int.pow_zero,Int.toNat_of_nonneg h.1] at this
    exact this
  · rw [i_in_f h,if_neg h]
    simp only [Option.bind_some,Bool.false_eq_true,if_false]
    exact Ev.now _

theorem iReadShort (s : ByteArray) (hs : s.size ≤ 140737488351232) (a : Int) : Ev (fun k=>impl_ReadShort.f k s a) (pReadShort s a):=by
  unfold impl_ReadShort.f
  refine (iReadVar s hs a).bind ?_
  unfold pReadShort
  rcases pReadVar_cases s a with e|⟨n,next,e⟩
  · rw [e]
    simp only [Bool.false_eq_true,false_and,if_false]
    exact Ev.now _
  · obtain ⟨c,h0,hn,_,_,hc,h1,h2⟩:=pReadVar_some e
    rw [e]
    simp only [true_and,if_true]
    have w1 : wrap64 ((s.size : Int) - next) = (s.size : Int) - next:=wid (by omega) (by omega)
    have w2 : wrap64 (next + n) = next + n:=wid (by omega) (by omega)
    rw [w1,w2];clear w1 w2
    by_cases h8 : n ≤ 8000
    · by_cases h9 : n ≤ (s.size : Int) - next
      · rw [if_neg (by omega),if_neg (by omega),if_pos (by omega),if_pos (by omega),if_pos (by omega),if_pos ⟨h8,h9⟩]
        exact Ev.now _
      · rw [if_neg (by omega),if_pos (by omega),if_neg (fun h=>h9 h.2)]
        exact Ev.now _
    · rw [if_pos (by omega),if_neg (fun h=>h8 h.1)]
      exact Ev.now _

theorem sealed_bl (s : ByteArray) : bl (s ++ strOfNums (four (sumB s))) = bl s ++ four (sumB s):=by rw [bl_app,bl_str (four_byt _)]
theorem iUnsealed (s : ByteArray) (hs : s.size ≤ 140737488351232) : Ev (fun k=>impl_Unsealed.f k s) (pUnsealed s):=by
  unfold impl_Unsealed.f pUnsealed
  have w : wrap64 ((s.size : Int) - 4) = (s.size : Int) - 4:=wid (by omega) (by omega)
  rw [w];clear w
  by_cases h4 : 4 ≤ s.size
  · have e : ((s.size : Int) - 4).toNat = s.size - 4:=by omega
    simp only [if_neg (show ¬ (s.size : Int) < 4 by omega),if_pos (show 0 ≤ (s.size : Int) - 4 by omega),if_pos (show (s.size : Int) - 4 ≤ s.size by omega),e]
    refine (iSealed (cutB s) (by rw [cutB_size];omega)).bind ?_
    have hcs:=cutB_size s
    by_cases h8 : s.size - 4 ≤ 8000
    · have e1 : pSealed (cutB s) = (cutB s ++ strOfNums (four (sumB (cutB s))),true):=by unfold pSealed;rw [if_neg (by omega)]
      rw [e1]
      have hiff : (cutB s ++ strOfNums (four (sumB (cutB s)))).toList = s.toList ↔ (bl s).drop (s.size - 4) = four (sumB (cutB s)):=by
        rw [tl_bl,sealed_bl,cutB_bl]
        conv=>lhs;rhs;rw [← List.take_append_drop (s.size - 4) (bl s)]
        rw [List.append_cancel_left_eq]
        exact eq_comm
      by_cases hh : (bl s).drop (s.size - 4) = four (sumB (cutB s))
      · rw [if_pos (⟨h4,h8,hh⟩ : 4 ≤ s.size ∧ s.size - 4 ≤ 8000 ∧ (bl s).drop (s.size - 4) = four (sumB (cutB s)))]
        simp only [if_true]
        exact Ev.same (if_pos (hiff.2 hh))
      · rw [if_neg (fun h : 4 ≤ s.size ∧ s.size - 4 ≤ 8000 ∧ (bl s).drop (s.size - 4) = four (sumB (cutB s))=>hh h.2.2)]
        simp only [if_true]
        exact Ev.same (if_neg (fun h=>hh (hiff.1 h)))
    · have e1 : pSealed (cutB s) = (⟨#[]⟩,false):=by unfold pSealed;rw [if_pos (by omega)]
      rw [e1,if_neg (fun h : 4 ≤ s.size ∧ s.size - 4 ≤ 8000 ∧ (bl s).drop (s.size - 4) = four (sumB (cutB s))=>h8 h.2.1)]
      simp only [Bool.false_eq_true,if_false]
      exact Ev.now _
  · rw [if_neg (fun h : 4 ≤ s.size ∧ s.size - 4 ≤ 8000 ∧ (bl s).drop (s.size - 4) = four (sumB (cutB s))=>h4 h.1)]
    exact Ev.ifp (by omega) (Ev.now _)

theorem rS_b (b : ByteArray) (a : Int) : rS b a true = (noB,a,true):=if_pos rfl
theorem rS_y {b : ByteArray} {a : Int} (h : (pReadShort b a).2.2 = true) : rS b a false = ((pReadShort b a).1,(pReadShort b a).2.1,false):=(if_neg (by decide)).trans (if_pos h)
theorem rS_n {b : ByteArray} {a : Int} (h : ¬ (pReadShort b a).2.2 = true) : rS b a false = (noB,a,true):=(if_neg (by decide)).trans (if_neg h)
theorem rV_b (b : ByteArray) (a : Int) : rV b a true = (0,a,true):=if_pos rfl
theorem rV_y {b : ByteArray} {a : Int} (h : (pReadVar b a).2.2 = true) : rV b a false = ((pReadVar b a).1,(pReadVar b a).2.1,false):=(if_neg (by decide)).trans (if_pos h)
theorem rV_n {b : ByteArray} {a : Int} (h : ¬ (pReadVar b a).2.2 = true) : rV b a false = (0,a,true):=(if_neg (by decide)).trans (if_neg h)
theorem i_short (b : ByteArray) (hb : b.size ≤ 8000) (a : Int) (bad : Bool) : Ev (fun k=>impl_reader_short.f k b a bad) ((rS b a bad).1,b,(rS b a bad).2.1,(rS b a bad).2.2):=by
  unfold impl_reader_short.f
  refine (iReadShort b (by omega) a).bind ?_
  cases bad
  · refine Ev.ifn (by decide) ?_
    by_cases h' : (pReadShort b a).2.2 = true
    · rw [rS_y h']
      exact Ev.ifp h' (Ev.now _)
    · rw [rS_n h']
      exact Ev.ifn h' (Ev.now _)
  · rw [rS_b]
    exact Ev.ifp rfl (Ev.now _)
theorem i_num (b : ByteArray) (hb : b.size ≤ 8000) (a : Int) (bad : Bool) : Ev (fun k=>impl_reader_num.f k b a bad) ((rV b a bad).1,b,(rV b a bad).2.1,(rV b a bad).2.2):=by
  unfold impl_reader_num.f
  refine (iReadVar b (by omega) a).bind ?_
  cases bad
  · refine Ev.ifn (by decide) ?_
    by_cases h' : (pReadVar b a).2.2 = true
    · rw [rV_y h']
      exact Ev.ifp h' (Ev.now _)
    · rw [rV_n h']
      exact Ev.ifn h' (Ev.now _)
  · rw [rV_b]
    exact Ev.ifp rfl (Ev.now _)
theorem rS_bd (b : ByteArray) (hb : b.size ≤ 8000) (a : Int) (bad : Bool) : (rS b a bad).1.size ≤ 8000 ∧ ((rS b a bad).2.2 = false → bad = false ∧ a + 1 ≤ (rS b a bad).2.1 ∧ (rS b a bad).2.1 ≤ b.size):=by
  unfold rS
  by_cases h : bad = true
  · rw [if_pos h];exact ⟨Nat.zero_le _,fun h=>by simp at h⟩
  · rw [if_neg h]
    by_cases h' : (pReadShort b a).2.2 = true
    · rw [if_pos h']
      have:=rShort_bd h'
      exact ⟨this.2.2.2,fun _=>⟨by simpa using h,this.2.1,this.2.2.1⟩⟩
    · rw [if_neg h'];exact ⟨Nat.zero_le _,fun h=>by simp at h⟩
theorem rV_bd (b : ByteArray) (a : Int) (bad : Bool) : 0 ≤ (rV b a bad).1 ∧ (rV b a bad).1 ≤ 1000000000 ∧ ((rV b a bad).2.2 = false → bad = false ∧ a + 1 ≤ (rV b a bad).2.1 ∧ (rV b a bad).2.1 ≤ b.size):=by
  unfold rV
  by_cases h : bad = true
  · rw [if_pos h];exact ⟨Int.le_refl 0,show (0 : Int) ≤ 1000000000 by decide,fun h=>by simp at h⟩
  · rw [if_neg h]
    by_cases h' : (pReadVar b a).2.2 = true
    · rw [if_pos h']
      have:=rVar_bd h'
      exact ⟨this.2.2.2.1,this.2.2.2.2,fun _=>⟨by simpa using h,this.2.1,this.2.2.1⟩⟩
    · rw [if_neg h'];exact ⟨Int.le_refl 0,show (0 : Int) ≤ 1000000000 by decide,fun h=>by simp at h⟩
theorem iRP_end (s b : ByteArray) (n a : Int) (bad : Bool) (kind : Int) (acc : List It) (hl : acc.length ≤ 1048576) (hO : ∀ x ∈ acc,OkIt x) : Ev (fun k=>impl_ReadPage.j1 k s n false b a bad kind acc) (imEnd s kind b (a,bad,acc)):=by
  refine Ev.to (f:=fun k=>(impl_PageText.f k kind acc).bind fun bt272=>(impl_reader_ends.f b a bad).bind fun bt274=>if bt274.1 = true then (if bt272.2 = true then (if bt272.1.toList = s.toList then (some (kind,acc,true)) else (some (0,([] : List It),false))) else (some (0,([] : List It),false))) else (some (0,([] : List It),false))) ?_ fun k=>by simp only [impl_ReadPage.j1];rw [if_neg (by decide)]
  refine (iPageText kind acc hl hO).bind ?_
  have e : impl_reader_ends.f b a bad = some (decide (bad = false ∧ a = (b.size : Int)),b,a,bad):=by
    unfold impl_reader_ends.f
    cases bad
    · rw [if_neg (by decide)]
      congr 2
      by_cases h : a = (b.size : Int)
      · rw [decide_eq_true ⟨rfl,h⟩,beq_iff_eq];exact h
      · rw [decide_eq_false (fun g=>h g.2),beq_eq_false_iff_ne];exact h
    · rw [if_pos rfl,decide_eq_false (fun g=>by simp at g)]
  rw [e]
  simp only [Option.bind_some]
  by_cases h1 : bad = false ∧ a = (b.size : Int)
  · rw [decide_eq_true h1]
    by_cases h2 : (pPage kind acc).2 = true
    · by_cases h3 : (pPage kind acc).1 = s
      · rw [imEnd_y ⟨h1,h2,h3⟩]
        exact Ev.ifp rfl (Ev.ifp h2 (Ev.ifp (tl_inj.2 h3) (Ev.now _)))
      · rw [imEnd_n (fun h=>h3 h.2.2)]
        exact Ev.ifp rfl (Ev.ifp h2 (Ev.ifn (fun h=>h3 (tl_inj.1 h)) (Ev.now _)))
    · rw [imEnd_n (fun h=>h2 h.2.1)]
      exact Ev.ifp rfl (Ev.ifn h2 (Ev.now _))
  · rw [imEnd_n (fun h=>h1 h.1),decide_eq_false h1]
    exact Ev.ifn (by decide) (Ev.now _)
theorem iRP_go (s b : ByteArray) (hb : b.size ≤ 8000) (kind : Int) : ∀ (d : Nat) (a : Int) (bad : Bool) (acc : List It),d ≤ 1000000000 → acc.length ≤ 9000 → (bad = false → (acc.length : Int) ≤ a ∧ a ≤ b.size) → (∀ x ∈ acc,OkIt x) → Ev (fun k=>impl_ReadPage.l0 k s (d : Int) b a bad kind acc) (imEnd s kind b (imG kind b d a bad acc))
  | 0,a,bad,acc,hd,hl,hr,hO=>by
    rw [imG]
    refine (iRP_end s b 0 a bad kind acc (by omega) hO).to fun k=>?_
    simp only [impl_ReadPage.l0]
    rw [if_neg (by decide)]
    rfl
  | d + 1,a,bad,acc,hd,hl,hr,hO=>by
    have w : qn (wrap64 (((d + 1 : Nat) : Int) - 1) = (d : Int)):=⟨by rw [wid (by omega) (by omega)];omega⟩
    refine Ev.to (f:=fun k=>impl_ReadPage.j1 k s ((d + 1 : Nat) : Int) (!bad) b a bad kind acc) ?_ fun k=>by simp only [impl_ReadPage.l0];rw [if_pos (by omega)]
    rw [imG]
    by_cases h1 : bad = true
    · rw [if_pos h1]
      subst h1
      exact iRP_end s b _ a true kind acc (by omega) hO
    · have e : bad = false:=by simpa using h1
      subst e
      obtain ⟨ha,hab⟩:=hr rfl
      rw [if_neg (by decide)]
      have k1:=rS_bd b hb a false
      by_cases h2 : kind = 2
      · rw [if_pos h2]
        have k2:=rV_bd b (rS b a false).2.1 (rS b a false).2.2
        have ok : OkIt ⟨(rS b a false).1,noB,(rV b (rS b a false).2.1 (rS b a false).2.2).1⟩:=⟨by show (rS b a false).1.size ≤ _;omega,Nat.zero_le _⟩
        have ih:=iRP_go s b hb kind d (rV b (rS b a false).2.1 (rS b a false).2.2).2.1 (rV b (rS b a false).2.1 (rS b a false).2.2).2.2 (acc ++ [⟨(rS b a false).1,noB,(rV b (rS b a false).2.1 (rS b a false).2.2).1⟩]) (by omega) (by rw [List.length_append,List.length_singleton];omega) (fun h=>by
          have q2:=k2.2.2 h
          have q1:=k1.2 q2.1
          rw [List.length_append,List.length_singleton]
          omega) (snocOk hO ok)
        refine Ev.to (f:=fun k=>(impl_reader_short.f k b a false).bind fun bt253=>(impl_reader_num.f k bt253.2.1 bt253.2.2.1 bt253.2.2.2).bind fun bt258=>if acc.length < 3518437208883 then (impl_ReadPage.l0 k s (d : Int) bt258.2.1 bt258.2.2.1 bt258.2.2.2 kind (acc ++ [(⟨bt253.1,noB,bt258.1⟩ : It)])) else none) ((i_short b hb a false).bind ((i_num b hb _ _).bind (Ev.ifp (by omega) ih))) fun k=>?_
        simp only [impl_ReadPage.j1,w.out,Bool.not_false,if_true,if_pos h2]
        rfl
      · rw [if_neg h2]
        have k2:=rS_bd b hb (rS b a false).2.1 (rS b a false).2.2
        have ok : OkIt ⟨(rS b a false).1,(rS b (rS b a false).2.1 (rS b a false).2.2).1,0⟩:=⟨by show (rS b a false).1.size ≤ _;omega,by show (rS b (rS b a false).2.1 (rS b a false).2.2).1.size ≤ _;omega⟩
        have ih:=iRP_go s b hb kind d (rS b (rS b a false).2.1 (rS b a false).2.2).2.1 (rS b (rS b a false).2.1 (rS b a false).2.2).2.2 (acc ++ [⟨(rS b a false).1,(rS b (rS b a false).2.1 (rS b a false).2.2).1,0⟩]) (by omega) (by rw [List.length_append,List.length_singleton];omega) (fun h=>by
          have q2:=k2.2 h
          have q1:=k1.2 q2.1
          rw [List.length_append,List.length_singleton]
          omega) (snocOk hO ok)
        refine Ev.to (f:=fun k=>(impl_reader_short.f k b a false).bind fun bt253=>(impl_reader_short.f k bt253.2.1 bt253.2.2.1 bt253.2.2.2).bind fun bt265=>if acc.length < 3518437208883 then (impl_ReadPage.l0 k s (d : Int) bt265.2.1 bt265.2.2.1 bt265.2.2.2 kind (acc ++ [(⟨bt253.1,bt265.1,0⟩ : It)])) else none) ((i_short b hb a false).bind ((i_short b hb _ _).bind (Ev.ifp (by omega) ih))) fun k=>?_
        simp only [impl_ReadPage.j1,w.out,Bool.not_false,if_true,if_neg h2]
theorem i_one (b : ByteArray) (hb : b.size ≤ 8000) : impl_reader_one.f b 0 false = some ((rO b).1,b,(rO b).2.1,(rO b).2.2):=by
  unfold impl_reader_one.f rO
  rw [if_neg (by decide)]
  have w2 : wrap64 (0 + 1) = 1:=wid (by omega) (by omega)
  have w1 : wrap64 (wrap64 (0 + 1) - 1) = 0:=by rw [w2];exact wid (by omega) (by omega)
  rw [w1,w2]
  by_cases h : 1 ≤ b.size
  · have h0:=bt_range b 0
    have w : wrap64 (bt b 0) = bt b 0:=wid (by omega) (by omega)
    rw [if_neg (by omega),if_pos (by omega),if_pos (by omega),if_pos h,w]
  · rw [if_pos (by omega),if_neg h]
theorem iReadPage_ (s : ByteArray) (hs : s.size ≤ 140737488351232) : Ev (fun k=>impl_ReadPage.f k s) (iReadP s):=by
  have hb:=unsealed_size (s:=s)
  unfold impl_ReadPage.f
  refine (iUnsealed s hs).bind ?_
  unfold iReadP
  by_cases h : (pUnsealed s).2 = true
  · rw [if_pos h]
    refine Ev.ifp h ?_
    generalize (pUnsealed s).1 = b at hb ⊢
    simp only [impl_newReader.f,Option.bind_some]
    rw [i_one b hb]
    simp only [Option.bind_some]
    refine (i_num b hb _ _).bind ?_
    have kv:=rV_bd b (rO b).2.1 (rO b).2.2
    have ho : (rO b).2.2 = false → 0 ≤ (rO b).2.1:=by unfold rO;split <;> simp
    have g:=iRP_go s b hb (rO b).1 (rV b (rO b).2.1 (rO b).2.2).1.toNat (rV b (rO b).2.1 (rO b).2.2).2.1 (rV b (rO b).2.1 (rO b).2.2).2.2 [] (by omega) (by simp) (fun h=>by
      have q:=kv.2.2 h
      have:=ho q.1
      simp only [List.length_nil]
      omega) (fun x hx=>by simp at hx)
    rw [Int.toNat_of_nonneg kv.1] at g
    exact g
  · rw [if_neg h]
    exact Ev.ifn h (Ev.now _)
theorem iReadPage (s : ByteArray) (hs : s.size ≤ 140737488351232) : Ev (fun k=>impl_ReadPage.f k s) (pReadPage s):=by
  rw [← readP_eq]
  exact iReadPage_ s hs

theorem pReadPage_len (s : ByteArray) : (pReadPage s).2.1.length ≤ 54:=by
  have key : pReadPage s = noPage ∨ ∃ (kind : Int) (l : List It),pPage kind l = (s,true) ∧ pReadPage s = (kind,l,true):=by
    by_cases h : ∃ (kind : Int) (l : List It),pPage kind l = (s,true)
    · obtain ⟨kind,l,h⟩:=h
      exact .inr ⟨kind,l,h,pReadPage_of h⟩
    · left
      unfold pReadPage
      split
      · unfold spEnd
        split
        · rename_i hc
          exact absurd ⟨_,_,pair_true hc.2.1 hc.2.2⟩ h
        · rfl
      · rfl
  rcases key with e|⟨kind,l,h,e⟩
  · rw [e];exact Nat.zero_le _
  · rw [e]
    exact sumT_len54 (pPage_true h).2.2.1
theorem eqPageR (kind : Int) (l : List It) (hl : l.length ≤ 1048576) : Ev (fun k=>laws_eqPage.f k kind l kind l) true:=by
  unfold laws_eqPage.f
  exact Ev.ifp rfl ((eqItemS l (by omega)).bind (Ev.ifp rfl (Ev.now _)))
theorem markPageR (kind : Int) (l : List It) (hl : l.length ≤ 1048576) : Ev (fun k=>laws_markPage.f k kind l 1) (1 + 3 * (l.length : Int),mkItem 1 l):=by
  unfold laws_markPage.f
  exact (markItemS l 1 (by omega) (by omega) (by omega)).bind (Ev.now _)
theorem heldPageR (kind : Int) (l : List It) (hl : l.length ≤ 1048576) : Ev (fun k=>laws_heldPage.f k kind (mkItem 1 l) 1) (1 + 3 * (l.length : Int)):=by
  unfold laws_heldPage.f
  exact (heldItemS l 1 (by omega) (by omega) (by omega)).bind (Ev.ifn (by omega) (Ev.now _))
theorem FnExactReadPage : laws_FnExactReadPage.Pure:=by
  intro s hs
  refine Ev.rounds (g:=fun k=>laws_FnExactReadPage.f k s) ?_
  unfold laws_FnExactReadPage.f
  by_cases hb : (s.size : Int) > 1048576
  · exact Ev.ifp hb (Ev.now _)
  refine Ev.ifn hb ?_
  have hI:=iReadPage s (by omega)
  have hS:=sReadPage s (by omega)
  have hl:=pReadPage_len s
  generalize pReadPage s = z at hI hS hl
  obtain ⟨kind,l,b⟩:=z
  simp only at hl
  have hE:=eqPageR kind l (by omega)
  have hM:=markPageR kind l (by omega)
  have hH:=heldPageR kind l (by omega)
  refine hS.bind (hI.bind (hE.bind (Ev.ifp rfl ?_)))
  simp only [bne_rfl_bool]
  refine Ev.to (f:=fun k=>(laws_markPage.f k kind l 1).bind fun bt317=>(laws_heldPage.f k kind bt317.2 1).bind fun t319=>if t319 < 0 then some false else if t319 = bt317.1 then (impl_ReadPage.f k s).bind fun bt320=>(laws_eqPage.f k bt320.1 bt320.2.1 kind l).bind fun t326=>if t326 = true then laws_FnExactReadPage.j1 k bt317.1 (bt320.2.2 != b) kind bt317.2 else laws_FnExactReadPage.j1 k bt317.1 true kind bt317.2 else some false) (r:=true) ?_ fun k=>by simp only [laws_FnExactReadPage.j0];rw [if_neg (by decide)]
  refine hM.bind (hH.bind (Ev.ifn (by omega) (Ev.ifp rfl (hI.bind (hE.bind (Ev.ifp rfl ?_))))))
  simp only [bne_rfl_bool]
  refine Ev.to (f:=fun k=>(laws_heldPage.f k kind (mkItem 1 l) 1).bind fun t=>if t < 0 then some false else if t = 1 + 3 * (l.length : Int) then some true else some false) (r:=true) ?_ fun k=>by simp only [laws_FnExactReadPage.j1];rw [if_neg (by decide)]
  exact hH.bind (Ev.ifn (by omega) (Ev.ifp rfl (Ev.now _)))

end Go.Proofs.Ytfmemcffbfahhaa.Pure
