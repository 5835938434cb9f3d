/- What is written to a drawn device is read, and kept by a flush; all other sectors are read as before, whatever the bytes that are drawn from. -/
import Derived.Test.YtfmemcffbfahhaaZFnDevicesx5
import Derived.Laws.BitsAllLaws
namespace Go.Proofs.Ytfmemcffbfahhaa.Pure
open Go.RowKit Go.Proofs.Ytfmemcffbfahhaa.QFnDevices Go.Proofs.YtfmemcffbfahhaaW.PrintWords Go.Proofs.YtfmemcffbfahhaaW.PrintLast
set_option linter.unusedVariables false
set_option linter.unusedSimpArgs false
set_option maxHeartbeats 4000000

theorem wid {n : Int} (h0 : -9223372036854775808 ≤ n) (h1 : n < 9223372036854775808) : wrap64 n = n:=by unfold wrap64;omega
theorem _root_.Go.Proofs.YtfmemcffbfahhaaW.PrintWords.Ev.same {α : Type} {o : Option α} {r : α} (h : o = some r) : Ev (fun _=>o) r:=⟨0,fun _ _=>h⟩
theorem _root_.Go.Proofs.YtfmemcffbfahhaaW.PrintWords.Ev.to {α : Type} {g f : Nat → Option α} {r : α} (k : Ev f r) (h : ∀ k,g (k + 1) = f k) : Ev g r:=Ev.step h k
theorem _root_.Go.Proofs.YtfmemcffbfahhaaW.PrintWords.Ev.cg {α : Type} {g f : Nat → Option α} {r : α} (k : Ev f r) (h : ∀ k,g k = f k) : Ev g r:=Ev.congr h k
theorem _root_.Go.Proofs.YtfmemcffbfahhaaW.PrintWords.Ev.ifp {α : Type} {c : Prop} [Decidable c] {g f : Nat → Option α} {r : α} (h : c) (e : Ev g r) : Ev (fun k=>if c then g k else f k) r:=by simp only [if_pos h];exact e
theorem _root_.Go.Proofs.YtfmemcffbfahhaaW.PrintWords.Ev.ifn {α : Type} {c : Prop} [Decidable c] {g f : Nat → Option α} {r : α} (h : ¬ c) (e : Ev f r) : Ev (fun k=>if c then g k else f k) r:=by simp only [if_neg h];exact e
def Byt (xs : List Int) : Prop:=∀ x ∈ xs,0 ≤ x ∧ x < 256
theorem Byt.nil : Byt []:=fun _ h=>by simp at h
theorem Byt.cons {x : Int} {xs : List Int} (h : 0 ≤ x ∧ x < 256) (h' : Byt xs) : Byt (x :: xs):=fun y hy=>by
  rcases List.mem_cons.1 hy with rfl|hy
  · exact h
  · exact h' y hy
theorem Byt.app {xs ys : List Int} (h : Byt xs) (h' : Byt ys) : Byt (xs ++ ys):=fun y hy=>by
  rcases List.mem_append.1 hy with hy|hy
  · exact h y hy
  · exact h' y hy
theorem Byt.head {x : Int} {xs : List Int} (h : Byt (x :: xs)) : 0 ≤ x ∧ x < 256:=h x (List.mem_cons_self ..)
theorem Byt.drop {xs : List Int} (h : Byt xs) (n : Nat) : Byt (xs.drop n):=fun y hy=>h y (List.mem_of_mem_drop hy)
theorem Byt.take {xs : List Int} (h : Byt xs) (n : Nat) : Byt (xs.take n):=fun y hy=>h y (List.mem_of_mem_take hy)
theorem tmod_pos {a b : Int} (h : 0 ≤ a) : Int.tmod a b = a % b:=Int.tmod_eq_emod_of_nonneg h
theorem Byt.one {x : Int} (h : 0 ≤ x ∧ x < 256) : Byt [x]:=Byt.nil.cons h
theorem str_len (xs : List Int) : (strOfNums xs).size = xs.length:=strOfNums_size xs

/-! Draws: whatever the bytes, a number in its bounds -/
theorem and255 (y : Int) : 0 ≤ Go.bits .and .i64 y 255 ∧ Go.bits .and .i64 y 255 < 256:=by
  have h : (BitVec.ofInt 64 y &&& BitVec.ofInt 64 255).toNat ≤ 255:=by
    rw [BitVec.toNat_and];exact Nat.le_trans Nat.and_le_right (by decide)
  have e : Go.bits .and .i64 y 255 = IntKind.i64.wrap ((BitVec.ofInt 64 y &&& BitVec.ofInt 64 255).toNat : Nat):=rfl
  rw [e,IntKind.wrap_i64]
  omega
theorem dByte (b : List Int) (i h : Int) (hb : b.length ≤ 140737488351232) (hi : 0 ≤ i) : ∃ x i' h',spec_l01Byte.f b i h = some (x,i',h') ∧ 0 ≤ x ∧ x < 256 ∧ 0 ≤ i':=by
  unfold spec_l01Byte.f
  by_cases h1 : i < (b.length : Int)
  · have w : wrap64 (i + 1) = i + 1:=wid (by omega) (by omega)
    rw [w];clear w
    rw [if_pos h1,if_pos hi]
    exact ⟨_,_,_,rfl,(and255 _).1,(and255 _).2,by omega⟩
  · rw [if_neg h1]
    exact ⟨_,_,_,rfl,(and255 _).1,(and255 _).2,hi⟩
theorem dBelow (b : List Int) (i h n : Int) (hb : b.length ≤ 140737488351232) (hi : 0 ≤ i) (hn : 0 < n) : ∃ x i' h',spec_l01Below.f b i h n = some (x,i',h') ∧ 0 ≤ x ∧ x < n ∧ 0 ≤ i':=by
  unfold spec_l01Below.f
  rw [if_neg (by omega)]
  obtain ⟨x1,i1,h1,e1,p1,q1,r1⟩:=dByte b i h hb hi
  by_cases hs : n ≤ 256
  · rw [if_pos hs,e1]
    simp only [Option.bind_some]
    rw [if_neg (by omega),tmod_pos p1]
    exact ⟨_,_,_,rfl,Int.emod_nonneg _ (by omega),Int.emod_lt_of_pos _ hn,r1⟩
  · obtain ⟨x2,i2,h2,e2,p2,q2,r2⟩:=dByte b i1 h1 hb r1
    obtain ⟨x3,i3,h3,e3,p3,q3,r3⟩:=dByte b i2 h2 hb r2
    obtain ⟨x4,i4,h4,e4,p4,q4,r4⟩:=dByte b i3 h3 hb r3
    have w1 : wrap64 (x1 * 16777216) = x1 * 16777216:=wid (by omega) (by omega)
    have w2 : wrap64 (x2 * 65536) = x2 * 65536:=wid (by omega) (by omega)
    have w3 : wrap64 (x3 * 256) = x3 * 256:=wid (by omega) (by omega)
    have w4 : wrap64 (x1 * 16777216 + x2 * 65536) = x1 * 16777216 + x2 * 65536:=wid (by omega) (by omega)
    have w5 : wrap64 (x1 * 16777216 + x2 * 65536 + x3 * 256) = x1 * 16777216 + x2 * 65536 + x3 * 256:=wid (by omega) (by omega)
    have w6 : wrap64 (x1 * 16777216 + x2 * 65536 + x3 * 256 + x4) = x1 * 16777216 + x2 * 65536 + x3 * 256 + x4:=wid (by omega) (by omega)
    rw [if_neg hs,e1]
    simp only [Option.bind_some]
    rw [e2]
    simp only [Option.bind_some]
    rw [e3]
    simp only [Option.bind_some]
    rw [e4]
    simp only [Option.bind_some,w1,w2,w3,w4,w5,w6]
    clear w1 w2 w3 w4 w5 w6
    rw [if_neg (by omega),tmod_pos (by omega)]
    exact ⟨_,_,_,rfl,Int.emod_nonneg _ (by omega),Int.emod_lt_of_pos _ hn,r4⟩
theorem dNew_go (b : List Int) (hb : b.length ≤ 140737488351232) : ∀ (d i : Nat) (x : Int),i + d = b.length → ∃ h,Ev (fun k=>spec_l01New.l0 k b x (i : Int)) (b,0,h)
  | 0,i,x,hi=>⟨x,(Ev.now _).to fun k=>by simp only [spec_l01New.l0];rw [if_neg (by omega)]⟩
  | d + 1,i,x,hi=>by
    by_cases h4 : (i : Int) < 4000
    · have w : wrap64 ((i : Int) + 1) = ((i + 1 : Nat) : Int):=by rw [wid (by omega) (by omega)];rfl
      obtain ⟨h,e⟩:=dNew_go b hb d (i + 1) (Go.bits .and .i64 (wrap64 ((wrap64 ((wrap64 (x * 131)) + (wrap64 (rd b (i : Int))))) + 7)) 1073741823) (by omega)
      refine ⟨h,e.to fun k=>?_⟩
      simp only [spec_l01New.l0,w]
      clear w
      rw [if_pos (by omega),if_pos h4,if_pos (by omega)]
    · exact ⟨x,(Ev.now _).to fun k=>by simp only [spec_l01New.l0];rw [if_pos (by omega),if_neg h4]⟩
theorem dNew (b : List Int) (hb : b.length ≤ 140737488351232) : ∃ h,Ev (fun k=>spec_l01New.f k b) (b,0,h):=by
  unfold spec_l01New.f
  exact dNew_go b hb b.length 0 _ (by omega)

theorem dText_go (b : List Int) (hb : b.length ≤ 140737488351232) (n : Int) (hn : n ≤ 5000) : ∀ (d : Nat) (acc : List Int) (j i h : Int),0 ≤ j → (acc.length : Int) = j → j + d = n → 0 ≤ i → Byt acc →
    ∃ s i' h',Ev (fun k=>spec_l01Text.l0 k n acc j b i h) (s,i',h') ∧ (s.size : Int) = n ∧ 0 ≤ i'
  | 0,acc,j,i,h,hj,hl,hd,hi,hB=>⟨strOfNums acc,i,h,(Ev.now _).to fun k=>by simp only [spec_l01Text.l0];rw [if_neg (by omega)],by rw [str_len];omega,hi⟩
  | d + 1,acc,j,i,h,hj,hl,hd,hi,hB=>by
    obtain ⟨x,i1,h1,e,p,q,r⟩:=dByte b i h hb hi
    have w : wrap64 (j + 1) = j + 1:=wid (by omega) (by omega)
    obtain ⟨s,i',h',ev,hs,hi'⟩:=dText_go b hb n hn d (acc ++ [x % 256]) (j + 1) i1 h1 (by omega) (by rw [List.length_append];simp;omega) (by omega) r (hB.app (Byt.one ⟨by omega,by omega⟩))
    refine ⟨s,i',h',ev.to fun k=>?_,hs,hi'⟩
    simp only [spec_l01Text.l0,w,e,Option.bind_some]
    clear w
    rw [if_pos (by omega),if_pos (by omega)]
theorem dText (b : List Int) (hb : b.length ≤ 140737488351232) (n i h : Int) (h0 : 0 ≤ n) (hn : n ≤ 5000) (hi : 0 ≤ i) : ∃ s i' h',Ev (fun k=>spec_l01Text.f k b i h n) (s,i',h') ∧ (s.size : Int) = n ∧ 0 ≤ i':=by
  obtain ⟨s,i',h',ev,hs,hi'⟩:=dText_go b hb n hn n.toNat [] 0 i h (by omega) rfl (by omega) hi Byt.nil
  refine ⟨s,i',h',?_,hs,hi'⟩
  unfold spec_l01Text.f
  exact Ev.ifn (by omega) (ev.to fun k=>by simp only [spec_l01Text.j0])

theorem getD_at {α : Type} {xs : List α} {i : Nat} (z : α) (h : i < xs.length) : xs.getD ((i : Int)).toNat z = xs[i]:=by
  rw [Int.toNat_natCast,List.getD_eq_getElem?_getD,List.getElem?_eq_getElem h];rfl
theorem rdOf_at {α : Type} {xs : List α} {i : Nat} (z : α) (h : i < xs.length) : rdOf z xs (i : Int) = xs[i]:=getD_at z h
theorem rd_at {xs : List Int} {i : Nat} (h : i < xs.length) : rd xs (i : Int) = xs[i]:=getD_at 0 h
theorem ri_Put {xs : List S98} {i : Nat} (h : i < xs.length) : rd_T98 xs (i : Int) = xs[i]:=getD_at _ h

/-! Right devices -/
def putOk (n : Nat) (p : S98) : Bool:=decide (0 ≤ p.f0 ∧ p.f0 < (n : Int) ∧ p.f1.size ≤ 64)
def devOk (s : List ByteArray) (p : List S98) : Bool:=decide (1 ≤ s.length ∧ s.length ≤ 400 ∧ p.length ≤ 400) && ((s.all fun x=>decide (x.size ≤ 64)) && (p.all fun x=>putOk s.length x))
theorem devOk_t {s : List ByteArray} {p : List S98} (h : devOk s p = true) : (1 ≤ s.length ∧ s.length ≤ 400 ∧ p.length ≤ 400) ∧ (∀ x ∈ s,x.size ≤ 64) ∧ ∀ x ∈ p,0 ≤ x.f0 ∧ x.f0 < (s.length : Int) ∧ x.f1.size ≤ 64:=by
  unfold devOk putOk at h
  simp only [Bool.and_eq_true,decide_eq_true_eq,List.all_eq_true] at h
  exact h
theorem devOk_mk {s : List ByteArray} {p : List S98} (h : (1 ≤ s.length ∧ s.length ≤ 400 ∧ p.length ≤ 400) ∧ (∀ x ∈ s,x.size ≤ 64) ∧ ∀ x ∈ p,0 ≤ x.f0 ∧ x.f0 < (s.length : Int) ∧ x.f1.size ≤ 64) : devOk s p = true:=by
  unfold devOk putOk
  simp only [Bool.and_eq_true,decide_eq_true_eq,List.all_eq_true]
  exact h

def pDeviceNew (n : Int) : List ByteArray × List S98 × Bool:=if 1 ≤ n ∧ n ≤ 400 then (List.replicate n.toNat (⟨#[]⟩ : ByteArray),[],true) else ([],[],false)

theorem s_in (a b c : Int) : spec_l01In.f a b c = some (decide (b ≤ a ∧ a ≤ c)):=by
  unfold spec_l01In.f
  by_cases h : a ≥ b
  · rw [if_pos h];simp [show b ≤ a from h]
  · rw [if_neg h];simp [show ¬ b ≤ a from h]
theorem s_in_t {a b c : Int} (h : b ≤ a ∧ a ≤ c) : spec_l01In.f a b c = some true:=by rw [s_in,decide_eq_true h]
theorem s_in_f {a b c : Int} (h : ¬ (b ≤ a ∧ a ≤ c)) : spec_l01In.f a b c = some false:=by rw [s_in,decide_eq_false h]

theorem sDeviceNew (n : Int) : spec_DeviceNew.f n = some (pDeviceNew n):=by
  unfold spec_DeviceNew.f pDeviceNew
  by_cases h : 1 ≤ n ∧ n ≤ 400
  · rw [s_in_t h,if_pos h]
    simp only [Option.bind_some,if_true]
    rw [if_pos (by omega),if_pos (by omega)]
  · rw [s_in_f h,if_neg h]
    simp only [Option.bind_some,Bool.false_eq_true,if_false]

def OkQ (n : Nat) (p : S98) : Prop:=0 ≤ p.f0 ∧ p.f0 < (n : Int) ∧ p.f1.size ≤ 64
theorem dDev_l1 (b : List Int) (hb : b.length ≤ 140737488351232) (s : List ByteArray) (hs : 1 ≤ s.length ∧ s.length ≤ 8) : ∀ (d : Nat) (acc : List S98) (j i h : Int),0 ≤ j → j + d = 6 → (acc.length : Int) = j → 0 ≤ i → (∀ x ∈ acc,OkQ s.length x) → ∃ p,Ev (fun k=>spec_DrawRightDevice.l1 k j b i h s acc) (s,p) ∧ p.length ≤ 6 ∧ ∀ x ∈ p,OkQ s.length x
  | d,acc,j,i,h,hj,hd,hl,hi,hA=>by
    obtain ⟨x1,i1,h1,e1,p1,q1,r1⟩:=dBelow b i h 7 hb hi (by omega)
    by_cases c : j < x1
    · rcases d with _|d
      · omega
      · obtain ⟨x2,i2,h2,e2,p2,q2,r2⟩:=dBelow b i1 h1 (s.length : Int) hb r1 (by omega)
        obtain ⟨x3,i3,h3,e3,p3,q3,r3⟩:=dBelow b i2 h2 6 hb r2 (by omega)
        obtain ⟨t,i4,h4,ev4,ht,r4⟩:=dText b hb x3 i3 h3 p3 (by omega) r3
        obtain ⟨p,ev,hp⟩:=dDev_l1 b hb s hs d (acc ++ [⟨x2,t⟩]) (j + 1) i4 h4 (by omega) (by omega) (by rw [List.length_append];simp;omega) r4 (fun y hy=>by
          rcases List.mem_append.1 hy with hy|hy
          · exact hA y hy
          · rw [List.mem_singleton.1 hy];exact ⟨p2,q2,by simp only;omega⟩)
        have w : wrap64 (j + 1) = j + 1:=wid (by omega) (by omega)
        refine ⟨p,Ev.to (f:=fun k=>(spec_l01Text.f k b i3 h3 x3).bind fun bt=>if acc.length < 5864062014805 then spec_DrawRightDevice.l1 k (j + 1) b bt.2.1 bt.2.2 s (acc ++ [(⟨x2,bt.1⟩ : S98)]) else none) (ev4.bind (Ev.ifp (by omega) ev)) fun k=>?_,hp⟩
        simp only [spec_DrawRightDevice.l1,w,e1,e2,e3,Option.bind_some]
        clear w
        rw [if_pos c]
    · refine ⟨acc,(Ev.now _).to fun k=>?_,by omega,hA⟩
      simp only [spec_DrawRightDevice.l1,e1,Option.bind_some]
      rw [if_neg c]
theorem dDev_l0 (b : List Int) (hb : b.length ≤ 140737488351232) : ∀ (d : Nat) (s : List ByteArray) (j i h : Int),0 ≤ j → j + d = s.length → (1 ≤ s.length ∧ s.length ≤ 8) → 0 ≤ i → (∀ x ∈ s,x.size ≤ 64) → ∃ s' p,Ev (fun k=>spec_DrawRightDevice.l0 k j b i h s []) (s',p) ∧ (1 ≤ s'.length ∧ s'.length ≤ 8) ∧ (∀ x ∈ s',x.size ≤ 64) ∧ p.length ≤ 6 ∧ ∀ x ∈ p,OkQ s'.length x
  | 0,s,j,i,h,hj,hd,hs,hi,hA=>by
    obtain ⟨p,ev,hp⟩:=dDev_l1 b hb s hs 6 [] 0 i h (by omega) (by omega) rfl hi (fun _ h=>by simp at h)
    refine ⟨s,p,ev.to fun k=>?_,hs,hA,hp⟩
    simp only [spec_DrawRightDevice.l0]
    rw [if_neg (by omega)]
  | d + 1,s,j,i,h,hj,hd,hs,hi,hA=>by
    obtain ⟨x1,i1,h1,e1,p1,q1,r1⟩:=dBelow b i h 6 hb hi (by omega)
    obtain ⟨t,i2,h2,ev2,ht,r2⟩:=dText b hb x1 i1 h1 p1 (by omega) r1
    obtain ⟨s',p,ev,hr⟩:=dDev_l0 b hb d (s.set j.toNat t) (j + 1) i2 h2 (by omega) (by rw [List.length_set];omega) (by rw [List.length_set];exact hs) r2 (fun y hy=>by
      rcases List.mem_or_eq_of_mem_set hy with hy|hy
      · exact hA y hy
      · rw [hy];omega)
    have w : wrap64 (j + 1) = j + 1:=wid (by omega) (by omega)
    refine ⟨s',p,Ev.to (f:=fun k=>(spec_l01Text.f k b i1 h1 x1).bind fun bt=>if 0 ≤ j then spec_DrawRightDevice.l0 k (j + 1) b bt.2.1 bt.2.2 (s.set j.toNat bt.1) [] else none) (ev2.bind (Ev.ifp hj ev)) fun k=>?_,hr⟩
    simp only [spec_DrawRightDevice.l0,w,e1,Option.bind_some]
    clear w
    rw [if_pos (by omega)]
def dD (b : List Int) (k : Nat) (bt : Int × Int × Int) : Option (List ByteArray × List S98):=(spec_DeviceNew.f (wrap64 (1 + bt.1))).bind fun bt2=>spec_DrawRightDevice.l0 k 0 b bt.2.1 bt.2.2 bt2.1 bt2.2.1
def dD2 (b : List Int) (k : Nat) (i h : Int) (bt : List ByteArray × List S98 × Bool) : Option (List ByteArray × List S98):=spec_DrawRightDevice.l0 k 0 b i h bt.1 bt.2.1
theorem dDev (b : List Int) (hb : b.length ≤ 140737488351232) : ∃ s p,Ev (fun k=>spec_DrawRightDevice.f k b) (s,p) ∧ devOk s p = true ∧ s.length ≤ 8 ∧ p.length ≤ 6:=by
  obtain ⟨h,ev⟩:=dNew b hb
  obtain ⟨x,i1,h1,e,p1,q1,r⟩:=dBelow b 0 h 8 hb (by omega) (by omega)
  have hx : (List.replicate (1 + x).toNat (⟨#[]⟩ : ByteArray)).length = (1 + x).toNat:=List.length_replicate ..
  obtain ⟨s,p,ev2,hs,hs2,hp,hp2⟩:=dDev_l0 b hb (1 + x).toNat (List.replicate (1 + x).toNat (⟨#[]⟩ : ByteArray)) 0 i1 h1 (by omega) (by omega) (by omega) r (fun y hy=>by rw [List.eq_of_mem_replicate hy];decide)
  refine ⟨s,p,?_,devOk_mk ⟨by omega,hs2,hp2⟩,hs.2,hp⟩
  unfold spec_DrawRightDevice.f
  refine ev.bind (f:=fun k bt=>(spec_l01Below.f bt.1 bt.2.1 bt.2.2 8).bind fun bt2=>(spec_DeviceNew.f (wrap64 (1 + bt2.1))).bind fun bt3=>spec_DrawRightDevice.l0 k 0 bt.1 bt2.2.1 bt2.2.2 bt3.1 bt3.2.1) ?_
  have e2 : spec_DeviceNew.f (wrap64 (1 + x)) = some (List.replicate (1 + x).toNat (⟨#[]⟩ : ByteArray),[],true):=by
    rw [wid (by omega) (by omega),sDeviceNew]
    unfold pDeviceNew
    rw [if_pos (by omega)]
  have step2 : ∀ k,dD b k (x,i1,h1) = dD2 b k i1 h1 (List.replicate (1 + x).toNat (⟨#[]⟩ : ByteArray),[],true):=fun k=>(congrArg (fun o=>Option.bind o (dD2 b k i1 h1)) e2).trans (Option.bind_some _ _)
  have step : ∀ k,(spec_l01Below.f b 0 h 8).bind (dD b k) = dD b k (x,i1,h1):=fun k=>(congrArg (fun o=>Option.bind o (dD b k)) e).trans (Option.bind_some _ _)
  exact Ev.cg (f:=fun k=>dD b k (x,i1,h1)) (Ev.cg (f:=fun k=>dD2 b k i1 h1 (List.replicate (1 + x).toNat (⟨#[]⟩ : ByteArray),[],true)) ev2 step2) step

theorem dPlaces_go (b : List Int) (hb : b.length ≤ 140737488351232) : ∀ (d : Nat) (acc : List Int) (j i h : Int),0 ≤ j → j + d = 12 → (acc.length : Int) = j → 0 ≤ i → (∀ x ∈ acc,0 ≤ x ∧ x < 10000) → ∃ l,Ev (fun k=>spec_DrawPlaces.l0 k acc j b i h) l ∧ l.length = 12 ∧ ∀ x ∈ l,0 ≤ x ∧ x < 10000
  | 0,acc,j,i,h,hj,hd,hl,hi,hA=>⟨acc,(Ev.now _).to fun k=>by simp only [spec_DrawPlaces.l0];rw [if_neg (by omega)],by omega,hA⟩
  | d + 1,acc,j,i,h,hj,hd,hl,hi,hA=>by
    obtain ⟨x,i1,h1,e,p,q,r⟩:=dBelow b i h 10000 hb hi (by omega)
    obtain ⟨l,ev,hl1,hl2⟩:=dPlaces_go b hb d (acc ++ [x]) (j + 1) i1 h1 (by omega) (by omega) (by rw [List.length_append];simp;omega) r (fun y hy=>by
      rcases List.mem_append.1 hy with hy|hy
      · exact hA y hy
      · rw [List.mem_singleton.1 hy];exact ⟨p,q⟩)
    have w : wrap64 (j + 1) = j + 1:=wid (by omega) (by omega)
    refine ⟨l,ev.to fun k=>?_,hl1,hl2⟩
    simp only [spec_DrawPlaces.l0,w,e,Option.bind_some]
    clear w
    rw [if_pos (by omega),if_pos (by omega)]
def dP (b : List Int) (k : Nat) (bt : Int × Int × Int) : Option (List Int):=spec_DrawPlaces.l0 k ([] : List Int) 0 b bt.2.1 bt.2.2
theorem dPlaces (b : List Int) (hb : b.length ≤ 140737488351232) : ∃ l,Ev (fun k=>spec_DrawPlaces.f k b) l ∧ l.length = 12 ∧ ∀ x ∈ l,0 ≤ x ∧ x < 10000:=by
  obtain ⟨h,ev⟩:=dNew b hb
  obtain ⟨x,i1,h1,e,p,q,r⟩:=dByte b 0 h hb (by omega)
  obtain ⟨l,ev2,hl⟩:=dPlaces_go b hb 12 [] 0 i1 h1 (by omega) (by omega) rfl r (fun _ h=>by simp at h)
  refine ⟨l,?_,hl⟩
  unfold spec_DrawPlaces.f
  refine ev.bind (f:=fun k bt=>(spec_l01Byte.f bt.1 bt.2.1 bt.2.2).bind fun bt2=>spec_DrawPlaces.l0 k ([] : List Int) 0 bt.1 bt2.2.1 bt2.2.2) ?_
  have step : ∀ k,(spec_l01Byte.f b 0 h).bind (dP b k) = dP b k (x,i1,h1):=fun k=>(congrArg (fun o=>Option.bind o (dP b k)) e).trans (Option.bind_some _ _)
  exact Ev.cg (f:=fun k=>dP b k (x,i1,h1)) ev2 step

def pWrite (s : List ByteArray) (p : List S98) (a : Int) (t : ByteArray) : List ByteArray × List S98 × Bool:=if devOk s p = true ∧ putOk s.length ⟨a,t⟩ = true ∧ p.length < 400 then (s,p ++ [⟨a,t⟩],true) else ([],[],false)
theorem pWrite_t {s : List ByteArray} {p : List S98} {a : Int} {t : ByteArray} (h : devOk s p = true ∧ putOk s.length ⟨a,t⟩ = true ∧ p.length < 400) : pWrite s p a t = (s,p ++ [⟨a,t⟩],true):=by unfold pWrite;exact if_pos h
theorem pWrite_f {s : List ByteArray} {p : List S98} {a : Int} {t : ByteArray} (h : ¬ (devOk s p = true ∧ putOk s.length ⟨a,t⟩ = true ∧ p.length < 400)) : pWrite s p a t = ([],[],false):=by unfold pWrite;exact if_neg h
theorem devOk_put (s : List ByteArray) (p : List S98) (x : S98) (h : devOk s p = true) : devOk s (p ++ [x]) = true ↔ putOk s.length x = true ∧ p.length < 400:=by
  obtain ⟨h1,h2,h3⟩:=devOk_t h
  unfold putOk
  rw [decide_eq_true_eq]
  constructor
  · intro g
    obtain ⟨g1,_,g3⟩:=devOk_t g
    rw [List.length_append] at g1
    have:=g3 x (by simp)
    exact ⟨this,by simp at g1;omega⟩
  · rintro ⟨g1,g2⟩
    refine devOk_mk ⟨⟨h1.1,h1.2.1,by rw [List.length_append];simp;omega⟩,h2,fun y hy=>?_⟩
    rcases List.mem_append.1 hy with hy|hy
    · exact h3 y hy
    · rw [List.mem_singleton.1 hy];exact g1

theorem i_in (a b c : Int) : impl_in.f a b c = some (decide (b ≤ a ∧ a ≤ c)):=by
  unfold impl_in.f
  by_cases h : a ≥ b
  · rw [if_pos h];simp [show b ≤ a from h]
  · rw [if_neg h];simp [show ¬ b ≤ a from h]
theorem i_in_t {a b c : Int} (h : b ≤ a ∧ a ≤ c) : impl_in.f a b c = some true:=by rw [i_in,decide_eq_true h]
theorem i_in_f {a b c : Int} (h : ¬ (b ≤ a ∧ a ≤ c)) : impl_in.f a b c = some false:=by rw [i_in,decide_eq_false h]

theorem iDO_l1 (s : List ByteArray) (p : List S98) (hs : s.length ≤ 400) (hp : p.length ≤ 1048576) : ∀ (d i : Nat),i + d = p.length → Ev (fun k=>impl_DeviceOk.l1 k p (p.length : Int) (i : Int) s p) ((p.drop i).all fun x=>putOk s.length x)
  | 0,i,hi=>by
    rw [List.drop_of_length_le (by omega)]
    exact (Ev.now _).to fun k=>by simp only [impl_DeviceOk.l1];rw [if_neg (by omega)];rfl
  | d + 1,i,hi=>by
    have hlt : i < p.length:=by omega
    have ih:=iDO_l1 s p hs hp d (i + 1) (by omega)
    rw [List.drop_eq_getElem_cons hlt,List.all_cons]
    have w : qn (wrap64 ((s.length : Int) - 1) = (s.length : Int) - 1):=⟨wid (by omega) (by omega)⟩
    cases hb : putOk s.length p[i] with
    | false =>
      rw [Bool.false_and]
      refine (Ev.now _).to fun k=>?_
      simp only [impl_DeviceOk.l1]
      rw [if_pos (by omega),if_pos (by omega),if_pos (by omega),ri_Put hlt,w.out,i_in]
      simp only [Option.bind_some]
      unfold putOk at hb
      rw [decide_eq_false_iff_not] at hb
      by_cases h : 0 ≤ p[i].f0 ∧ p[i].f0 ≤ (s.length : Int) - 1
      · rw [if_pos (decide_eq_true h),if_pos (by omega)]
      · rw [if_neg (by simpa using h)]
    | true =>
      rw [Bool.true_and]
      refine ih.to fun k=>?_
      simp only [impl_DeviceOk.l1]
      rw [if_pos (by omega),if_pos (by omega),if_pos (by omega),ri_Put hlt,w.out,i_in]
      simp only [Option.bind_some]
      unfold putOk at hb
      rw [decide_eq_true_eq] at hb
      rw [if_pos (decide_eq_true ⟨hb.1,by omega⟩),if_neg (by omega),wid (by omega) (by omega)]
      rfl
theorem iDO_l0 (s : List ByteArray) (p : List S98) (hs : s.length ≤ 400) (hp : p.length ≤ 1048576) : ∀ (d i : Nat),i + d = s.length → Ev (fun k=>impl_DeviceOk.l0 k s (s.length : Int) (i : Int) s p) (((s.drop i).all fun x=>decide (x.size ≤ 64)) && (p.all fun x=>putOk s.length x))
  | 0,i,hi=>by
    rw [List.drop_of_length_le (by omega)]
    refine Ev.to (iDO_l1 s p hs hp p.length 0 (by omega)) fun k=>?_
    simp only [impl_DeviceOk.l0];rw [if_neg (by omega)];rfl
  | d + 1,i,hi=>by
    have hlt : i < s.length:=by omega
    have ih:=iDO_l0 s p hs hp d (i + 1) (by omega)
    rw [List.drop_eq_getElem_cons hlt,List.all_cons]
    by_cases hb : s[i].size ≤ 64
    · rw [decide_eq_true hb,Bool.true_and]
      refine ih.to fun k=>?_
      simp only [impl_DeviceOk.l0]
      rw [if_pos (by omega),if_pos (by omega),if_pos (by omega),rdOf_at _ hlt,if_neg (by omega),wid (by omega) (by omega)]
      rfl
    · rw [decide_eq_false hb,Bool.false_and,Bool.false_and]
      refine (Ev.now _).to fun k=>?_
      simp only [impl_DeviceOk.l0]
      rw [if_pos (by omega),if_pos (by omega),if_pos (by omega),rdOf_at _ hlt,if_pos (by omega)]
theorem iDeviceOk (s : List ByteArray) (p : List S98) (hs : s.length ≤ 1048576) (hp : p.length ≤ 1048576) : Ev (fun k=>impl_DeviceOk.f k s p) (devOk s p):=by
  unfold impl_DeviceOk.f devOk
  by_cases h : 1 ≤ (s.length : Int) ∧ (s.length : Int) ≤ 400
  · rw [i_in_t h]
    simp only [Option.bind_some,if_true]
    by_cases h2 : p.length ≤ 400
    · rw [decide_eq_false (show ¬ (p.length : Int) > 400 by omega),decide_eq_true (show 1 ≤ s.length ∧ s.length ≤ 400 ∧ p.length ≤ 400 by omega),Bool.true_and]
      exact (iDO_l0 s p (by omega) hp s.length 0 (by omega)).to fun k=>by simp only [impl_DeviceOk.j0];rw [if_neg (by decide)];rfl
    · rw [decide_eq_true (show (p.length : Int) > 400 by omega),decide_eq_false (show ¬ (1 ≤ s.length ∧ s.length ≤ 400 ∧ p.length ≤ 400) by omega),Bool.false_and]
      exact (Ev.now _).to fun k=>by simp only [impl_DeviceOk.j0,if_true]
  · rw [i_in_f h,decide_eq_false (show ¬ (1 ≤ s.length ∧ s.length ≤ 400 ∧ p.length ≤ 400) by omega),Bool.false_and]
    simp only [Option.bind_some,Bool.false_eq_true,if_false]
    exact (Ev.now _).to fun k=>by simp only [impl_DeviceOk.j0,if_true]

theorem icopyDevice (s : List ByteArray) (p : List S98) (hs : s.length ≤ 10000000) (hp : p.length ≤ 10000000) : impl_copyDevice.f s p = some (s,p):=by
  unfold impl_copyDevice.f
  simp only [List.length_nil,List.nil_append]
  rw [if_pos (by omega),if_pos (by omega)]

theorem iWriteSector (s : List ByteArray) (p : List S98) (a : Int) (t : ByteArray) (hs : s.length ≤ 1048576) (hp : p.length ≤ 1048576) : Ev (fun k=>impl_WriteSector.f k s p a t) (pWrite s p a t):=by
  unfold impl_WriteSector.f
  rw [icopyDevice s p (by omega) (by omega)]
  simp only [Option.bind_some]
  refine Ev.ifp (by omega) ((iDeviceOk s p hs hp).bind ?_)
  by_cases h : devOk s p = true
  · refine Ev.ifp h ((iDeviceOk s _ hs (by rw [List.length_append];have:=(devOk_t h).1;simp;omega)).bind ?_)
    by_cases h4 : devOk s (p ++ [⟨a,t⟩]) = true
    · rw [pWrite_t ⟨h,(devOk_put s p _ h).1 h4⟩]
      exact Ev.ifp h4 (Ev.now _)
    · rw [pWrite_f (fun g=>h4 ((devOk_put s p _ h).2 g.2))]
      exact Ev.ifn h4 (Ev.now _)
  · rw [pWrite_f (fun g=>h g.1)]
    exact Ev.ifn h (Ev.now _)

def flushL (s : List ByteArray) (p : List S98) : List ByteArray:=p.foldl (fun s x=>s.set x.f0.toNat x.f1) s
theorem flushL_cons (s : List ByteArray) (x : S98) (p : List S98) : flushL s (x :: p) = flushL (s.set x.f0.toNat x.f1) p:=rfl
theorem flushL_len : ∀ (p : List S98) (s : List ByteArray),(flushL s p).length = s.length
  | [],_=>rfl
  | x :: p,s=>by rw [flushL_cons,flushL_len p,List.length_set]
def pFlush (s : List ByteArray) (p : List S98) : List ByteArray × List S98 × Bool:=if devOk s p = true then (flushL s p,[],true) else ([],[],false)
theorem iFD_go (p0 p : List S98) (hp : p.length ≤ 1048576) (n : Nat) (hr : ∀ x ∈ p,0 ≤ x.f0 ∧ x.f0 < (n : Int)) : ∀ (d i : Nat) (z : List ByteArray),i + d = p.length → z.length = n → Ev (fun k=>impl_FlushDevice.l0 k p (p.length : Int) (i : Int) z p0) (flushL z (p.drop i),[],true)
  | 0,i,z,hi,hz=>by
    rw [List.drop_of_length_le (by omega)]
    exact (Ev.now _).to fun k=>by simp only [impl_FlushDevice.l0];rw [if_neg (by omega)];rfl
  | d + 1,i,z,hi,hz=>by
    have hlt : i < p.length:=by omega
    have hx:=hr _ (List.getElem_mem hlt)
    have w2 : qn (wrap64 ((i : Int) + 1) = ((i + 1 : Nat) : Int)):=⟨by rw [wid (by omega) (by omega)];rfl⟩
    rw [List.drop_eq_getElem_cons hlt,flushL_cons]
    refine (iFD_go p0 p hp n hr d (i + 1) _ (by omega) (by rw [List.length_set];exact hz)).to fun k=>?_
    simp only [impl_FlushDevice.l0]
    rw [if_pos (by omega),if_pos (by omega),if_pos (by omega),ri_Put hlt,if_pos (by omega),if_pos (by omega),w2.out]
theorem iFlushDevice (s : List ByteArray) (p : List S98) (hs : s.length ≤ 1048576) (hp : p.length ≤ 1048576) : Ev (fun k=>impl_FlushDevice.f k s p) (pFlush s p):=by
  unfold impl_FlushDevice.f pFlush
  refine (iDeviceOk s p hs hp).bind ?_
  by_cases h : devOk s p = true
  · obtain ⟨h1,h2,h3⟩:=devOk_t h
    rw [if_pos h,icopyDevice s p (by omega) (by omega)]
    refine Ev.ifp h ?_
    simp only [Option.bind_some]
    exact iFD_go p p hp s.length (fun x hx=>⟨(h3 x hx).1,(h3 x hx).2.1⟩) p.length 0 s (by omega) rfl
  · rw [if_neg h]
    exact Ev.ifn h (Ev.now _)

def readF (a : Int) (acc : ByteArray) (p : List S98) : ByteArray:=p.foldl (fun acc x=>if x.f0 = a then x.f1 else acc) acc
theorem readF_snoc (a : Int) (acc : ByteArray) (p : List S98) (x : S98) : readF a acc (p ++ [x]) = if x.f0 = a then x.f1 else readF a acc p:=by unfold readF;rw [List.foldl_append];rfl
theorem readF_cons (a : Int) (acc : ByteArray) (p : List S98) (x : S98) : readF a acc (x :: p) = readF a (if x.f0 = a then x.f1 else acc) p:=rfl
def secAt (s : List ByteArray) (a : Int) : ByteArray:=rdOf ByteArray.empty s a
def pReadSector (s : List ByteArray) (p : List S98) (a : Int) : ByteArray × Bool:=if devOk s p = true ∧ 0 ≤ a ∧ a < s.length then (readF a (secAt s a) p,true) else (⟨#[]⟩,false)

theorem iRS_go (s : List ByteArray) (p : List S98) (a : Int) (hp : p.length ≤ 1048576) (h0 : 0 ≤ a) (h1 : a < s.length) : ∀ (i : Nat),i ≤ p.length → Ev (fun k=>impl_readSector.l0 k a ((i : Int) - 1) s p) (readF a (secAt s a) (p.take i))
  | 0,hi=>by
    refine (Ev.now _).to fun k=>?_
    simp only [impl_readSector.l0]
    rw [if_neg (by omega),if_pos h0,if_pos h1]
    rfl
  | i + 1,hi=>by
    have hlt : i < p.length:=by omega
    have e : ((i + 1 : Nat) : Int) - 1 = (i : Int):=by omega
    have w : qn (wrap64 ((i : Int) - 1) = (i : Int) - 1):=⟨wid (by omega) (by omega)⟩
    rw [e,List.take_succ_eq_append_getElem hlt,readF_snoc]
    by_cases h : p[i].f0 = a
    · rw [if_pos h]
      refine (Ev.now _).to fun k=>?_
      simp only [impl_readSector.l0]
      rw [if_pos (by omega),if_pos (by omega),if_pos (by omega),ri_Put hlt,if_pos h]
    · rw [if_neg h]
      refine (iRS_go s p a hp h0 h1 i (by omega)).to fun k=>?_
      simp only [impl_readSector.l0]
      rw [if_pos (by omega),if_pos (by omega),if_pos (by omega),ri_Put hlt,if_neg h,w.out]
theorem ireadSector (s : List ByteArray) (p : List S98) (a : Int) (hp : p.length ≤ 1048576) (h0 : 0 ≤ a) (h1 : a < s.length) : Ev (fun k=>impl_readSector.f k s p a) (readF a (secAt s a) p):=by
  unfold impl_readSector.f
  rw [wid (by omega) (by omega)]
  have:=iRS_go s p a hp h0 h1 p.length (by omega)
  rwa [List.take_length] at this

theorem iReadSector (s : List ByteArray) (p : List S98) (a : Int) (hs : s.length ≤ 1048576) (hp : p.length ≤ 1048576) : Ev (fun k=>impl_ReadSector.f k s p a) (pReadSector s p a):=by
  unfold impl_ReadSector.f pReadSector
  refine (iDeviceOk s p hs hp).bind ?_
  by_cases h : devOk s p = true
  · refine Ev.ifp h ?_
    have w : wrap64 ((s.length : Int) - 1) = (s.length : Int) - 1:=wid (by omega) (by omega)
    rw [w,i_in];clear w
    simp only [Option.bind_some]
    by_cases h2 : 0 ≤ a ∧ a < s.length
    · rw [if_pos ⟨h,h2⟩]
      exact Ev.ifp (decide_eq_true ⟨h2.1,by omega⟩) ((ireadSector s p a hp h2.1 h2.2).bind (Ev.now _))
    · rw [if_neg (fun g=>h2 g.2)]
      exact Ev.ifn (by rw [decide_eq_true_eq];omega) (Ev.now _)
  · rw [if_neg (fun g=>h g.1)]
    exact Ev.ifn h (Ev.now _)

theorem secAt_set {s : List ByteArray} {a i : Int} {t : ByteArray} (h0 : 0 ≤ a) (h1 : a < s.length) (hi : 0 ≤ i) : secAt (s.set a.toNat t) i = if a = i then t else secAt s i:=by
  unfold secAt rdOf
  rw [List.getD_eq_getElem?_getD,List.getD_eq_getElem?_getD,List.getElem?_set]
  by_cases h : a = i
  · subst h
    rw [if_pos rfl,if_pos rfl,if_pos (by omega)]
    rfl
  · rw [if_neg (by omega),if_neg h]
theorem secAt_flush (i : Int) (hi : 0 ≤ i) : ∀ (p : List S98) (s : List ByteArray),(∀ x ∈ p,0 ≤ x.f0 ∧ x.f0 < (s.length : Int)) → secAt (flushL s p) i = readF i (secAt s i) p
  | [],s,_=>rfl
  | x :: p,s,h=>by
    have hx:=h x (List.mem_cons_self ..)
    rw [flushL_cons,secAt_flush i hi p _ (fun y hy=>by rw [List.length_set];exact h y (List.mem_cons_of_mem _ hy)),readF_cons,secAt_set hx.1 hx.2 hi]
theorem flushL_small : ∀ (p : List S98) (s : List ByteArray),(∀ x ∈ p,x.f1.size ≤ 64) → (∀ x ∈ s,x.size ≤ 64) → ∀ x ∈ flushL s p,x.size ≤ 64
  | [],s,_,h,x,hx=>h x hx
  | y :: p,s,hp,h,x,hx=>by
    rw [flushL_cons] at hx
    refine flushL_small p _ (fun z hz=>hp z (List.mem_cons_of_mem _ hz)) (fun z hz=>?_) x hx
    rcases List.mem_or_eq_of_mem_set hz with hz|hz
    · exact h z hz
    · rw [hz];exact hp y (List.mem_cons_self ..)
def newB : ByteArray:=⟨#[110,101,119]⟩
theorem newB_s : newB.size ≤ 64:=by decide
theorem newB_l : newB.toList = ([110,101,119] : List UInt8):=by rw [ByteArray.toList_eq];rfl
theorem lDev_go (s : List ByteArray) (p : List S98) (a : Int) (f : List ByteArray) (hd : devOk s p = true) (hl : s.length ≤ 8) (hp : p.length ≤ 7) (hn : devOk s (p ++ [⟨a,newB⟩]) = true) (hf : devOk f [] = true) (hfl : f.length = s.length) (hsec : ∀ i : Int,0 ≤ i → secAt f i = readF i (secAt s i) (p ++ [⟨a,newB⟩])) : ∀ (d j : Nat),j + d = s.length → Ev (fun k=>laws_FnDevices.l0 k a (j : Int) s p s (p ++ [⟨a,newB⟩]) f []) true
  | 0,j,hj=>(Ev.now _).to fun k=>by simp only [laws_FnDevices.l0];rw [if_neg (by omega)]
  | d + 1,j,hj=>by
    have ih:=lDev_go s p a f hd hl hp hn hf hfl hsec d (j + 1) (by omega)
    have hpl : (p ++ [(⟨a,newB⟩ : S98)]).length ≤ 1048576:=by rw [List.length_append];simp;omega
    have r1:=iReadSector s (p ++ [⟨a,newB⟩]) (j : Int) (by omega) hpl
    have r2:=iReadSector f [] (j : Int) (by omega) (by simp)
    have r3:=iReadSector s p (j : Int) (by omega) (by omega)
    have e1 : pReadSector s (p ++ [⟨a,newB⟩]) (j : Int) = (readF (j : Int) (secAt s (j : Int)) (p ++ [⟨a,newB⟩]),true):=by unfold pReadSector;rw [if_pos ⟨hn,by omega,by omega⟩]
    have e2 : pReadSector f [] (j : Int) = (readF (j : Int) (secAt s (j : Int)) (p ++ [⟨a,newB⟩]),true):=by unfold pReadSector;rw [if_pos ⟨hf,by omega,by omega⟩,← hsec _ (by omega)];rfl
    have e3 : pReadSector s p (j : Int) = (readF (j : Int) (secAt s (j : Int)) p,true):=by unfold pReadSector;rw [if_pos ⟨hd,by omega,by omega⟩]
    have w : wrap64 ((j : Int) + 1) = ((j + 1 : Nat) : Int):=by rw [wid (by omega) (by omega)];rfl
    rw [e1] at r1
    rw [e2] at r2
    rw [e3] at r3
    rw [← w] at ih
    clear w e1 e2 e3
    refine Ev.to (f:=fun k=>(impl_ReadSector.f k s (p ++ [⟨a,newB⟩]) (j : Int)).bind fun bt266=>(impl_ReadSector.f k f [] (j : Int)).bind fun bt268=>(impl_ReadSector.f k s p (j : Int)).bind fun bt270=>(if bt266.2 = true then (if bt268.2 = true then (if bt266.1.toList = bt268.1.toList then (if (j : Int) = a then (if bt266.1.toList = ([110,101,119] : List UInt8) then (laws_FnDevices.l0 k a (wrap64 ((j : Int) + 1)) s p s (p ++ [⟨a,newB⟩]) f []) else (some false)) else (if bt266.1.toList = bt270.1.toList then (laws_FnDevices.l0 k a (wrap64 ((j : Int) + 1)) s p s (p ++ [⟨a,newB⟩]) f []) else (some false))) else (some false)) else (some false)) else (some false))) (r1.bind (r2.bind (r3.bind (Ev.ifp rfl (Ev.ifp rfl (Ev.ifp rfl ?_)))))) fun k=>by simp only [laws_FnDevices.l0];rw [if_pos (by omega)]
    by_cases c : (j : Int) = a
    · refine Ev.ifp c (Ev.ifp ?_ ih)
      rw [readF_snoc,if_pos c.symm]
      exact newB_l
    · refine Ev.ifn c (Ev.ifp ?_ ih)
      rw [readF_snoc,if_neg (fun h=>c h.symm)]
theorem FnDevices : laws_FnDevices.Pure:=by
  intro b _ hb _
  refine Ev.rounds (g:=fun k=>laws_FnDevices.f k b) ?_
  unfold laws_FnDevices.f laws_big.f
  simp only [Option.bind_some]
  by_cases hbig : (b.length : Int) > 1048576
  · exact Ev.ifp (by simpa using hbig) (Ev.now _)
  refine Ev.ifn (by simpa using hbig) ?_
  obtain ⟨s,p,evD,hd,hsl,hpl⟩:=dDev b (by omega)
  obtain ⟨l,evP,hl12,hl⟩:=dPlaces b (by omega)
  obtain ⟨h1,h2,h3⟩:=devOk_t hd
  have hr : rd l 0 = l[0]'(by omega):=rd_at (i:=0) (by omega)
  have hr0:=hl _ (List.getElem_mem (show 0 < l.length by omega))
  have ht : Int.tmod (rd l 0) (s.length : Int) = l[0]'(by omega) % (s.length : Int):=by rw [hr];exact tmod_pos hr0.1
  have a0 : 0 ≤ l[0]'(by omega) % (s.length : Int):=Int.emod_nonneg _ (by omega)
  have a1 : l[0]'(by omega) % (s.length : Int) < s.length:=Int.emod_lt_of_pos _ (by omega)
  generalize l[0]'(by omega) % (s.length : Int) = a at ht a0 a1
  have hput : putOk s.length ⟨a,newB⟩ = true:=by unfold putOk;rw [decide_eq_true_eq];exact ⟨a0,a1,newB_s⟩
  have hn : devOk s (p ++ [⟨a,newB⟩]) = true:=(devOk_put s p _ hd).2 ⟨hput,by omega⟩
  obtain ⟨n1,n2,n3⟩:=devOk_t hn
  have hF : devOk (flushL s (p ++ [⟨a,newB⟩])) [] = true:=devOk_mk ⟨by rw [flushL_len];exact ⟨h1.1,h1.2.1,by simp⟩,flushL_small _ _ (fun x hx=>(n3 x hx).2.2) h2,fun x hx=>by simp at hx⟩
  have eW:=iWriteSector s p a newB (by omega) (by omega)
  rw [pWrite_t ⟨hd,hput,by omega⟩] at eW
  have eF:=iFlushDevice s (p ++ [⟨a,newB⟩]) (by omega) (by rw [List.length_append];simp;omega)
  rw [show pFlush s (p ++ [⟨a,newB⟩]) = (flushL s (p ++ [⟨a,newB⟩]),[],true) from by unfold pFlush;exact if_pos hn] at eF
  have eO:=iDeviceOk (flushL s (p ++ [⟨a,newB⟩])) [] (by rw [flushL_len];have:=h1.2.1;omega) (by simp)
  rw [hF] at eO
  have eL:=lDev_go s p a (flushL s (p ++ [⟨a,newB⟩])) hd hsl (by omega) hn hF (flushL_len _ _) (fun i hi=>secAt_flush i hi _ _ (fun x hx=>⟨(n3 x hx).1,(n3 x hx).2.1⟩)) s.length 0 (by omega)
  refine evD.bind (evP.bind (Ev.ifp (by omega) (Ev.ifn (show ¬ ((s.length : Int) = 0) by omega) ?_)))
  simp only [ht]
  refine eW.bind (eF.bind (Ev.ifp rfl (Ev.ifp rfl (eO.bind (Ev.ifp rfl ?_)))))
  refine Ev.to eL fun k=>?_
  simp only [laws_FnDevices.j0]
  rfl

end Go.Proofs.Ytfmemcffbfahhaa.Pure
