/- Of a drawn right graph no drawn pairing is better than the best sums; its sums are those of its scalars; of two pairings at most one is better; there are more pairings than it has couples, whatever the bytes that are drawn from. -/
import Derived.Test.YtfmemcffbfahhaaZFnBestx14
import Derived.Laws.BitsAllLaws
namespace Go.Proofs.Ytfmemcffbfahhaa.Pure
open Go.RowKit Go.Proofs.Ytfmemcffbfahhaa.QFnBest Go.Proofs.YtfmemcffbfahhaaW.PrintWords Go.Proofs.YtfmemcffbfahhaaW.PrintLast
set_option linter.unusedVariables false
set_option linter.unusedSimpArgs false
set_option maxHeartbeats 4000000

theorem wid {n : Int} (h0 : -9223372036854775808 ≤ n) (h1 : n < 9223372036854775808) : wrap64 n = n:=by unfold wrap64;omega
theorem _root_.Go.Proofs.YtfmemcffbfahhaaW.PrintWords.Ev.ofEq {α : Type} {g : Nat → Option α} {r q : α} (h : Ev g r) (e : r = q) : Ev g q:=e ▸ h
theorem _root_.Go.Proofs.YtfmemcffbfahhaaW.PrintWords.Ev.same {α : Type} {o : Option α} {r : α} (h : o = some r) : Ev (fun _=>o) r:=⟨0,fun _ _=>h⟩
theorem _root_.Go.Proofs.YtfmemcffbfahhaaW.PrintWords.Ev.to {α : Type} {g f : Nat → Option α} {r : α} (k : Ev f r) (h : ∀ k,g (k + 1) = f k) : Ev g r:=Ev.step h k
theorem _root_.Go.Proofs.YtfmemcffbfahhaaW.PrintWords.Ev.cg {α : Type} {g f : Nat → Option α} {r : α} (k : Ev f r) (h : ∀ k,g k = f k) : Ev g r:=Ev.congr h k
theorem _root_.Go.Proofs.YtfmemcffbfahhaaW.PrintWords.Ev.ifp {α : Type} {c : Prop} [Decidable c] {g f : Nat → Option α} {r : α} (h : c) (e : Ev g r) : Ev (fun k=>if c then g k else f k) r:=by simp only [if_pos h];exact e
theorem _root_.Go.Proofs.YtfmemcffbfahhaaW.PrintWords.Ev.ifn {α : Type} {c : Prop} [Decidable c] {g f : Nat → Option α} {r : α} (h : ¬ c) (e : Ev f r) : Ev (fun k=>if c then g k else f k) r:=by simp only [if_neg h];exact e
def Byt (xs : List Int) : Prop:=∀ x ∈ xs,0 ≤ x ∧ x < 256
theorem Byt.nil : Byt []:=fun _ h=>by simp at h
theorem Byt.cons {x : Int} {xs : List Int} (h : 0 ≤ x ∧ x < 256) (h' : Byt xs) : Byt (x :: xs):=fun y hy=>by
 rcases List.mem_cons.1 hy with rfl|hy
 ·exact h
 ·exact h' y hy
theorem Byt.left {xs ys : List Int} (h : Byt (xs ++ ys)) : Byt xs:=fun y hy=>h y (List.mem_append_left _ hy)
theorem Byt.right {xs ys : List Int} (h : Byt (xs ++ ys)) : Byt ys:=fun y hy=>h y (List.mem_append_right _ hy)
theorem Byt.drop {xs : List Int} (h : Byt xs) (n : Nat) : Byt (xs.drop n):=fun y hy=>h y (List.mem_of_mem_drop hy)
theorem Byt.take {xs : List Int} (h : Byt xs) (n : Nat) : Byt (xs.take n):=fun y hy=>h y (List.mem_of_mem_take hy)
theorem tmod_pos {a b : Int} (h : 0 ≤ a) : Int.tmod a b = a % b:=Int.tmod_eq_emod_of_nonneg h
theorem Byt.one {x : Int} (h : 0 ≤ x ∧ x < 256) : Byt [x]:=Byt.nil.cons h
/-! Draws: whatever the bytes, a number in its bounds -/
theorem and255 (y : Int) : 0 ≤ Go.bits .and .i64 y 255 ∧ Go.bits .and .i64 y 255 < 256:=by
 have h : (BitVec.ofInt 64 y &&& BitVec.ofInt 64 255).toNat ≤ 255:=by
  rw [BitVec.toNat_and];exact Nat.le_trans Nat.and_le_right (by decide)
 have e : Go.bits .and .i64 y 255 = IntKind.i64.wrap ((BitVec.ofInt 64 y &&& BitVec.ofInt 64 255).toNat : Nat):=rfl
 rw [e,IntKind.wrap_i64]
 omega
theorem dByte (b : List Int) (i h : Int) (hb : b.length ≤ 140737488351232) (hi : 0 ≤ i) : ∃ x i' h',spec_l01Byte.f b i h = some (x,i',h') ∧ 0 ≤ x ∧ x < 256 ∧ 0 ≤ i':=by
 unfold spec_l01Byte.f
 by_cases h1 : i < (b.length : Int)
 ·have w : wrap64 (i + 1) = i + 1:=wid (by omega) (by omega)
  rw [w];clear w
  rw [if_pos h1,if_pos hi]
  exact ⟨_,_,_,rfl,(and255 _).1,(and255 _).2,by omega⟩
 ·rw [if_neg h1]
  exact ⟨_,_,_,rfl,(and255 _).1,(and255 _).2,hi⟩
theorem dBelow (b : List Int) (i h n : Int) (hb : b.length ≤ 140737488351232) (hi : 0 ≤ i) (hn : 0 < n) : ∃ x i' h',spec_l01Below.f b i h n = some (x,i',h') ∧ 0 ≤ x ∧ x < n ∧ 0 ≤ i':=by
 unfold spec_l01Below.f
 rw [if_neg (by omega)]
 obtain ⟨x1,i1,h1,e1,p1,q1,r1⟩:=dByte b i h hb hi
 by_cases hs : n ≤ 256
 ·rw [if_pos hs,e1]
  simp only [Option.bind_some]
  rw [if_neg (by omega),tmod_pos p1]
  exact ⟨_,_,_,rfl,Int.emod_nonneg _ (by omega),Int.emod_lt_of_pos _ hn,r1⟩
 ·obtain ⟨x2,i2,h2,e2,p2,q2,r2⟩:=dByte b i1 h1 hb r1
  obtain ⟨x3,i3,h3,e3,p3,q3,r3⟩:=dByte b i2 h2 hb r2
  obtain ⟨x4,i4,h4,e4,p4,q4,r4⟩:=dByte b i3 h3 hb r3
  have w1 : wrap64 (x1 * 16777216) = x1 * 16777216:=wid (by omega) (by omega)
  have w2 : wrap64 (x2 * 65536) = x2 * 65536:=wid (by omega) (by omega)
  have w3 : wrap64 (x3 * 256) = x3 * 256:=wid (by omega) (by omega)
  have w4 : wrap64 (x1 * 16777216 + x2 * 65536) = x1 * 16777216 + x2 * 65536:=wid (by omega) (by omega)
  have w5 : wrap64 (x1 * 16777216 + x2 * 65536 + x3 * 256) = x1 * 16777216 + x2 * 65536 + x3 * 256:=wid (by omega) (by omega)
  have w6 : wrap64 (x1 * 16777216 + x2 * 65536 + x3 * 256 + x4) = x1 * 16777216 + x2 * 65536 + x3 * 256 + x4:=wid (by omega) (by omega)
  rw [if_neg hs,e1]
  simp only [Option.bind_some]
  rw [e2]
  simp only [Option.bind_some]
  rw [e3]
  simp only [Option.bind_some]
  rw [e4]
  simp only [Option.bind_some,w1,w2,w3,w4,w5,w6]
  clear w1 w2 w3 w4 w5 w6
  rw [if_neg (by omega),tmod_pos (by omega)]
  exact ⟨_,_,_,rfl,Int.emod_nonneg _ (by omega),Int.emod_lt_of_pos _ hn,r4⟩
theorem dNew_go (b : List Int) (hb : b.length ≤ 140737488351232) : ∀ (d i : Nat) (x : Int),i + d = b.length → ∃ h,Ev (fun k=>spec_l01New.l0 k b x (i : Int)) (b,0,h)
 | 0,i,x,hi=>⟨x,(Ev.now _).to fun k=>by simp only [spec_l01New.l0];rw [if_neg (by omega)]⟩
 | d + 1,i,x,hi=>by
  by_cases h4 : (i : Int) < 4000
  ·have w : wrap64 ((i : Int) + 1) = ((i + 1 : Nat) : Int):=by rw [wid (by omega) (by omega)];rfl
   obtain ⟨h,e⟩:=dNew_go b hb d (i + 1) (Go.bits .and .i64 (wrap64 ((wrap64 ((wrap64 (x * 131)) + (wrap64 (rd b (i : Int))))) + 7)) 1073741823) (by omega)
   refine ⟨h,e.to fun k=>?_⟩
   simp only [spec_l01New.l0,w]
   clear w
   rw [if_pos (by omega),if_pos h4,if_pos (by omega)]
  ·exact ⟨x,(Ev.now _).to fun k=>by simp only [spec_l01New.l0];rw [if_pos (by omega),if_neg h4]⟩
theorem dNew (b : List Int) (hb : b.length ≤ 140737488351232) : ∃ h,Ev (fun k=>spec_l01New.f k b) (b,0,h):=by
 unfold spec_l01New.f
 exact dNew_go b hb b.length 0 _ (by omega)

theorem getD_at {α : Type} {xs : List α} {i : Nat} (z : α) (h : i < xs.length) : xs.getD ((i : Int)).toNat z = xs[i]:=by
 rw [Int.toNat_natCast,List.getD_eq_getElem?_getD,List.getElem?_eq_getElem h];rfl
theorem rd_at {xs : List Int} {i : Nat} (h : i < xs.length) : rd xs (i : Int) = xs[i]:=getD_at 0 h
theorem ri_Edge {xs : List S36} {i : Nat} (h : i < xs.length) : rd_T36 xs (i : Int) = xs[i]:=getD_at _ h

/-! Right graphs -/
def edgeOk (n : Int) (e : S36) : Bool:=decide (0 ≤ e.f0 ∧ e.f0 < e.f1 ∧ e.f1 < n ∧ (0 ≤ e.f2 ∧ e.f2 ≤ 50) ∧ (0 ≤ e.f3 ∧ e.f3 ≤ 50) ∧ (0 ≤ e.f4 ∧ e.f4 ≤ 50))
def edgeLt (p e : S36) : Bool:=decide (p.f0 < e.f0 ∨ p.f0 = e.f0 ∧ p.f1 < e.f1)
def edgesOk (n : Int) : Option S36 → List S36 → Bool
 | _,[]=>true
 | none,e :: l=>edgeOk n e && edgesOk n (some e) l
 | some p,e :: l=>edgeOk n e && (edgeLt p e && edgesOk n (some e) l)
def gok (n : Int) (l : List S36) : Bool:=decide (0 ≤ n ∧ n ≤ 9) && edgesOk n none l
def prevE (l : List S36) : Nat → Option S36
 | 0=>none
 | i + 1=>l[i]?
theorem prevE_succ {l : List S36} {i : Nat} (h : i < l.length) : prevE l (i + 1) = some l[i]:=List.getElem?_eq_getElem h

def isE (a b : Int) (e : S36) : Prop:=e.f0 = a ∧ e.f1 = b ∨ e.f0 = b ∧ e.f1 = a
instance (a b : Int) (e : S36) : Decidable (isE a b e):=inferInstanceAs (Decidable (_ ∨ _))
def atE (a b : Int) : Nat → List S36 → Int
 | _,[]=>-1
 | i,e :: l=>if isE a b e then (i : Int) else atE a b (i + 1) l

theorem edgesOk_all (n : Int) : ∀ (l : List S36) (p : Option S36),edgesOk n p l = true → ∀ e ∈ l,edgeOk n e = true
 | [],_,_,e,h=>by simp at h
 | x :: l,p,h,e,he=>by
  have hx : edgeOk n x = true ∧ edgesOk n (some x) l = true:=by
   cases p <;> simp only [edgesOk,Bool.and_eq_true] at h
   ·exact h
   ·exact ⟨h.1,h.2.2⟩
  rcases List.mem_cons.1 he with rfl|he
  ·exact hx.1
  ·exact edgesOk_all n l _ hx.2 e he
theorem gok_n {n : Int} {l : List S36} (h : gok n l = true) : 0 ≤ n ∧ n ≤ 9:=by
 unfold gok at h
 rw [Bool.and_eq_true,decide_eq_true_eq] at h
 exact h.1
theorem gok_all {n : Int} {l : List S36} (h : gok n l = true) : ∀ e ∈ l,0 ≤ e.f0 ∧ e.f0 < e.f1 ∧ e.f1 < n ∧ (0 ≤ e.f2 ∧ e.f2 ≤ 50) ∧ (0 ≤ e.f3 ∧ e.f3 ≤ 50) ∧ (0 ≤ e.f4 ∧ e.f4 ≤ 50):=by
 unfold gok at h
 rw [Bool.and_eq_true] at h
 intro e he
 have:=edgesOk_all n l none h.2 e he
 unfold edgeOk at this
 rwa [decide_eq_true_eq] at this
theorem atE_some (a b : Int) : ∀ (l : List S36) (i : Nat),0 ≤ atE a b i l → ∃ (h : ((atE a b i l).toNat - i) < l.length),(i : Int) ≤ atE a b i l ∧ isE a b l[(atE a b i l).toNat - i]
 | [],i,h=>by simp [atE] at h
 | e :: l,i,h=>by
  unfold atE at h ⊢
  by_cases hc : isE a b e
  ·simp only [if_pos hc]
   have e0 : ((i : Int)).toNat - i = 0:=by omega
   refine ⟨by rw [e0];simp,by omega,?_⟩
   simp only [e0,List.getElem_cons_zero]
   exact hc
  ·simp only [if_neg hc] at h ⊢
   obtain ⟨h1,h2,h3⟩:=atE_some a b l (i + 1) h
   have e1 : (atE a b (i + 1) l).toNat - i = ((atE a b (i + 1) l).toNat - (i + 1)) + 1:=by omega
   refine ⟨by rw [e1];simp;exact h1,by omega,?_⟩
   simp only [e1,List.getElem_cons_succ]
   exact h3
theorem atE_mem {a b : Int} {l : List S36} (h : 0 ≤ atE a b 0 l) : ∃ e ∈ l,isE a b e:=by
 obtain ⟨h1,_,h3⟩:=atE_some a b l 0 h
 exact ⟨_,List.getElem_mem h1,h3⟩

/-! Induced graphs: both ways give the same edges -/
theorem sorted_ext {α : Type} {lt : α → α → Prop} (irr : ∀ a,¬ lt a a) (asy : ∀ a b,lt a b → ¬ lt b a) : ∀ (l m : List α),l.Pairwise lt → m.Pairwise lt → (∀ x,x ∈ l ↔ x ∈ m) → l = m
 | [],[],_,_,_=>rfl
 | [],b :: m,_,_,h=>absurd ((h b).2 (List.mem_cons_self ..)) (by simp)
 | a :: l,[],_,_,h=>absurd ((h a).1 (List.mem_cons_self ..)) (by simp)
 | a :: l,b :: m,hl,hm,h=>by
  rw [List.pairwise_cons] at hl hm
  have e : a = b:=by
   rcases List.mem_cons.1 ((h a).1 (List.mem_cons_self ..)) with e|ha
   ·exact e
   ·rcases List.mem_cons.1 ((h b).2 (List.mem_cons_self ..)) with e|hb
    ·exact e.symm
    ·exact absurd (hl.1 b hb) (asy _ _ (hm.1 a ha))
  subst e
  congr 1
  refine sorted_ext irr asy l m hl.2 hm.2 (fun x=>⟨fun hx=>?_,fun hx=>?_⟩)
  ·rcases List.mem_cons.1 ((h x).1 (List.mem_cons_of_mem _ hx)) with e|hx'
   ·subst e;exact absurd (hl.1 _ hx) (irr _)
   ·exact hx'
  ·rcases List.mem_cons.1 ((h x).2 (List.mem_cons_of_mem _ hx)) with e|hx'
   ·subst e;exact absurd (hm.1 _ hx) (irr _)
   ·exact hx'
def ltE (a b : S36) : Prop:=a.f0 < b.f0 ∨ (a.f0 = b.f0 ∧ a.f1 < b.f1)
theorem ltE_irr (a : S36) : ¬ ltE a a:=by unfold ltE;omega
theorem ltE_asy (a b : S36) : ltE a b → ¬ ltE b a:=by unfold ltE;omega
theorem ltE_tr {a b c : S36} : ltE a b → ltE b c → ltE a c:=by unfold ltE;omega
theorem pw_uniq {l : List S36} (h : l.Pairwise ltE) {a b : S36} (ha : a ∈ l) (hb : b ∈ l) (h0 : a.f0 = b.f0) (h1 : a.f1 = b.f1) : a = b:=by
 obtain ⟨i,hi,rfl⟩:=List.getElem_of_mem ha
 obtain ⟨j,hj,rfl⟩:=List.getElem_of_mem hb
 rw [List.pairwise_iff_getElem] at h
 rcases Nat.lt_trichotomy i j with hij|rfl|hij
 ·have:=h i j hi hj hij;unfold ltE at this;omega
 ·rfl
 ·have:=h j i hj hi hij;unfold ltE at this;omega
theorem atE_ex {a b : Int} : ∀ (l : List S36) (i : Nat),(∃ e ∈ l,isE a b e) → 0 ≤ atE a b i l
 | [],i,h=>by obtain ⟨e,he,_⟩:=h;simp at he
 | e :: l,i,h=>by
  unfold atE
  by_cases hc : isE a b e
  ·simp only [if_pos hc];omega
  ·simp only [if_neg hc]
   refine atE_ex l (i + 1) ?_
   obtain ⟨d,hd,hi⟩:=h
   rcases List.mem_cons.1 hd with rfl|hd
   ·exact absurd hi hc
   ·exact ⟨d,hd,hi⟩
theorem atE_get {a b : Int} {l : List S36} (h : 0 ≤ atE a b 0 l) : rd_T36 l (atE a b 0 l) ∈ l ∧ isE a b (rd_T36 l (atE a b 0 l)):=by
 obtain ⟨h1,h2,h3⟩:=atE_some a b l 0 h
 have h1' : (atE a b 0 l).toNat < l.length:=by simpa using h1
 have e : rd_T36 l (atE a b 0 l) = l[(atE a b 0 l).toNat]:=by
  have:=ri_Edge h1'
  rwa [Int.toNat_of_nonneg h] at this
 rw [e]
 exact ⟨List.getElem_mem h1',by simpa using h3⟩
theorem edgesOk_pw (n : Int) : ∀ (l : List S36) (p : Option S36),edgesOk n p l = true → (∀ q,p = some q → ∀ x ∈ l,ltE q x) ∧ l.Pairwise ltE
 | [],p,_=>⟨fun _ _ x hx=>by simp at hx,by simp⟩
 | y :: l,p,h=>by
  have h2 : edgesOk n (some y) l = true:=by
   cases p <;> simp only [edgesOk,Bool.and_eq_true] at h
   ·exact h.2
   ·exact h.2.2
  obtain ⟨i0,i1⟩:=edgesOk_pw n l (some y) h2
  have hy:=i0 y rfl
  refine ⟨fun q hq x hx=>?_,List.pairwise_cons.2 ⟨hy,i1⟩⟩
  subst hq
  simp only [edgesOk,edgeLt,Bool.and_eq_true,decide_eq_true_eq] at h
  have h1 : ltE q y:=h.2.1
  rcases List.mem_cons.1 hx with rfl|hx
  ·exact h1
  ·exact ltE_tr h1 (hy x hx)
theorem edgesOk_of (n : Int) : ∀ (l : List S36) (p : Option S36),l.Pairwise ltE → (∀ e ∈ l,edgeOk n e = true) → (∀ q,p = some q → ∀ x ∈ l,ltE q x) → edgesOk n p l = true
 | [],p,_,_,_=>by cases p <;> rfl
 | y :: l,p,hp,ho,hq=>by
  rw [List.pairwise_cons] at hp
  have ih:=edgesOk_of n l (some y) hp.2 (fun e he=>ho e (List.mem_cons_of_mem _ he)) (fun q hq' x hx=>by injection hq' with hq';subst hq';exact hp.1 x hx)
  have hy:=ho y (List.mem_cons_self ..)
  cases p with
  | none=>simp only [edgesOk,hy,ih,Bool.and_self]
  | some q =>
   have : edgeLt q y = true:=by unfold edgeLt;rw [decide_eq_true_eq];exact hq q rfl y (List.mem_cons_self ..)
   simp only [edgesOk,hy,ih,this,Bool.and_self]
/-- The edges so far: in order, each right, each ahead of the pair (a, b). -/
def GI (n a b : Int) (E : List S36) : Prop:=E.Pairwise ltE ∧ (∀ e ∈ E,edgeOk n e = true) ∧ (∀ e ∈ E,e.f0 < a ∨ (e.f0 = a ∧ e.f1 < b))
theorem GI.next {n a b b' : Int} {E : List S36} (h : GI n a b E) (hb : b ≤ b') : GI n a b' E:=⟨h.1,h.2.1,fun e he=>by have:=h.2.2 e he;omega⟩
theorem GI.row {n a b b' : Int} {E : List S36} (h : GI n a b E) : GI n (a + 1) b' E:=⟨h.1,h.2.1,fun e he=>by have:=h.2.2 e he;omega⟩
theorem GI.snoc {n a b : Int} {E : List S36} (h : GI n a b E) {x y z : Int} (ha : 0 ≤ a) (hab : a < b) (hb : b < n) (hx : 0 ≤ x ∧ x ≤ 50) (hy : 0 ≤ y ∧ y ≤ 50) (hz : 0 ≤ z ∧ z ≤ 50) : GI n a (b + 1) (E ++ [⟨a,b,x,y,z⟩]):=by
 refine ⟨?_,fun e he=>?_,fun e he=>?_⟩
 ·rw [List.pairwise_append]
  refine ⟨h.1,by simp,fun u hu v hv=>?_⟩
  rw [List.mem_singleton.1 hv]
  exact h.2.2 u hu
 ·rcases List.mem_append.1 he with he|he
  ·exact h.2.1 e he
  ·rw [List.mem_singleton.1 he]
   unfold edgeOk
   rw [decide_eq_true_eq]
   exact ⟨ha,hab,hb,hx,hy,hz⟩
 ·rcases List.mem_append.1 he with he|he
  ·have:=h.2.2 e he;omega
  ·rw [List.mem_singleton.1 he];exact .inr ⟨rfl,by show b < b + 1;omega⟩
theorem dGr_j2 (b : List Int) (hb : b.length ≤ 140737488351232) (n dn most a c : Int) (hm : most = 2 ∨ most = 4 ∨ most = 51) (ha : 0 ≤ a) (hac : a < c) (hcn : c < n) (hn : n ≤ 9) (fl : Bool) (E : List S36) (i h : Int) (hi : 0 ≤ i) (hE : GI n a c E) (hl : E.length ≤ 1000000) (R : Int → Int → List S36 → Prop)
  (hc : ∀ E' i' h',GI n a (c + 1) E' → E'.length ≤ E.length + 1 → 0 ≤ i' → ∃ r,Ev (fun k=>spec_l08Graph.l1 k dn most a (c + 1) b i' h' n E') r ∧ R r.1 r.2.2.1 r.2.1) : ∃ r,Ev (fun k=>spec_l08Graph.j2 k dn most a c fl b i h n E) r ∧ R r.1 r.2.2.1 r.2.1:=by
 have w : wrap64 (c + 1) = c + 1:=wid (by omega) (by omega)
 cases fl with
 | false =>
  obtain ⟨r,ev,hr⟩:=hc E i h (hE.next (by omega)) (by omega) hi
  exact ⟨r,ev.to fun k=>by simp only [spec_l08Graph.j2,w,Bool.false_eq_true,if_false],hr⟩
 | true =>
  obtain ⟨x1,i1,h1,e1,p1,q1,r1⟩:=dBelow b i h most hb hi (by omega)
  obtain ⟨x2,i2,h2,e2,p2,q2,r2⟩:=dBelow b i1 h1 most hb r1 (by omega)
  obtain ⟨x3,i3,h3,e3,p3,q3,r3⟩:=dBelow b i2 h2 most hb r2 (by omega)
  by_cases c4 : most = 4
  ·obtain ⟨r,ev,hr⟩:=hc (E ++ [⟨a,c,x1,0,0⟩]) i3 h3 (hE.snoc ha hac hcn (by omega) (by omega) (by omega)) (by rw [List.length_append];simp) r3
   refine ⟨r,ev.to fun k=>?_,hr⟩
   simp only [spec_l08Graph.j2,w,e1,e2,e3,if_true,Option.bind_some]
   clear w
   rw [if_pos c4,if_pos (by omega)]
  ·obtain ⟨r,ev,hr⟩:=hc (E ++ [⟨a,c,x1,x2,x3⟩]) i3 h3 (hE.snoc ha hac hcn (by omega) (by omega) (by omega)) (by rw [List.length_append];simp) r3
   refine ⟨r,ev.to fun k=>?_,hr⟩
   simp only [spec_l08Graph.j2,w,e1,e2,e3,if_true,Option.bind_some]
   clear w
   rw [if_neg c4,if_pos (by omega)]
theorem dGr_l1 (b : List Int) (hb : b.length ≤ 140737488351232) (n dn most a : Int) (hm : most = 2 ∨ most = 4 ∨ most = 51) (hdn : 1 ≤ dn ∧ dn ≤ 3) (ha : 0 ≤ a) (han : a < n) (hn : n ≤ 9) (R : Int → Int → List S36 → Prop) (lim : Nat) (hlim : lim ≤ 1000)
  (hc : ∀ E' i' h',GI n (a + 1) 0 E' → E'.length ≤ lim → 0 ≤ i' → ∃ r,Ev (fun k=>spec_l08Graph.l0 k dn most (a + 1) b i' h' n E') r ∧ R r.1 r.2.2.1 r.2.1) : ∀ (d : Nat) (c : Int) (E : List S36) (i h : Int),a < c → c + d = n → 0 ≤ i → GI n a c E → E.length + d ≤ lim → ∃ r,Ev (fun k=>spec_l08Graph.l1 k dn most a c b i h n E) r ∧ R r.1 r.2.2.1 r.2.1
 | 0,c,E,i,h,hac,hcn,hi,hE,hl=>by
  have w : wrap64 (a + 1) = a + 1:=wid (by omega) (by omega)
  obtain ⟨r,ev,hr⟩:=hc E i h hE.row (by omega) hi
  refine ⟨r,ev.to fun k=>?_,hr⟩
  simp only [spec_l08Graph.l1,w]
  clear w
  rw [if_neg (by omega)]
 | d + 1,c,E,i,h,hac,hcn,hi,hE,hl=>by
  have w : wrap64 (dn + 1) = dn + 1:=wid (by omega) (by omega)
  obtain ⟨x1,i1,h1,e1,p1,q1,r1⟩:=dBelow b i h (dn + 1) hb hi (by omega)
  have ih:=fun E' i' h' (g : GI n a (c + 1) E') (hl' : E'.length ≤ E.length + 1) (hi' : 0 ≤ i')=>dGr_l1 b hb n dn most a hm hdn ha han hn R lim hlim hc d (c + 1) E' i' h' (by omega) (by omega) hi' g (by omega)
  by_cases cx : x1 = 0
  ·obtain ⟨r,ev,hr⟩:=dGr_j2 b hb n dn most a c hm ha hac (by omega) hn (dn == 3) E i1 h1 r1 hE (by omega) R ih
   refine ⟨r,ev.to fun k=>?_,hr⟩
   simp only [spec_l08Graph.l1,spec_l01Once.f,w,e1,Option.bind_some]
   clear w
   rw [if_pos (by omega),if_pos (by simpa using cx)]
  ·obtain ⟨r,ev,hr⟩:=dGr_j2 b hb n dn most a c hm ha hac (by omega) hn true E i1 h1 r1 hE (by omega) R ih
   refine ⟨r,ev.to fun k=>?_,hr⟩
   simp only [spec_l08Graph.l1,spec_l01Once.f,w,e1,Option.bind_some]
   clear w
   rw [if_pos (by omega),if_neg (by simpa using cx)]
theorem dGr_l0 (b : List Int) (hb : b.length ≤ 140737488351232) (n dn most : Int) (hm : most = 2 ∨ most = 4 ∨ most = 51) (hdn : 1 ≤ dn ∧ dn ≤ 3) (hn : 0 ≤ n ∧ n ≤ 9) : ∀ (d : Nat) (a : Int) (E : List S36) (i h : Int),0 ≤ a → a + d = n → 0 ≤ i → GI n a 0 E → E.length + 9 * d ≤ 100 → ∃ r,Ev (fun k=>spec_l08Graph.l0 k dn most a b i h n E) r ∧ (r.1 = n ∧ 0 ≤ r.2.2.1 ∧ GI n n 0 r.2.1 ∧ r.2.1.length ≤ 100)
 | 0,a,E,i,h,ha,hd,hi,hE,hl=>by
  refine ⟨(n,E,i,h),(Ev.now _).to fun k=>?_,rfl,hi,?_,by simp only;omega⟩
  ·simp only [spec_l08Graph.l0]
   rw [if_neg (by omega)]
  ·have : a = n:=by omega
   rw [this] at hE
   exact hE
 | d + 1,a,E,i,h,ha,hd,hi,hE,hl=>by
  have w : wrap64 (a + 1) = a + 1:=wid (by omega) (by omega)
  have ih:=fun E' i' h' (g : GI n (a + 1) 0 E') (hl' : E'.length ≤ E.length + 9) (hi' : 0 ≤ i')=>dGr_l0 b hb n dn most hm hdn hn d (a + 1) E' i' h' (by omega) (by omega) hi' g (by omega)
  obtain ⟨r,ev,hr⟩:=dGr_l1 b hb n dn most a hm hdn ha (by omega) hn.2 (fun x y z=>x = n ∧ 0 ≤ y ∧ GI n n 0 z ∧ z.length ≤ 100) (E.length + 9) (by omega) ih (n - (a + 1)).toNat (a + 1) E i h (by omega) (by omega) hi (hE.next (by omega)) (by omega)
  refine ⟨r,ev.to fun k=>?_,hr⟩
  simp only [spec_l08Graph.l0,w]
  clear w
  rw [if_pos (by omega)]
theorem dPickI (b : List Int) (hb : b.length ≤ 140737488351232) (i h : Int) (hi : 0 ≤ i) (l : List Int) (hl : 0 < l.length) : ∃ s i' h',spec_l01PickInt.f b i h l = some (s,i',h') ∧ s ∈ l ∧ 0 ≤ i':=by
 unfold spec_l01PickInt.f
 obtain ⟨x1,i1,h1,e1,p1,q1,r1⟩:=dBelow b i h (l.length : Int) hb hi (by omega)
 rw [e1]
 simp only [Option.bind_some]
 rw [if_pos p1,if_pos q1]
 refine ⟨_,_,_,rfl,?_,r1⟩
 have hx : x1.toNat < l.length:=by omega
 have:=rd_at hx
 rw [Int.toNat_of_nonneg p1] at this
 rw [this]
 exact List.getElem_mem hx
def dG3 (b : List Int) (k : Nat) (n dn : Int) (bt : Int × Int × Int) : Option (Int × List S36 × Int × Int):=spec_l08Graph.l0 k dn bt.1 0 b bt.2.1 bt.2.2 n []
def dG2 (b : List Int) (k : Nat) (n : Int) (bt : Int × Int × Int) : Option (Int × List S36 × Int × Int):=(spec_l01PickInt.f b bt.2.1 bt.2.2 [2,4,51]).bind (dG3 b k n (wrap64 (1 + bt.1)))
def dG1 (b : List Int) (k : Nat) (bt : Int × Int × Int) : Option (Int × List S36 × Int × Int):=(spec_l01Below.f b bt.2.1 bt.2.2 3).bind (dG2 b k bt.1)
theorem dGraph0 (b : List Int) (hb : b.length ≤ 140737488351232) (i h : Int) (hi : 0 ≤ i) : ∃ n E i' h',Ev (fun k=>spec_l08Graph.f k b i h) (n,E,i',h') ∧ gok n E = true ∧ E.length ≤ 100 ∧ 0 ≤ i':=by
 obtain ⟨n,i1,h1,e1,p1,q1,r1⟩:=dBelow b i h 10 hb hi (by omega)
 obtain ⟨x,i2,h2,e2,p2,q2,r2⟩:=dBelow b i1 h1 3 hb r1 (by omega)
 obtain ⟨m,i3,h3,e3,hm,r3⟩:=dPickI b hb i2 h2 r2 [2,4,51] (by decide)
 have hm' : m = 2 ∨ m = 4 ∨ m = 51:=by simpa using hm
 have w : wrap64 (1 + x) = 1 + x:=wid (by omega) (by omega)
 obtain ⟨r,ev,h0,hi',hG,hl⟩:=dGr_l0 b hb n (1 + x) m hm' (by omega) (by omega) n.toNat 0 [] i3 h3 (by omega) (by omega) r3 ⟨by simp,fun _ h=>by simp at h,fun _ h=>by simp at h⟩ (by simp;omega)
 obtain ⟨n',E,i4,h4⟩:=r
 simp only at h0 hi' hG hl
 subst h0
 refine ⟨n',E,i4,h4,?_,?_,hl,hi'⟩
 ·have s3 : ∀ k,(spec_l01PickInt.f b i2 h2 [2,4,51]).bind (dG3 b k n' (wrap64 (1 + x))) = dG3 b k n' (wrap64 (1 + x)) (m,i3,h3):=fun k=>(congrArg (fun o=>Option.bind o (dG3 b k n' (wrap64 (1 + x)))) e3).trans (Option.bind_some _ _)
  have s2 : ∀ k,(spec_l01Below.f b i1 h1 3).bind (dG2 b k n') = dG2 b k n' (x,i2,h2):=fun k=>(congrArg (fun o=>Option.bind o (dG2 b k n')) e2).trans (Option.bind_some _ _)
  have s1 : ∀ k,(spec_l01Below.f b i h 10).bind (dG1 b k) = dG1 b k (n',i1,h1):=fun k=>(congrArg (fun o=>Option.bind o (dG1 b k)) e1).trans (Option.bind_some _ _)
  rw [← w] at ev
  unfold spec_l08Graph.f
  exact Ev.cg (f:=fun k=>dG1 b k (n',i1,h1)) (Ev.cg (f:=fun k=>dG2 b k n' (x,i2,h2)) (Ev.cg (f:=fun k=>dG3 b k n' (wrap64 (1 + x)) (m,i3,h3)) ev s3) s2) s1
 ·unfold gok
  rw [edgesOk_of n' E none hG.1 hG.2.1 (fun q hq=>by cases hq),Bool.and_true,decide_eq_true_eq]
  omega

def inL (l : List Int) (x : Int) : Bool:=decide (x ∈ l)
theorem inL_cons (y : Int) (l : List Int) (x : Int) : inL (y :: l) x = if y = x then true else inL l x:=by
 unfold inL
 by_cases h : y = x
 ·rw [if_pos h];simp [h]
 ·rw [if_neg h,decide_eq_decide];simp [show ¬ x = y from fun e=>h e.symm]

theorem ri_Couple {xs : List S130} {i : Nat} (h : i < xs.length) : rd_T130 xs (i : Int) = xs[i]:=getD_at _ h

/-! Pairings -/
def capOk (E : List S36) (u : List Int) (a b : Int) : Bool:=decide (0 ≤ atE a b 0 E) && (!inL u a && !inL u b)
def prevLt : Option S130 → S130 → Bool
 | none,_=>true
 | some p,c=>decide (p.f0 < c.f0)
def mFrom (E : List S36) : List Int → Option S130 → List S130 → Bool
 | _,_,[]=>true
 | u,p,c :: l=>(decide (c.f0 < c.f1) && prevLt p c) && (capOk E u c.f0 c.f1 && mFrom E (u ++ [c.f0,c.f1]) (some c) l)
def mOk (n : Int) (E : List S36) (m : List S130) : Bool:=gok n E && mFrom E [] none m
def prevC (l : List S130) : Nat → Option S130
 | 0=>none
 | i + 1=>l[i]?
theorem prevC_succ {l : List S130} {i : Nat} (h : i < l.length) : prevC l (i + 1) = some l[i]:=List.getElem?_eq_getElem h
def lowC : Option S130 → Int
 | none=>0
 | some q=>q.f0 + 1
theorem mFrom_len {n : Int} {E : List S36} (hg : gok n E = true) : ∀ (m : List S130) (u : List Int) (p : Option S130),mFrom E u p m = true → (∀ q,p = some q → 0 ≤ q.f0) → (m.length : Int) ≤ 8 - lowC p ∨ m = []
 | [],_,_,_,_=>.inr rfl
 | c :: m,u,p,h,hp=>by
  left
  simp only [mFrom,capOk,Bool.and_eq_true,decide_eq_true_eq] at h
  obtain ⟨⟨h1,h2⟩,⟨h3,_⟩,h5⟩:=h
  obtain ⟨e,he,hi⟩:=atE_mem h3
  obtain ⟨e1,e2,e3,_⟩:=gok_all hg e he
  have hn:=gok_n hg
  have hc : 0 ≤ c.f0 ∧ c.f1 ≤ 8:=by
   rcases hi with ⟨g1,g2⟩|⟨g1,g2⟩
   ·omega
   ·omega
  have ih:=mFrom_len hg m _ (some c) h5 (fun q hq=>by injection hq with hq;rw [← hq];exact hc.1)
  have hpc : lowC p ≤ c.f0:=by
   cases p with
   | none=>exact hc.1
   | some q=>simp only [prevLt,decide_eq_true_eq] at h2;show q.f0 + 1 ≤ c.f0;omega
  simp only [List.length_cons]
  rcases ih with ih|rfl
  ·have e : lowC (some c) = c.f0 + 1:=rfl
   omega
  ·simp only [List.length_nil]
   omega
theorem mOk_len {n : Int} {E : List S36} {m : List S130} (h : mOk n E m = true) : m.length ≤ 8:=by
 unfold mOk at h
 rw [Bool.and_eq_true] at h
 rcases mFrom_len h.1 m [] none h.2 (fun q hq=>by cases hq) with h1|rfl
 ·have e : lowC none = 0:=rfl
  omega
 ·simp

theorem sAt_go (n a b : Int) (l : List S36) (hl : l.length ≤ 1048576) : ∀ (d i : Nat),i + d = l.length → Ev (fun k=>spec_l08At.l0 k a b (i : Int) n l) (atE a b i (l.drop i))
 | 0,i,hi=>by
  rw [List.drop_of_length_le (by omega)]
  exact (Ev.now _).to fun k=>by simp only [spec_l08At.l0];rw [if_neg (by omega)];rfl
 | d + 1,i,hi=>by
  have hlt : i < l.length:=by omega
  have ih:=sAt_go n a b l hl d (i + 1) (by omega)
  rw [List.drop_eq_getElem_cons hlt]
  have w2 : qn (wrap64 ((i : Int) + 1) = ((i + 1 : Nat) : Int)):=⟨by rw [wid (by omega) (by omega)];rfl⟩
  unfold atE
  by_cases hc : isE a b l[i]
  ·rw [if_pos hc]
   refine (Ev.now _).to fun k=>?_
   simp only [spec_l08At.l0]
   rw [if_pos (by omega),if_pos (by omega),ri_Edge hlt]
   unfold isE at hc
   repeat' split
   all_goals first|rfl|omega
  ·rw [if_neg hc]
   refine ih.to fun k=>?_
   simp only [spec_l08At.l0]
   rw [if_pos (by omega),if_pos (by omega),ri_Edge hlt,w2.out]
   unfold isE at hc
   repeat' split
   all_goals first|rfl|omega
theorem sAt (n a b : Int) (l : List S36) (hl : l.length ≤ 1048576) : Ev (fun k=>spec_l08At.f k n l a b) (atE a b 0 l):=by
 unfold spec_l08At.f
 exact sAt_go n a b l hl l.length 0 (by omega)

theorem sl03In_go (l : List Int) (x : Int) (hl : l.length ≤ 100000000) : ∀ (d i : Nat),i + d = l.length → Ev (fun k=>spec_l03In.l0 k l x (i : Int)) (inL (l.drop i) x)
 | 0,i,hi=>by
  rw [List.drop_of_length_le (by omega)]
  exact (Ev.now _).to fun k=>by simp only [spec_l03In.l0];rw [if_neg (by omega)];rfl
 | d + 1,i,hi=>by
  have hlt : i < l.length:=by omega
  have w2 : qn (wrap64 ((i : Int) + 1) = ((i + 1 : Nat) : Int)):=⟨by rw [wid (by omega) (by omega)];rfl⟩
  rw [List.drop_eq_getElem_cons hlt,inL_cons]
  by_cases h : l[i] = x
  ·rw [if_pos h]
   refine (Ev.now _).to fun k=>?_
   simp only [spec_l03In.l0]
   rw [if_pos (by omega),if_pos (by omega),rd_at hlt,if_pos h]
  ·rw [if_neg h]
   refine (sl03In_go l x hl d (i + 1) (by omega)).to fun k=>?_
   simp only [spec_l03In.l0]
   rw [if_pos (by omega),if_pos (by omega),rd_at hlt,if_neg h,w2.out]
theorem sl03In (l : List Int) (x : Int) (hl : l.length ≤ 100000000) : Ev (fun k=>spec_l03In.f k l x) (inL l x):=by
 unfold spec_l03In.f
 exact sl03In_go l x hl l.length 0 (by omega)

theorem sM_tail {n a b : Int} {E : List S36} {u : List Int} (hE : E.length ≤ 1048576) (hu : u.length ≤ 10000000) {L : Nat → List Int → Option Bool} {r : Bool} (hL : Ev (fun k=>L k (u ++ [a,b])) r) :
  Ev (fun k=>(spec_l08At.f k n E a b).bind fun t=>if t < 0 then some false else (spec_l03In.f k u a).bind fun t1=>if t1 = true then some false else (spec_l03In.f k u b).bind fun t2=>if t2 = true then some false else (some ([a,b] : List Int)).bind fun y=>if u.length + y.length < 17592186044416 then L k (u ++ y) else none) (capOk E u a b && r):=by
 unfold capOk
 refine (sAt n a b E hE).bind ?_
 by_cases h1 : atE a b 0 E < 0
 ·rw [decide_eq_false (by omega),Bool.false_and,Bool.false_and]
  exact Ev.ifp h1 (Ev.now _)
 ·rw [decide_eq_true (by omega),Bool.true_and]
  refine Ev.ifn h1 ((sl03In u a (by omega)).bind ?_)
  cases hA : inL u a with
  | true=>exact Ev.ifp rfl (Ev.now _)
  | false =>
   refine Ev.ifn (by decide) ((sl03In u b (by omega)).bind ?_)
   cases hB : inL u b with
   | true=>exact Ev.ifp rfl (Ev.now _)
   | false =>
    refine Ev.ifn (by decide) ?_
    simp only [Option.bind_some,Bool.not_false,Bool.true_and]
    exact Ev.ifp (by simp;omega) hL
theorem sMat_go (n : Int) (E : List S36) (hE : E.length ≤ 1048576) (l : List S130) (hl : l.length ≤ 1048576) : ∀ (d i : Nat) (u : List Int),i + d = l.length → u.length ≤ 2 * i → Ev (fun k=>spec_MatchOk.l0 k l u (i : Int) n E) (mFrom E u (prevC l i) (l.drop i))
 | 0,i,u,hi,hu=>by
  rw [List.drop_of_length_le (by omega)]
  refine Ev.ofEq ((Ev.now true).to fun k=>?_) (by cases prevC l i <;> rfl)
  simp only [spec_MatchOk.l0]
  rw [if_neg (by omega)]
 | d + 1,i,u,hi,hu=>by
  have hlt : i < l.length:=by omega
  have ih:=sMat_go n E hE l hl d (i + 1) (u ++ [l[i].f0,l[i].f1]) (by omega) (by simp;omega)
  rw [prevC_succ hlt] at ih
  have w2 : wrap64 ((i : Int) + 1) = ((i + 1 : Nat) : Int):=by rw [wid (by omega) (by omega)];rfl
  have tl:=sM_tail (n:=n) (a:=l[i].f0) (b:=l[i].f1) (E:=E) (u:=u) hE (by omega) (L:=fun k z=>spec_MatchOk.l0 k l z ((i + 1 : Nat) : Int) n E) ih
  rw [List.drop_eq_getElem_cons hlt,mFrom]
  by_cases h1 : l[i].f0 < l[i].f1
  ·rw [decide_eq_true h1,Bool.true_and]
   rcases i with _|i
   ·rw [show prevLt (prevC l 0) l[0] = true from rfl,Bool.true_and]
    refine tl.to fun k=>?_
    simp only [spec_MatchOk.l0,w2]
    clear w2
    rw [if_pos (by omega),if_pos (by omega),ri_Couple hlt,if_neg (by omega),if_neg (by omega)]
   ·have hlt' : i < l.length:=by omega
    have w1 : wrap64 (((i + 1 : Nat) : Int) - 1) = (i : Int):=by rw [wid (by omega) (by omega)];omega
    rw [prevC_succ hlt',prevLt]
    by_cases h2 : l[i].f0 < l[i + 1].f0
    ·rw [decide_eq_true h2,Bool.true_and]
     refine tl.to fun k=>?_
     simp only [spec_MatchOk.l0,w1,w2]
     clear w1 w2
     rw [if_pos (by omega),if_pos (by omega),ri_Couple hlt,if_neg (by omega),if_pos (by omega),if_pos (by omega),if_pos (by omega),ri_Couple hlt',if_neg (by omega)]
    ·rw [decide_eq_false h2,Bool.false_and]
     refine (Ev.now _).to fun k=>?_
     simp only [spec_MatchOk.l0,w1,w2]
     clear w1 w2
     rw [if_pos (by omega),if_pos (by omega),ri_Couple hlt,if_neg (by omega),if_pos (by omega),if_pos (by omega),if_pos (by omega),ri_Couple hlt',if_pos (by omega)]
  ·rw [decide_eq_false h1,Bool.false_and,Bool.false_and]
   refine (Ev.now _).to fun k=>?_
   simp only [spec_MatchOk.l0]
   clear w2
   rw [if_pos (by omega),if_pos (by omega),ri_Couple hlt,if_pos (by omega)]

theorem s_in (a b c : Int) : spec_l01In.f a b c = some (decide (b ≤ a ∧ a ≤ c)):=by
 unfold spec_l01In.f
 by_cases h : a ≥ b
 ·rw [if_pos h];simp [show b ≤ a from h]
 ·rw [if_neg h];simp [show ¬ b ≤ a from h]
theorem s_in_t {a b c : Int} (h : b ≤ a ∧ a ≤ c) : spec_l01In.f a b c = some true:=by rw [s_in,decide_eq_true h]
/-! spec.GraphOk, its ways to false struck (straight.py) -/
theorem s_worth (a : Int) : spec_l08Worth.f a = some (decide (0 ≤ a ∧ a ≤ 50)):=by unfold spec_l08Worth.f;rw [s_in];rfl
theorem eOk_at {n : Int} {p : Option S36} {e : S36} {l : List S36} (h : edgesOk n p (e :: l) = true) : edgeOk n e = true ∧ edgesOk n (some e) l = true ∧ (∀ q,p = some q → edgeLt q e = true):=by
 cases p with
 | none=>simp only [edgesOk,Bool.and_eq_true] at h;exact ⟨h.1,h.2,fun _ hq=>by cases hq⟩
 | some q=>simp only [edgesOk,Bool.and_eq_true] at h;exact ⟨h.1,h.2.2,fun _ hq=>by cases hq;exact h.2.1⟩
theorem sGOT_go (n : Int) (l : List S36) (hl : l.length ≤ 1048576) : ∀ (d i : Nat),i + d = l.length → edgesOk n (prevE l i) (l.drop i) = true → Ev (fun k=>spec_GraphOk.l0 k (i : Int) n l) true
 | 0,i,hi,_=>by
  refine (Ev.now true).to fun k=>?_
  simp only [spec_GraphOk.l0]
  rw [if_neg (by omega)]
 | d + 1,i,hi,h=>by
  have hlt : i < l.length:=by omega
  rw [List.drop_eq_getElem_cons hlt] at h
  obtain ⟨hb,h6,h7⟩:=eOk_at h
  have ih:=sGOT_go n l hl d (i + 1) (by omega) (by rw [prevE_succ hlt];exact h6)
  unfold edgeOk at hb
  rw [decide_eq_true_eq] at hb
  obtain ⟨b0,b1,b2,b3,b4,b5⟩:=hb
  have step : ∀ k,spec_GraphOk.l0 (k + 1) (i : Int) n l = spec_GraphOk.j1 k (i : Int) false n l l[i].f0 l[i].f1 l[i].f2 l[i].f3 l[i].f4:=by
   intro k
   simp only [spec_GraphOk.l0,s_worth,Option.bind_some]
   rw [if_pos (by omega),if_pos (by omega),ri_Edge hlt,if_neg (by omega),if_neg (by omega),if_neg (by omega),if_pos (decide_eq_true b3),if_pos (decide_eq_true b4),decide_eq_true b5]
   rfl
  refine Ev.to ?_ step
  have w2 : qn (wrap64 ((i : Int) + 1) = ((i + 1 : Nat) : Int)):=⟨by rw [wid (by omega) (by omega)];rfl⟩
  rcases i with _|i
  ·refine ih.to fun k=>?_
   simp only [spec_GraphOk.j1]
   rw [if_neg (by decide),if_neg (by decide),w2.out]
  ·have hlt' : i < l.length:=by omega
   have hlt2:=h7 _ (prevE_succ hlt')
   have w1 : qn (wrap64 (((i + 1 : Nat) : Int) - 1) = (i : Int)):=⟨by rw [wid (by omega) (by omega)];omega⟩
   refine ih.to fun k=>?_
   simp only [spec_GraphOk.j1]
   rw [if_neg (by decide),if_pos (by omega),w1.out,if_pos (by omega),if_pos (by omega),ri_Edge hlt',w2.out]
   unfold edgeLt at hlt2
   rw [decide_eq_true_eq] at hlt2
   rw [if_neg (by omega)]
   by_cases h1 : l[i].f0 = l[i + 1].f0
   ·rw [if_pos h1,if_neg (by omega)]
   ·rw [if_neg h1]
theorem sGraphOkT {n : Int} {l : List S36} (hl : l.length ≤ 1048576) (hg : gok n l = true) : Ev (fun k=>spec_GraphOk.f k n l) true:=by
 unfold gok at hg
 rw [Bool.and_eq_true,decide_eq_true_eq] at hg
 unfold spec_GraphOk.f
 rw [s_in_t hg.1]
 simp only [Option.bind_some,if_true]
 exact sGOT_go n l hl l.length 0 (by omega) hg.2

theorem sMatchOkT {n : Int} {E : List S36} (m : List S130) (hE : E.length ≤ 1048576) (h : gok n E = true) (hm : m.length ≤ 1048576) : Ev (fun k=>spec_MatchOk.f k n E m) (mOk n E m):=by
 unfold spec_MatchOk.f
 refine (sGraphOkT hE h).bind (Ev.ifp rfl ?_)
 by_cases h9 : m.length > 9
 ·have : mOk n E m = false:=by
   cases hm : mOk n E m with
   | false=>rfl
   | true=>have:=mOk_len hm;omega
  rw [this,decide_eq_true (by omega)]
  exact (Ev.now _).to fun k=>by simp only [spec_MatchOk.j0,if_true]
 ·unfold mOk
  rw [h,Bool.true_and,decide_eq_false (by omega)]
  refine Ev.to (sMat_go n E hE m hm m.length 0 [] (by omega) (by simp)) fun k=>?_
  simp only [spec_MatchOk.j0,Bool.false_eq_true,if_false]
  rfl

theorem dOnce (b : List Int) (i h n : Int) (hb : b.length ≤ 140737488351232) (hi : 0 ≤ i) (hn : 0 < n) : ∃ x i' h',spec_l01Once.f b i h n = some (x,i',h') ∧ 0 ≤ i':=by
 obtain ⟨x,i',h',e,_,_,q⟩:=dBelow b i h n hb hi hn
 refine ⟨x == 0,i',h',?_,q⟩
 unfold spec_l01Once.f
 rw [e,Option.bind_some]
def dMC (k : Nat) (m : List S130) (u : List Int) (x8 : Int) (b : List Int) (i h n : Int) (E : List S36) (e : S36) : Option ((List (S130)) × Int × Int) :=
 if (m.length : Int) = 0 then (if m.length < 8796093022208 then ((some (([e.f0,e.f1] : List Int) : List Int)).bind fun y=>(if u.length + y.length < 17592186044416 then (spec_l09Match.l0 k (m ++ [(⟨e.f0,e.f1⟩ : S130)]) (u ++ y) x8 b i h n E) else (none))) else (none)) else (if 0 ≤ (wrap64 ((m.length : Int) - 1)) then (if (wrap64 ((m.length : Int) - 1)) < (m.length : Int) then (if ((rd_T130 m (wrap64 ((m.length : Int) - 1))).f0) < e.f0 then (if m.length < 8796093022208 then ((some (([e.f0,e.f1] : List Int) : List Int)).bind fun y=>(if u.length + y.length < 17592186044416 then (spec_l09Match.l0 k (m ++ [(⟨e.f0,e.f1⟩ : S130)]) (u ++ y) x8 b i h n E) else (none))) else (none)) else (spec_l09Match.l0 k m u x8 b i h n E)) else (none)) else (none))
def dMB (k : Nat) (m : List S130) (u : List Int) (x8 : Int) (b : List Int) (i h n : Int) (E : List S36) (e : S36) : Option ((List (S130)) × Int × Int) :=
 (spec_l03In.f k u e.f0).bind fun t265=>(if t265 = true then (spec_l09Match.l0 k m u x8 b i h n E) else ((spec_l03In.f k u e.f1).bind fun t266=>(if t266 = true then (spec_l09Match.l0 k m u x8 b i h n E) else dMC k m u x8 b i h n E e)))
theorem dMC_ev {m : List S130} {u : List Int} {x8 : Int} {b : List Int} {i h n : Int} {E : List S36} {e : S36} (hm : m.length ≤ 1000) (hu : u.length ≤ 2000) {R : (List S130) × Int × Int → Prop}
  (sk : ∃ r,Ev (fun k=>spec_l09Match.l0 k m u x8 b i h n E) r ∧ R r) (ad : ∃ r,Ev (fun k=>spec_l09Match.l0 k (m ++ [(⟨e.f0,e.f1⟩ : S130)]) (u ++ [e.f0,e.f1]) x8 b i h n E) r ∧ R r) : ∃ r,Ev (fun k=>dMC k m u x8 b i h n E e) r ∧ R r:=by
 obtain ⟨r1,ev1,h1⟩:=sk
 obtain ⟨r2,ev2,h2⟩:=ad
 have hu2 : u.length + [e.f0,e.f1].length < 17592186044416:=by show u.length + 2 < _;omega
 have add : Ev (fun k=>if m.length < 8796093022208 then ((some (([e.f0,e.f1] : List Int) : List Int)).bind fun y=>(if u.length + y.length < 17592186044416 then (spec_l09Match.l0 k (m ++ [(⟨e.f0,e.f1⟩ : S130)]) (u ++ y) x8 b i h n E) else (none))) else (none)) r2 :=
  Ev.ifp (by omega) (ev2.cg fun k=>by rw [Option.bind_some,if_pos hu2])
 unfold dMC
 by_cases c : (m.length : Int) = 0
 ·exact ⟨r2,Ev.ifp c add,h2⟩
 ·have w : wrap64 ((m.length : Int) - 1) = (m.length : Int) - 1:=wid (by omega) (by omega)
  rw [w]
  clear w
  by_cases c2 : ((rd_T130 m ((m.length : Int) - 1)).f0) < e.f0
  ·exact ⟨r2,Ev.ifn c (Ev.ifp (by omega) (Ev.ifp (by omega) (Ev.ifp c2 add))),h2⟩
  ·exact ⟨r1,Ev.ifn c (Ev.ifp (by omega) (Ev.ifp (by omega) (Ev.ifn c2 ev1))),h1⟩
theorem dMB_ev {m : List S130} {u : List Int} {x8 : Int} {b : List Int} {i h n : Int} {E : List S36} {e : S36} (hm : m.length ≤ 1000) (hu : u.length ≤ 2000) {R : (List S130) × Int × Int → Prop}
  (sk : ∃ r,Ev (fun k=>spec_l09Match.l0 k m u x8 b i h n E) r ∧ R r) (ad : ∃ r,Ev (fun k=>spec_l09Match.l0 k (m ++ [(⟨e.f0,e.f1⟩ : S130)]) (u ++ [e.f0,e.f1]) x8 b i h n E) r ∧ R r) : ∃ r,Ev (fun k=>dMB k m u x8 b i h n E e) r ∧ R r:=by
 have hC:=dMC_ev hm hu sk ad
 obtain ⟨r1,ev1,h1⟩:=sk
 obtain ⟨r3,ev3,h3⟩:=hC
 unfold dMB
 have e0:=sl03In u e.f0 (by omega)
 have e1:=sl03In u e.f1 (by omega)
 by_cases c0 : inL u e.f0 = true
 ·exact ⟨r1,e0.bind (Ev.ifp c0 ev1),h1⟩
 ·by_cases c1 : inL u e.f1 = true
  ·exact ⟨r1,e0.bind (Ev.ifn c0 (e1.bind (Ev.ifp c1 ev1))),h1⟩
  ·exact ⟨r3,e0.bind (Ev.ifn c0 (e1.bind (Ev.ifn c1 ev3))),h3⟩
theorem dMat_go (b : List Int) (hb : b.length ≤ 140737488351232) (n : Int) (E : List S36) (hE : E.length ≤ 900) : ∀ (d x : Nat) (m : List S130) (u : List Int) (i h : Int),x + d = E.length → 0 ≤ i → m.length ≤ x → u.length ≤ 2 * x → ∃ r,Ev (fun k=>spec_l09Match.l0 k m u (x : Int) b i h n E) r ∧ r.1.length ≤ E.length + 1
 | 0,x,m,u,i,h,hx,hi,hm,hu=>by
  obtain ⟨f,i1,h1,e1,p1⟩:=dOnce b i h 15 hb hi (by omega)
  cases f with
  | false =>
   refine ⟨(m,i1,h1),(Ev.now _).to fun k=>?_,by show m.length ≤ _;omega⟩
   simp only [spec_l09Match.l0]
   rw [if_neg (by omega),e1,Option.bind_some,if_neg Bool.false_ne_true]
  | true =>
   obtain ⟨x1,i2,h2,e2,_,_,p2⟩:=dBelow b i1 h1 9 hb p1 (by omega)
   obtain ⟨x2,i3,h3,e3,_,_,p3⟩:=dBelow b i2 h2 10 hb p2 (by omega)
   refine ⟨(m ++ [(⟨x1,x2⟩ : S130)],i3,h3),(Ev.now _).to fun k=>?_,by show (m ++ [_]).length ≤ _;rw [List.length_append];show m.length + 1 ≤ _;omega⟩
   simp only [spec_l09Match.l0]
   rw [if_neg (by omega),e1,Option.bind_some,if_pos rfl,e2,Option.bind_some,e3,Option.bind_some,if_pos (by omega)]
 | d + 1,x,m,u,i,h,hx,hi,hm,hu=>by
  obtain ⟨f,i1,h1,e1,p1⟩:=dOnce b i h 3 hb hi (by omega)
  have w : qn (wrap64 ((x : Int) + 1) = ((x + 1 : Nat) : Int)):=⟨by rw [wid (by omega) (by omega)];rfl⟩
  have sk:=dMat_go b hb n E hE d (x + 1) m u i1 h1 (by omega) p1 (by omega) (by omega)
  cases f with
  | false =>
   obtain ⟨r,ev,hr⟩:=sk
   refine ⟨r,ev.to fun k=>?_,hr⟩
   simp only [spec_l09Match.l0]
   rw [if_pos (by omega),if_pos (by omega),e1,Option.bind_some,if_neg Bool.false_ne_true,w.out]
  | true =>
   have ad:=dMat_go b hb n E hE d (x + 1) (m ++ [(⟨(rd_T36 E (x : Int)).f0,(rd_T36 E (x : Int)).f1⟩ : S130)]) (u ++ [(rd_T36 E (x : Int)).f0,(rd_T36 E (x : Int)).f1]) i1 h1 (by omega) p1 (by rw [List.length_append];show m.length + 1 ≤ _;omega) (by rw [List.length_append];show u.length + 2 ≤ _;omega)
   obtain ⟨r,ev,hr⟩:=dMB_ev (by omega) (by omega) sk ad
   refine ⟨r,ev.to fun k=>?_,hr⟩
   simp only [spec_l09Match.l0]
   rw [if_pos (by omega),if_pos (by omega),e1,Option.bind_some,if_pos rfl,w.out]
   rfl
theorem dRM (b : List Int) (hb : b.length ≤ 140737488351232) : ∃ n E m,Ev (fun k=>spec_DrawRightMatch.f k b) (n,E,m) ∧ mOk n E m = true ∧ E.length ≤ 100:=by
 obtain ⟨h,ev⟩:=dNew b hb
 obtain ⟨n,E,i',h',ev2,hg,hl,hi'⟩:=dGraph0 b hb 0 h (by omega)
 obtain ⟨⟨m,i2,h2⟩,ev3,hm⟩:=dMat_go b hb n E (by omega) E.length 0 [] [] i' h' (by omega) hi' (by simp) (by simp)
 have ev4:=sMatchOkT m (by omega) hg (by simp only at hm;omega)
 have ev3 : Ev (fun k=>spec_l09Match.f k b i' h' n E) (m,i2,h2):=by unfold spec_l09Match.f;exact ev3
 unfold spec_DrawRightMatch.f
 by_cases c : mOk n E m = true
 ·exact ⟨n,E,m,ev.bind (ev2.bind (ev3.bind (ev4.bind (Ev.ifp c (Ev.now _))))),c,hl⟩
 ·exact ⟨n,E,[],ev.bind (ev2.bind (ev3.bind (ev4.bind (Ev.ifn c (Ev.now _))))),by unfold mOk;rw [hg];rfl,hl⟩

/-! All pairings: by edges and by vertices the same -/
abbrev T3:=Int × Int × Int
def lt3 (a b : T3) : Prop:=a.1 < b.1 ∨ (a.1 = b.1 ∧ (a.2.1 < b.2.1 ∨ (a.2.1 = b.2.1 ∧ a.2.2 < b.2.2)))
instance (a b : T3) : Decidable (lt3 a b):=inferInstanceAs (Decidable (_ ∨ _))
def mx3 (a b : T3) : T3:=if lt3 a b then b else a
def ad3 (a b : T3) : T3:=(a.1 + b.1,a.2.1 + b.2.1,a.2.2 + b.2.2)
theorem lt3_tr {a b c : T3} : lt3 a b → lt3 b c → lt3 a c:=by unfold lt3;omega
theorem lt3_asy {a b : T3} : lt3 a b → ¬ lt3 b a:=by unfold lt3;omega
theorem lt3_tot {a b : T3} : ¬ lt3 a b → ¬ lt3 b a → a = b:=by
 obtain ⟨a0,a1,a2⟩:=a
 obtain ⟨b0,b1,b2⟩:=b
 unfold lt3
 intro h h'
 simp only at h h'
 rw [show a0 = b0 by omega,show a1 = b1 by omega,show a2 = b2 by omega]
theorem lt3_trn {a b c : T3} (h : ¬ lt3 a b) (h' : ¬ lt3 b c) : ¬ lt3 a c:=by unfold lt3 at *;omega
theorem lt3_ad (s a b : T3) : lt3 (ad3 s a) (ad3 s b) ↔ lt3 a b:=by unfold lt3 ad3;simp only;omega
theorem mx3_comm (a b : T3) : mx3 a b = mx3 b a:=by
 unfold mx3
 by_cases h : lt3 a b
 ·rw [if_pos h,if_neg (lt3_asy h)]
 ·by_cases h' : lt3 b a
  ·rw [if_neg h,if_pos h']
  ·rw [if_neg h,if_neg h',lt3_tot h h']
theorem mx3_assoc (a b c : T3) : mx3 (mx3 a b) c = mx3 a (mx3 b c):=by
 unfold mx3
 by_cases h1 : lt3 a b
 ·by_cases h2 : lt3 b c
  ·rw [if_pos h1,if_pos h2,if_pos (lt3_tr h1 h2)]
  ·rw [if_pos h1,if_neg h2,if_pos h1]
 ·by_cases h2 : lt3 b c
  ·rw [if_neg h1,if_pos h2]
  ·rw [if_neg h1,if_neg h2,if_neg h1,if_neg (lt3_trn h1 h2)]
theorem ad3_mx3 (s a b : T3) : ad3 s (mx3 a b) = mx3 (ad3 s a) (ad3 s b):=by
 unfold mx3
 by_cases h : lt3 a b
 ·rw [if_pos h,if_pos ((lt3_ad s a b).2 h)]
 ·rw [if_neg h,if_neg (fun h'=>h ((lt3_ad s a b).1 h'))]
theorem ad3_assoc (a b c : T3) : ad3 (ad3 a b) c = ad3 a (ad3 b c):=by
 unfold ad3;simp only [Int.add_assoc]
theorem ad3_zero (a : T3) : ad3 a (0,0,0) = a:=by unfold ad3;simp
abbrev V3:=T3 × Int
def jn (x y : V3) : V3:=(mx3 x.1 y.1,x.2 + y.2)
def sh (w : T3) (x : V3) : V3:=(ad3 w x.1,x.2)
theorem jn_comm (x y : V3) : jn x y = jn y x:=by unfold jn;rw [mx3_comm,Int.add_comm]
theorem jn_assoc (x y z : V3) : jn (jn x y) z = jn x (jn y z):=by unfold jn;simp only;rw [mx3_assoc,Int.add_assoc]
theorem jn_right (x y z : V3) : jn (jn x y) z = jn (jn x z) y:=by rw [jn_assoc,jn_comm y z,← jn_assoc]
def w3 (e : S36) : T3:=(e.f2,e.f3,e.f4)
def bE : List S36 → (Int → Bool) → V3
 | [],_=>((0,0,0),1)
 | e :: E,t=>if (t e.f0 || t e.f1) = true then bE E t else jn (bE E t) (sh (w3 e) (bE E (fun x=>t x || (x == e.f0 || x == e.f1))))
theorem bE_congr : ∀ (E : List S36) (t t' : Int → Bool),(∀ e ∈ E,t e.f0 = t' e.f0 ∧ t e.f1 = t' e.f1) → bE E t = bE E t'
 | [],_,_,_=>rfl
 | e :: E,t,t',h=>by
  have h0:=h e (List.mem_cons_self ..)
  have i1:=bE_congr E t t' (fun x hx=>h x (List.mem_cons_of_mem _ hx))
  have i2:=bE_congr E (fun x=>t x || (x == e.f0 || x == e.f1)) (fun x=>t' x || (x == e.f0 || x == e.f1)) (fun x hx=>by
   have:=h x (List.mem_cons_of_mem _ hx)
   simp only [this.1,this.2,and_self])
  unfold bE
  rw [h0.1,h0.2,i1,i2]
theorem bE_skip (E : List S36) (v : Int) (t : Int → Bool) (hv : t v = true) : ∀ (r : List S36),(∀ e ∈ r,e.f0 = v) → bE (r ++ E) t = bE E t
 | [],_=>rfl
 | e :: r,h=>by
  rw [List.cons_append,bE,if_pos (by rw [h e (List.mem_cons_self ..),hv];rfl)]
  exact bE_skip E v t hv r (fun x hx=>h x (List.mem_cons_of_mem _ hx))
def rowF (G : S36 → Option V3) : V3 → List S36 → V3
 | acc,[]=>acc
 | acc,e :: r=>match G e with
  | none=>rowF G acc r
  | some x=>rowF G (jn acc x) r
theorem rowF_jn (G : S36 → Option V3) (x : V3) : ∀ (r : List S36) (acc : V3),rowF G (jn acc x) r = jn (rowF G acc r) x
 | [],acc=>rfl
 | e :: r,acc=>by
  unfold rowF
  cases G e with
  | none=>exact rowF_jn G x r acc
  | some y=>show rowF G (jn (jn acc x) y) r = jn (rowF G (jn acc y) r) x;rw [jn_right,rowF_jn G x r]
theorem rowF_congr (G G' : S36 → Option V3) : ∀ (r : List S36) (acc : V3),(∀ e ∈ r,G e = G' e) → rowF G acc r = rowF G' acc r
 | [],acc,_=>rfl
 | e :: r,acc,h=>by
  have h':=fun a=>rowF_congr G G' r a (fun x hx=>h x (List.mem_cons_of_mem _ hx))
  unfold rowF
  rw [h e (List.mem_cons_self ..)]
  cases G' e with
  | none=>exact h' acc
  | some y=>exact h' _
def rowG (E : List S36) (t : Int → Bool) (v : Int) (e : S36) : Option V3 :=
 if t e.f1 = true then none else some (sh (w3 e) (bE E (fun x=>t x || (x == v || x == e.f1))))
theorem bE_row (E : List S36) (v : Int) (t : Int → Bool) (hv : t v = false) : ∀ (r : List S36),(∀ e ∈ r,e.f0 = v) → bE (r ++ E) t = rowF (rowG E t v) (bE E t) r
 | [],_=>rfl
 | e :: r,h=>by
  have ih:=bE_row E v t hv r (fun x hx=>h x (List.mem_cons_of_mem _ hx))
  have h0:=h e (List.mem_cons_self ..)
  rw [List.cons_append,bE,h0,hv,Bool.false_or,rowF,rowG]
  by_cases h1 : t e.f1 = true
  ·rw [if_pos h1,if_pos h1];exact ih
  ·rw [if_neg h1,if_neg h1]
   simp only
   rw [rowF_jn,ih,bE_skip E v _ (by simp) r (fun x hx=>h x (List.mem_cons_of_mem _ hx))]
theorem filter_split {α : Type} {R : α → α → Prop} {p q r : α → Bool} : ∀ (l : List α),l.Pairwise R → (∀ x ∈ l,p x = (q x || r x)) → (∀ x ∈ l,¬ (q x = true ∧ r x = true)) → (∀ a ∈ l,∀ b ∈ l,R a b → r a = true → q b = false) → l.filter p = l.filter q ++ l.filter r
 | [],_,_,_,_=>rfl
 | x :: l,hl,h1,h2,h3=>by
  rw [List.pairwise_cons] at hl
  have ih:=filter_split (p:=p) (q:=q) (r:=r) l hl.2 (fun y hy=>h1 y (List.mem_cons_of_mem _ hy)) (fun y hy=>h2 y (List.mem_cons_of_mem _ hy)) (fun a ha b hb=>h3 a (List.mem_cons_of_mem _ ha) b (List.mem_cons_of_mem _ hb))
  have hx1:=h1 x (List.mem_cons_self ..)
  have hx2:=h2 x (List.mem_cons_self ..)
  cases hq : q x with
  | true =>
   have hr : r x = false:=by
    cases hr : r x with
    | false=>rfl
    | true=>exact absurd ⟨hq,hr⟩ hx2
   rw [hq,Bool.true_or] at hx1
   rw [List.filter_cons_of_pos hx1,List.filter_cons_of_pos hq,List.filter_cons_of_neg (by rw [hr];decide),ih];rfl
  | false =>
   cases hr : r x with
   | false =>
    rw [hq,hr,Bool.false_or] at hx1
    rw [List.filter_cons_of_neg (by rw [hx1];decide),List.filter_cons_of_neg (by rw [hq];decide),List.filter_cons_of_neg (by rw [hr];decide),ih]
   | true =>
    rw [hq,hr,Bool.false_or] at hx1
    have hn : l.filter q = []:=by
     rw [List.filter_eq_nil_iff]
     intro y hy
     rw [h3 x (List.mem_cons_self ..) y (List.mem_cons_of_mem _ hy) (hl.1 y hy) hr]
     decide
    rw [List.filter_cons_of_pos hx1,List.filter_cons_of_neg (by rw [hq];decide),List.filter_cons_of_pos hr,ih,hn];rfl
def rest (E : List S36) (v : Int) : List S36:=E.filter fun e=>decide (v ≤ e.f0)
def row (E : List S36) (v b : Int) : List S36:=E.filter fun e=>decide (e.f0 = v ∧ b ≤ e.f1)
theorem rest_split {E : List S36} (hE : E.Pairwise ltE) (hlt : ∀ e ∈ E,e.f0 < e.f1) (v : Int) : rest E v = row E v (v + 1) ++ rest E (v + 1):=by
 unfold rest row
 refine filter_split E hE (fun x hx=>?_) (fun x hx=>?_) (fun a ha b hb hab=>?_)
 ·have:=hlt x hx
  rw [← Bool.decide_or,decide_eq_decide];omega
 ·simp only [decide_eq_true_eq];omega
 ·simp only [decide_eq_true_eq,decide_eq_false_iff_not]
  unfold ltE at hab;omega
theorem row_split {E : List S36} (hE : E.Pairwise ltE) (v b : Int) : row E v b = (E.filter fun e=>decide (e.f0 = v ∧ e.f1 = b)) ++ row E v (b + 1):=by
 unfold row
 refine filter_split E hE (fun x hx=>?_) (fun x hx=>?_) (fun a ha c hc hab=>?_)
 ·rw [← Bool.decide_or,decide_eq_decide];omega
 ·simp only [decide_eq_true_eq];omega
 ·simp only [decide_eq_true_eq,decide_eq_false_iff_not]
  unfold ltE at hab;omega
theorem one_at {E : List S36} (hE : E.Pairwise ltE) (hlt : ∀ e ∈ E,e.f0 < e.f1) {v b : Int} (hvb : v < b) : (E.filter fun e=>decide (e.f0 = v ∧ e.f1 = b)) = if 0 ≤ atE v b 0 E then [rd_T36 E (atE v b 0 E)] else []:=by
 by_cases h : 0 ≤ atE v b 0 E
 ·rw [if_pos h]
  obtain ⟨hm,hi⟩:=atE_get h
  have hl:=hlt _ hm
  refine sorted_ext ltE_irr ltE_asy _ _ (hE.filter _) (by simp) (fun x=>?_)
  rw [List.mem_filter,List.mem_singleton,decide_eq_true_eq]
  constructor
  ·rintro ⟨hx,h0,h1⟩
   refine pw_uniq hE hx hm ?_ ?_ <;> rcases hi with ⟨i0,i1⟩|⟨i0,i1⟩ <;> omega
  ·rintro rfl
   refine ⟨hm,?_⟩
   rcases hi with ⟨i0,i1⟩|⟨i0,i1⟩ <;> omega
 ·rw [if_neg h,List.filter_eq_nil_iff]
  intro x hx hc
  rw [decide_eq_true_eq] at hc
  exact h (atE_ex E 0 ⟨x,hx,.inl hc⟩)
theorem rest_end {n : Int} {E : List S36} (hg : gok n E = true) {v : Int} (hv : n ≤ v) : rest E v = []:=by
 unfold rest
 rw [List.filter_eq_nil_iff]
 intro x hx hc
 rw [decide_eq_true_eq] at hc
 have:=gok_all hg x hx
 omega
theorem row_end {n : Int} {E : List S36} (hg : gok n E = true) {v b : Int} (hv : n ≤ b) : row E v b = []:=by
 unfold row
 rw [List.filter_eq_nil_iff]
 intro x hx hc
 rw [decide_eq_true_eq] at hc
 have:=gok_all hg x hx
 omega
theorem rest_all {n : Int} {E : List S36} (hg : gok n E = true) : rest E 0 = E:=by
 unfold rest
 rw [List.filter_eq_self]
 intro x hx
 rw [decide_eq_true_eq]
 exact (gok_all hg x hx).1
/-- What the vertices from b on add to what there is. -/
def sB (E : List S36) (u : List Int) (v : Int) (f : List Int → V3) : Nat → Int → V3 → V3
 | 0,_,acc=>acc
 | m + 1,b,acc=>if atE v b 0 E < 0 then sB E u v f m (b + 1) acc else if inL u b = true then sB E u v f m (b + 1) acc else sB E u v f m (b + 1) (jn acc (sh (w3 (rd_T36 E (atE v b 0 E))) (f (u ++ [b]))))
def sV (E : List S36) : Nat → Int → List Int → V3
 | 0,_,_=>((0,0,0),1)
 | d + 1,v,u=>if inL u v = true then sV E d (v + 1) u else sB E u v (sV E d (v + 1)) d (v + 1) (sV E d (v + 1) u)
def sG (u : List Int) (f : List Int → V3) (e : S36) : Option V3:=if inL u e.f1 = true then none else some (sh (w3 e) (f (u ++ [e.f1])))
theorem sB_row {n : Int} {E : List S36} (hg : gok n E = true) (hE : E.Pairwise ltE) (u : List Int) (v : Int) (f : List Int → V3) : ∀ (m : Nat) (b : Int) (acc : V3),v < b → b + m = n → sB E u v f m b acc = rowF (sG u f) acc (row E v b)
 | 0,b,acc,hb,hm=>by rw [row_end hg (by omega)];rfl
 | m + 1,b,acc,hb,hm=>by
  have hlt : ∀ e ∈ E,e.f0 < e.f1:=fun e he=>(gok_all hg e he).2.1
  have ih:=fun a=>sB_row hg hE u v f m (b + 1) a (by omega) (by omega)
  rw [row_split hE,one_at hE hlt hb,sB]
  by_cases h : 0 ≤ atE v b 0 E
  ·obtain ⟨hm',hi⟩:=atE_get h
   have hl:=hlt _ hm'
   have hf : (rd_T36 E (atE v b 0 E)).f1 = b:=by rcases hi with ⟨i0,i1⟩|⟨i0,i1⟩ <;> omega
   rw [if_neg (by omega),if_pos h,List.singleton_append,rowF,sG,hf]
   by_cases hu : inL u b = true
   ·rw [if_pos hu,if_pos hu];exact ih acc
   ·rw [if_neg hu,if_neg hu];exact ih _
  ·rw [if_pos (by omega),if_neg h,List.nil_append]
   exact ih acc
theorem inL_snoc (u : List Int) (b x : Int) : inL (u ++ [b]) x = (inL u x || x == b):=by
 unfold inL
 by_cases h : x ∈ u <;> by_cases h' : x = b <;> simp [h,h']
theorem pairs_same {n : Int} {E : List S36} (hg : gok n E = true) (hE : E.Pairwise ltE) : ∀ (d : Nat) (v : Int) (u : List Int) (t : Int → Bool),v + d = n → (∀ x,v ≤ x → t x = inL u x) → bE (rest E v) t = sV E d v u
 | 0,v,u,t,hd,ht=>by rw [rest_end hg (by omega)];rfl
 | d + 1,v,u,t,hd,ht=>by
  have hlt : ∀ e ∈ E,e.f0 < e.f1:=fun e he=>(gok_all hg e he).2.1
  have ih:=pairs_same hg hE d (v + 1)
  have hrow : ∀ e ∈ row E v (v + 1),e.f0 = v ∧ v + 1 ≤ e.f1:=fun e he=>by
   have:=(List.mem_filter.1 he).2
   rwa [decide_eq_true_eq] at this
  rw [rest_split hE hlt,sV]
  have hv:=ht v (Int.le_refl _)
  by_cases h : inL u v = true
  ·rw [if_pos h,bE_skip _ v t (by rw [hv,h]) _ (fun e he=>(hrow e he).1)]
   exact ih u t (by omega) (fun x hx=>ht x (by omega))
  ·rw [if_neg h,bE_row _ v t (by rw [hv];simpa using h) _ (fun e he=>(hrow e he).1),ih u t (by omega) (fun x hx=>ht x (by omega)),sB_row hg hE u v _ d (v + 1) _ (by omega) (by omega)]
   refine rowF_congr _ _ _ _ (fun e he=>?_)
   obtain ⟨h0,h1⟩:=hrow e he
   unfold rowG sG
   rw [ht e.f1 (by omega),ih (u ++ [e.f1]) (fun x=>t x || (x == v || x == e.f1)) (by omega) (fun x hx=>by
    show (t x || (x == v || x == e.f1)) = _
    rw [inL_snoc,ht x (by omega),show (x == v) = false from by simp;omega,Bool.false_or])]
/-- All pairings: the best sums and how many there are. -/
theorem pairs_all {n : Int} {E : List S36} (hg : gok n E = true) : bE E (fun _=>false) = sV E n.toNat 0 []:=by
 have hE : E.Pairwise ltE:=by
  have h:=hg
  unfold gok at h
  rw [Bool.and_eq_true] at h
  exact (edgesOk_pw n E none h.2).2
 have:=pairs_same hg hE n.toNat 0 [] (fun _=>false) (by have:=gok_n hg;omega) (fun x _=>rfl)
 rwa [rest_all hg] at this

/-! Sums -/
def sumsG (E : List S36) : List S130 → Int → Int → Int → Int × Int × Int
 | [],a,b,d=>(a,b,d)
 | c :: l,a,b,d=>sumsG E l (wrap64 (a + (rd_T36 E (atE c.f0 c.f1 0 E)).f2)) (wrap64 (b + (rd_T36 E (atE c.f0 c.f1 0 E)).f3)) (wrap64 (d + (rd_T36 E (atE c.f0 c.f1 0 E)).f4))
def sumsOf (n : Int) (E : List S36) (m : List S130) : Int × Int × Int × Bool :=
 if mOk n E m = true then ((sumsG E m 0 0 0).1,(sumsG E m 0 0 0).2.1,(sumsG E m 0 0 0).2.2,true) else (0,0,0,false)
theorem mFrom_at {E : List S36} : ∀ (m : List S130) (u : List Int) (p : Option S130),mFrom E u p m = true → ∀ c ∈ m,0 ≤ atE c.f0 c.f1 0 E
 | [],_,_,_,c,hc=>by simp at hc
 | x :: m,u,p,h,c,hc=>by
  simp only [mFrom,capOk,Bool.and_eq_true,decide_eq_true_eq] at h
  obtain ⟨_,⟨h3,_⟩,h5⟩:=h
  rcases List.mem_cons.1 hc with rfl|hc
  ·exact h3
  ·exact mFrom_at m _ _ h5 c hc
theorem mOk_at {n : Int} {E : List S36} {m : List S130} (h : mOk n E m = true) : ∀ c ∈ m,0 ≤ atE c.f0 c.f1 0 E:=by
 unfold mOk at h
 rw [Bool.and_eq_true] at h
 exact mFrom_at m [] none h.2
theorem atE_lt {a b : Int} {l : List S36} (h : 0 ≤ atE a b 0 l) : atE a b 0 l < (l.length : Int):=by
 obtain ⟨h1,_,_⟩:=atE_some a b l 0 h
 omega

/-! A pairing is among all pairings -/
def sumE : List S36 → T3
 | []=>(0,0,0)
 | e :: F=>ad3 (w3 e) (sumE F)
def apartE (e x : S36) : Prop:=x.f0 ≠ e.f0 ∧ x.f0 ≠ e.f1 ∧ x.f1 ≠ e.f0 ∧ x.f1 ≠ e.f1
theorem mx3_ge2 (a b : T3) : ¬ lt3 (mx3 a b) b:=by
 unfold mx3
 by_cases h : lt3 a b
 ·rw [if_pos h];exact fun h'=>lt3_asy h' h'
 ·rw [if_neg h];exact h
theorem mx3_ge1 (a b : T3) : ¬ lt3 (mx3 a b) a:=by rw [mx3_comm];exact mx3_ge2 b a
theorem bE_one : ∀ (E : List S36) (t : Int → Bool),1 ≤ (bE E t).2
 | [],_=>by show (1 : Int) ≤ 1;omega
 | e :: E,t=>by
  have h1:=bE_one E t
  have h2:=bE_one E (fun x=>t x || (x == e.f0 || x == e.f1))
  unfold bE
  by_cases h : (t e.f0 || t e.f1) = true
  ·rw [if_pos h];exact h1
  ·rw [if_neg h];show 1 ≤ (bE E t).2 + (bE E _).2;omega
theorem bE_ge {F E : List S36} (h : F.Sublist E) : ∀ (t : Int → Bool),F.Pairwise apartE → (∀ e ∈ F,t e.f0 = false ∧ t e.f1 = false) → ¬ lt3 (bE E t).1 (sumE F) ∧ (F.length : Int) + 1 ≤ (bE E t).2:=by
 induction h with
 | slnil=>exact fun t _ _=>⟨fun h=>lt3_asy h h,by show (0 : Int) + 1 ≤ 1;omega⟩
 | @cons F E e h ih =>
  intro t hp ht
  obtain ⟨i1,i2⟩:=ih t hp ht
  have p2:=bE_one E (fun x=>t x || (x == e.f0 || x == e.f1))
  unfold bE
  by_cases c : (t e.f0 || t e.f1) = true
  ·rw [if_pos c];exact ⟨i1,i2⟩
  ·rw [if_neg c]
   exact ⟨lt3_trn (mx3_ge1 _ _) i1,by show _ ≤ (bE E t).2 + (bE E _).2;omega⟩
 | @cons_cons F E e h ih =>
  intro t hp ht
  rw [List.pairwise_cons] at hp
  obtain ⟨t0,t1⟩:=ht e (List.mem_cons_self ..)
  obtain ⟨i1,i2⟩:=ih (fun x=>t x || (x == e.f0 || x == e.f1)) hp.2 (fun x hx=>by
   obtain ⟨a0,a1,a2,a3⟩:=hp.1 x hx
   obtain ⟨b0,b1⟩:=ht x (List.mem_cons_of_mem _ hx)
   constructor
   ·show (t x.f0 || (x.f0 == e.f0 || x.f0 == e.f1)) = false
    rw [b0,beq_false_of_ne a0,beq_false_of_ne a1];rfl
   ·show (t x.f1 || (x.f1 == e.f0 || x.f1 == e.f1)) = false
    rw [b1,beq_false_of_ne a2,beq_false_of_ne a3];rfl)
  have p1:=bE_one E t
  unfold bE
  rw [if_neg (by rw [t0,t1];decide)]
  refine ⟨lt3_trn (mx3_ge2 _ _) (fun h'=>i1 ((lt3_ad (w3 e) _ _).1 h')),?_⟩
  show ((F.length + 1 : Nat) : Int) + 1 ≤ (bE E t).2 + (bE E (fun x=>t x || (x == e.f0 || x == e.f1))).2
  omega
theorem sorted_sub {α : Type} {R : α → α → Prop} (hirr : ∀ a,¬ R a a) (hasy : ∀ a b,R a b → ¬ R b a) : ∀ (E F : List α),E.Pairwise R → F.Pairwise R → (∀ x ∈ F,x ∈ E) → F.Sublist E
 | _,[],_,_,_=>List.nil_sublist _
 | [],f :: F,_,_,h=>absurd (h f (List.mem_cons_self ..)) (by simp)
 | e :: E,f :: F,hE,hF,h=>by
  rw [List.pairwise_cons] at hE
  have hF':=List.pairwise_cons.1 hF
  by_cases c : f = e
  ·subst c
   refine (sorted_sub hirr hasy E F hE.2 hF'.2 (fun x hx=>?_)).cons_cons _
   rcases List.mem_cons.1 (h x (List.mem_cons_of_mem _ hx)) with rfl|hx'
   ·exact absurd (hF'.1 _ hx) (hirr _)
   ·exact hx'
  ·have hf : f ∈ E:=(List.mem_cons.1 (h f (List.mem_cons_self ..))).resolve_left c
   refine (sorted_sub hirr hasy E (f :: F) hE.2 hF (fun x hx=>?_)).cons _
   rcases List.mem_cons.1 (h x hx) with rfl|hx'
   ·rcases List.mem_cons.1 hx with rfl|hx
    ·exact absurd rfl c
    ·exact absurd (hE.1 f hf) (hasy _ _ (hF'.1 _ hx))
   ·exact hx'
def cOf (E : List S36) (c : S130) : S36:=rd_T36 E (atE c.f0 c.f1 0 E)
def apartC (a b : S130) : Prop:=a.f0 < b.f0 ∧ b.f0 ≠ a.f1 ∧ b.f1 ≠ a.f0 ∧ b.f1 ≠ a.f1
theorem mFrom_facts {E : List S36} : ∀ (m : List S130) (u : List Int) (p : Option S130),mFrom E u p m = true → (∀ c ∈ m,c.f0 < c.f1 ∧ 0 ≤ atE c.f0 c.f1 0 E ∧ inL u c.f0 = false ∧ inL u c.f1 = false) ∧ (∀ q,p = some q → ∀ c ∈ m,q.f0 < c.f0) ∧ m.Pairwise apartC
 | [],u,p,_=>⟨fun _ h=>by simp at h,fun _ _ _ h=>by simp at h,by simp⟩
 | c :: m,u,p,h=>by
  simp only [mFrom,capOk,Bool.and_eq_true,decide_eq_true_eq,Bool.not_eq_true'] at h
  obtain ⟨⟨h1,h2⟩,⟨h3,h4,h5⟩,h6⟩:=h
  obtain ⟨i1,i2,i3⟩:=mFrom_facts m _ _ h6
  have key : ∀ x,inL (u ++ [c.f0,c.f1]) x = false → inL u x = false ∧ x ≠ c.f0 ∧ x ≠ c.f1:=by
   intro x hx
   unfold inL at hx ⊢
   rw [decide_eq_false_iff_not] at hx ⊢
   simp only [List.mem_append,List.mem_cons,List.not_mem_nil,or_false,not_or] at hx
   exact ⟨hx.1,hx.2.1,hx.2.2⟩
  refine ⟨fun d hd=>?_,fun q hq d hd=>?_,List.pairwise_cons.2 ⟨fun d hd=>?_,i3⟩⟩
  ·rcases List.mem_cons.1 hd with rfl|hd
   ·exact ⟨h1,h3,h4,h5⟩
   ·obtain ⟨a,b,e,f⟩:=i1 d hd
    exact ⟨a,b,(key _ e).1,(key _ f).1⟩
  ·subst hq
   simp only [prevLt,decide_eq_true_eq] at h2
   rcases List.mem_cons.1 hd with rfl|hd
   ·exact h2
   ·exact Int.lt_trans h2 (i2 c rfl d hd)
  ·obtain ⟨a,b,e,f⟩:=i1 d hd
   exact ⟨i2 c rfl d hd,(key _ e).2.2,(key _ f).2.1,(key _ f).2.2⟩
theorem cOf_at {n : Int} {E : List S36} (hg : gok n E = true) {c : S130} (h : c.f0 < c.f1) (hat : 0 ≤ atE c.f0 c.f1 0 E) : cOf E c ∈ E ∧ (cOf E c).f0 = c.f0 ∧ (cOf E c).f1 = c.f1:=by
 obtain ⟨hm,hi⟩:=atE_get hat
 have:=(gok_all hg _ hm).2.1
 refine ⟨hm,?_,?_⟩ <;> (unfold cOf;rcases hi with ⟨i0,i1⟩|⟨i0,i1⟩ <;> omega)
theorem gok_pw2 {n : Int} {E : List S36} (h : gok n E = true) : E.Pairwise ltE:=by
 unfold gok at h
 rw [Bool.and_eq_true] at h
 exact (edgesOk_pw n E none h.2).2
theorem match_sub {n : Int} {E : List S36} {m : List S130} (h : mOk n E m = true) : (m.map (cOf E)).Sublist E ∧ (m.map (cOf E)).Pairwise apartE:=by
 unfold mOk at h
 rw [Bool.and_eq_true] at h
 obtain ⟨hg,hm⟩:=h
 obtain ⟨i1,_,i3⟩:=mFrom_facts m _ _ hm
 have at_ : ∀ c ∈ m,cOf E c ∈ E ∧ (cOf E c).f0 = c.f0 ∧ (cOf E c).f1 = c.f1:=fun c hc=>cOf_at hg (i1 c hc).1 (i1 c hc).2.1
 constructor
 ·refine sorted_sub ltE_irr ltE_asy E _ (gok_pw2 hg) ?_ (fun x hx=>?_)
  ·rw [List.pairwise_map]
   refine i3.imp_of_mem (fun {a b} ha hb hab=>?_)
   obtain ⟨_,a0,_⟩:=at_ a ha
   obtain ⟨_,b0,_⟩:=at_ b hb
   left
   rw [a0,b0];exact hab.1
  ·obtain ⟨c,hc,rfl⟩:=List.mem_map.1 hx
   exact (at_ c hc).1
 ·rw [List.pairwise_map]
  refine i3.imp_of_mem (fun {a b} ha hb hab=>?_)
  obtain ⟨_,a0,a1⟩:=at_ a ha
  obtain ⟨_,b0,b1⟩:=at_ b hb
  obtain ⟨h1,h2,h3,h4⟩:=hab
  unfold apartE
  rw [a0,a1,b0,b1]
  exact ⟨by omega,h2,h3,h4⟩
/-- No pairing is better than the best of all; there are more pairings than a pairing has couples. -/
theorem match_le {n : Int} {E : List S36} {m : List S130} (h : mOk n E m = true) : ¬ lt3 (bE E (fun _=>false)).1 (sumE (m.map (cOf E))) ∧ (m.length : Int) + 1 ≤ (bE E (fun _=>false)).2:=by
 obtain ⟨h1,h2⟩:=match_sub h
 have:=bE_ge h1 (fun _=>false) h2 (fun _ _=>⟨rfl,rfl⟩)
 rwa [List.length_map] at this
def lowB (a : Int) (l : Nat) : Prop:=0 ≤ a ∧ a + 50 * (l : Int) ≤ 1000000
theorem lowB.step {a x : Int} {l : Nat} (h : lowB a (l + 1)) (h0 : 0 ≤ x) (h1 : x ≤ 50) : wrap64 (a + x) = a + x ∧ lowB (a + x) l:=by
 unfold lowB at *
 have w:=wid (n:=a + x) (by omega) (by omega)
 refine ⟨w,?_⟩
 clear w
 omega
theorem sumsG_eq {n : Int} {E : List S36} (hg : gok n E = true) : ∀ (m : List S130),(∀ c ∈ m,0 ≤ atE c.f0 c.f1 0 E) → ∀ (a b d : Int),lowB a m.length → lowB b m.length → lowB d m.length → sumsG E m a b d = ad3 (a,b,d) (sumE (m.map (cOf E)))
 | [],_,a,b,d,_,_,_=>by show (a,b,d) = ad3 (a,b,d) (0,0,0);rw [ad3_zero]
 | c :: m,hA,a,b,d,ha,hb,hd=>by
  have hw:=gok_all hg _ (atE_get (hA c (List.mem_cons_self ..))).1
  rw [List.length_cons] at ha hb hd
  obtain ⟨wa,la⟩:=ha.step hw.2.2.2.1.1 hw.2.2.2.1.2
  obtain ⟨wb,lb⟩:=hb.step hw.2.2.2.2.1.1 hw.2.2.2.2.1.2
  obtain ⟨wd,ld⟩:=hd.step hw.2.2.2.2.2.1 hw.2.2.2.2.2.2
  rw [sumsG,List.map_cons]
  show _ = ad3 (a,b,d) (ad3 (w3 (cOf E c)) (sumE (m.map (cOf E))))
  rw [← ad3_assoc,wa,wb,wd]
  exact sumsG_eq hg m (fun x hx=>hA x (List.mem_cons_of_mem _ hx)) _ _ _ la lb ld

theorem i_in (a b c : Int) : impl_in.f a b c = some (decide (b ≤ a ∧ a ≤ c)):=by
 unfold impl_in.f
 by_cases h : a ≥ b
 ·rw [if_pos h];simp [show b ≤ a from h]
 ·rw [if_neg h];simp [show ¬ b ≤ a from h]
theorem i_in_t {a b c : Int} (h : b ≤ a ∧ a ≤ c) : impl_in.f a b c = some true:=by rw [i_in,decide_eq_true h]
/-! impl.GraphOk, its ways to false struck (straight.py) -/
theorem iGOT_go (n : Int) (l : List S36) (hn : 0 ≤ n ∧ n ≤ 9) (hl : l.length ≤ 1048576) : ∀ (d i : Nat),i + d = l.length → edgesOk n (prevE l i) (l.drop i) = true → Ev (fun k=>impl_GraphOk.l0 k l (l.length : Int) (i : Int) n l) true
 | 0,i,hi,_=>by
  refine (Ev.now true).to fun k=>?_
  simp only [impl_GraphOk.l0]
  rw [if_neg (by omega)]
 | d + 1,i,hi,h=>by
  have hlt : i < l.length:=by omega
  rw [List.drop_eq_getElem_cons hlt] at h
  obtain ⟨hb,h6,h7⟩:=eOk_at h
  have ih:=iGOT_go n l hn hl d (i + 1) (by omega) (by rw [prevE_succ hlt];exact h6)
  unfold edgeOk at hb
  rw [decide_eq_true_eq] at hb
  obtain ⟨b0,b1,b2,b3,b4,b5⟩:=hb
  have step : ∀ k,impl_GraphOk.l0 (k + 1) l (l.length : Int) (i : Int) n l = impl_GraphOk.j1 k (i : Int) l (l.length : Int) (i : Int) false n l l[i].f0 l[i].f1 l[i].f2 l[i].f3 l[i].f4:=by
   intro k
   have w : wrap64 (n - 1) = n - 1:=wid (by omega) (by omega)
   simp only [impl_GraphOk.l0,i_in,Option.bind_some,w]
   clear w
   rw [if_pos (by omega),if_pos (by omega),if_pos (by omega),ri_Edge hlt,if_pos (decide_eq_true (show 0 ≤ l[i].f0 ∧ l[i].f0 ≤ n - 1 by omega)),if_pos (decide_eq_true (show 0 ≤ l[i].f1 ∧ l[i].f1 ≤ n - 1 by omega)),if_neg (by omega),if_pos (decide_eq_true b3),if_pos (decide_eq_true b4),decide_eq_true b5]
   rfl
  refine Ev.to ?_ step
  have w2 : qn (wrap64 ((i : Int) + 1) = ((i + 1 : Nat) : Int)):=⟨by rw [wid (by omega) (by omega)];rfl⟩
  rcases i with _|i
  ·refine ih.to fun k=>?_
   simp only [impl_GraphOk.j1]
   rw [if_neg (by decide),if_neg (by decide),w2.out]
  ·have hlt' : i < l.length:=by omega
   have hlt2:=h7 _ (prevE_succ hlt')
   have w1 : qn (wrap64 (((i + 1 : Nat) : Int) - 1) = (i : Int)):=⟨by rw [wid (by omega) (by omega)];omega⟩
   refine ih.to fun k=>?_
   simp only [impl_GraphOk.j1]
   rw [if_neg (by decide),if_pos (by omega),w1.out,if_pos (by omega),if_pos (by omega),ri_Edge hlt',w2.out]
   unfold edgeLt at hlt2
   rw [decide_eq_true_eq] at hlt2
   rw [if_neg (by omega)]
   by_cases h1 : l[i].f0 = l[i + 1].f0
   ·rw [if_pos h1,if_neg (by omega)]
   ·rw [if_neg h1]
theorem iGraphOkT {n : Int} {l : List S36} (hl : l.length ≤ 1048576) (hg : gok n l = true) : Ev (fun k=>impl_GraphOk.f k n l) true:=by
 unfold gok at hg
 rw [Bool.and_eq_true,decide_eq_true_eq] at hg
 unfold impl_GraphOk.f
 rw [i_in_t hg.1]
 simp only [Option.bind_some,if_true]
 exact iGOT_go n l hg.1 hl l.length 0 (by omega) hg.2

/-! Masks of vertices -/
theorem m_hk (n : Int) (h0 : 0 ≤ n) (h1 : n < 2 ^ 9) : IntKind.i64.wrap n = n:=by rw [IntKind.wrap_i64];omega
theorem m_pow : ∀ a : Nat,a < 9 → wrap64 (2 ^ min a 64) = ((2 ^ a : Nat) : Int):=by decide +kernel
theorem m_lt : ∀ a : Nat,a < 9 → 2 ^ a < 2 ^ 9:=by decide
theorem both_nat (e : S36) (h0 : e.f0.toNat < 9) (h1 : e.f1.toNat < 9) : bothM e = ((2 ^ e.f0.toNat ||| 2 ^ e.f1.toNat : Nat) : Int):=by
 unfold bothM
 rw [m_pow _ h0,m_pow _ h1]
 exact (bits_nat .i64 9 (by decide) m_hk _ _ (m_lt _ h0) (m_lt _ h1)).2
theorem m_and0 (M a b : Nat) : (M &&& (2 ^ a ||| 2 ^ b)) = 0 ↔ ¬ (M.testBit a || M.testBit b) = true:=by
 constructor
 ·intro h hc
  have ha : (M &&& (2 ^ a ||| 2 ^ b)).testBit a = false:=by rw [h,Nat.zero_testBit]
  have hb : (M &&& (2 ^ a ||| 2 ^ b)).testBit b = false:=by rw [h,Nat.zero_testBit]
  rw [Nat.testBit_and,Nat.testBit_or,Nat.testBit_two_pow_self,Bool.true_or,Bool.and_true] at ha
  rw [Nat.testBit_and,Nat.testBit_or,Nat.testBit_two_pow_self,Bool.or_true,Bool.and_true] at hb
  rw [ha,hb] at hc
  exact absurd hc (by decide)
 ·intro h
  apply Nat.eq_of_testBit_eq
  intro i
  rw [Nat.zero_testBit,Nat.testBit_and,Nat.testBit_or,Nat.testBit_two_pow,Nat.testBit_two_pow]
  rw [Bool.or_eq_true,not_or,Bool.not_eq_true,Bool.not_eq_true] at h
  by_cases ea : a = i
  ·subst ea;rw [h.1,Bool.false_and]
  ·by_cases eb : b = i
   ·subst eb;rw [h.2,Bool.false_and]
   ·rw [decide_eq_false ea,decide_eq_false eb];simp
def mt (M : Nat) (x : Int) : Bool:=M.testBit x.toNat
theorem mt_zero : mt 0 = fun _=>false:=by funext x;unfold mt;exact Nat.zero_testBit _
theorem mt_or (M : Nat) {a b x : Int} (ha : 0 ≤ a) (hb : 0 ≤ b) (hx : 0 ≤ x) : mt (M ||| (2 ^ a.toNat ||| 2 ^ b.toNat)) x = (mt M x || (x == a || x == b)):=by
 unfold mt
 rw [Nat.testBit_or,Nat.testBit_or,Nat.testBit_two_pow,Nat.testBit_two_pow]
 have e1 : decide (a.toNat = x.toNat) = (x == a):=by
  rw [Bool.eq_iff_iff,decide_eq_true_eq,beq_iff_eq];omega
 have e2 : decide (b.toNat = x.toNat) = (x == b):=by
  rw [Bool.eq_iff_iff,decide_eq_true_eq,beq_iff_eq];omega
 rw [e1,e2]
theorem bE_pos : ∀ (E : List S36) (t : Int → Bool),0 ≤ (bE E t).2
 | [],_=>by show (0 : Int) ≤ 1;omega
 | e :: E,t=>by
  have h1:=bE_pos E t
  have h2:=bE_pos E (fun x=>t x || (x == e.f0 || x == e.f1))
  unfold bE
  by_cases h : (t e.f0 || t e.f1) = true
  ·rw [if_pos h];exact h1
  ·rw [if_neg h];show 0 ≤ (bE E t).2 + (bE E _).2;omega
def smallE (E : List S36) : Prop:=∀ e ∈ E,(0 ≤ e.f0 ∧ e.f0 < 9) ∧ (0 ≤ e.f1 ∧ e.f1 < 9) ∧ (0 ≤ e.f2 ∧ e.f2 ≤ 50) ∧ (0 ≤ e.f3 ∧ e.f3 ≤ 50) ∧ (0 ≤ e.f4 ∧ e.f4 ≤ 50)
/-- A step of the masks: what stands at an edge. -/
theorem m_step {e : S36} {E : List S36} (h : smallE (e :: E)) {M : Nat} (hM : M < 2 ^ 9) : ∃ M' : Nat,M' < 2 ^ 9 ∧ Go.bits .or .i64 (M : Int) (bothM e) = (M' : Int) ∧ (Go.bits .and .i64 (M : Int) (bothM e) = 0 ↔ ¬ (mt M e.f0 || mt M e.f1) = true) ∧ bE E (mt M') = bE E (fun x=>mt M x || (x == e.f0 || x == e.f1)):=by
 obtain ⟨h0,h1,_⟩:=h e (List.mem_cons_self ..)
 have l0 : e.f0.toNat < 9:=by omega
 have l1 : e.f1.toNat < 9:=by omega
 have hB : (2 ^ e.f0.toNat ||| 2 ^ e.f1.toNat) < 2 ^ 9:=Nat.or_lt_two_pow (m_lt _ l0) (m_lt _ l1)
 have hb:=bits_nat .i64 9 (by decide) m_hk M (2 ^ e.f0.toNat ||| 2 ^ e.f1.toNat) hM hB
 refine ⟨M ||| (2 ^ e.f0.toNat ||| 2 ^ e.f1.toNat),Nat.or_lt_two_pow hM hB,?_,?_,?_⟩
 ·rw [both_nat e l0 l1];exact hb.2
 ·rw [both_nat e l0 l1,hb.1,Int.natCast_eq_zero];exact m_and0 M _ _
 ·refine bE_congr E _ _ (fun x hx=>?_)
  obtain ⟨g0,g1,_⟩:=h x (List.mem_cons_of_mem _ hx)
  exact ⟨mt_or M h0.1 h1.1 g0.1,mt_or M h0.1 h1.1 g1.1⟩
theorem smallE_tl {e : S36} {E : List S36} (h : smallE (e :: E)) : smallE E:=fun x hx=>h x (List.mem_cons_of_mem _ hx)
theorem evG_count : ∀ (E : List S36),smallE E → ∀ (M : Nat),M < 2 ^ 9 → ∀ (s : Int × Int × Int) (x : Int),0 ≤ x → x + (bE E (mt M)).2 < 4611686018427387904 → evG (fun _ x=>wrap64 (x + 1)) E (M : Int) s x = x + (bE E (mt M)).2
 | [],_,M,hM,s,x,h0,h1=>by
  have h1 : x + 1 < 4611686018427387904:=h1
  show wrap64 (x + 1) = x + 1
  exact wid (by omega) (by omega)
 | e :: E,hE,M,hM,s,x,h0,h1=>by
  obtain ⟨M',hM',e1,e2,e3⟩:=m_step hE hM
  unfold evG bE
  unfold bE at h1
  rw [e1]
  by_cases c : (mt M e.f0 || mt M e.f1) = true
  ·rw [if_neg (fun h=>(e2.1 h) c),if_pos c]
   rw [if_pos c] at h1
   exact evG_count E (smallE_tl hE) M hM s x h0 h1
  ·rw [if_pos (e2.2 c),if_neg c]
   rw [if_neg c,← e3] at h1
   rw [← e3]
   have h1 : x + ((bE E (mt M)).2 + (bE E (mt M')).2) < 4611686018427387904:=h1
   have p1:=bE_pos E (mt M)
   have p2:=bE_pos E (mt M')
   rw [evG_count E (smallE_tl hE) M hM s x h0 (by omega),evG_count E (smallE_tl hE) M' hM' _ _ (by omega) (by omega)]
   show x + (bE E (mt M)).2 + (bE E (mt M')).2 = x + ((bE E (mt M)).2 + (bE E (mt M')).2)
   omega
theorem small_gok {n : Int} {E : List S36} (hg : gok n E = true) : smallE E:=fun e he=>by
 have:=gok_all hg e he
 have:=gok_n hg
 omega

/-! The reference's way through the vertices -/
def okV (b c : Int) (x : V3) : Prop:=(0 ≤ x.1.1 ∧ x.1.1 ≤ b) ∧ (0 ≤ x.1.2.1 ∧ x.1.2.1 ≤ b) ∧ (0 ≤ x.1.2.2 ∧ x.1.2.2 ≤ b) ∧ 0 ≤ x.2 ∧ x.2 ≤ c
theorem okV.le {b c b' c' : Int} {x : V3} (h : okV b c x) (hb : b ≤ b') (hc : c ≤ c') : okV b' c' x:=by unfold okV at *;omega
theorem jn_ok {b c c' : Int} {x y : V3} (hx : okV b c x) (hy : okV b c' y) : okV b (c + c') (jn x y):=by
 unfold jn mx3
 by_cases h : lt3 x.1 y.1
 ·rw [if_pos h];unfold okV at *;simp only;omega
 ·rw [if_neg h];unfold okV at *;simp only;omega
theorem sh_ok {n : Int} {E : List S36} (hg : gok n E = true) {v i : Int} (h : 0 ≤ atE v i 0 E) {b c : Int} {y : V3} (hy : okV b c y) : okV (b + 50) c (sh (w3 (rd_T36 E (atE v i 0 E))) y):=by
 have:=gok_all hg _ (atE_get h).1
 unfold sh w3 ad3
 unfold okV at *
 simp only
 omega
def F : Nat → Int
 | 0=>1
 | d + 1=>F d + (d : Int) * F d
theorem F_pos : ∀ d,0 ≤ F d
 | 0=>by show (0 : Int) ≤ 1;omega
 | d + 1=>by
  have h:=F_pos d
  have h2:=Int.mul_nonneg (Int.natCast_nonneg d) h
  show 0 ≤ F d + (d : Int) * F d
  omega
theorem F_le : ∀ d : Nat,d ≤ 9 → F d ≤ 362880 ∧ F d + (d : Int) * F d ≤ 3628800:=by decide
theorem sB_ok {n : Int} {E : List S36} (hg : gok n E = true) (u : List Int) (v : Int) (f : List Int → V3) {b c : Int} (hf : ∀ u,okV b c (f u)) : ∀ (m : Nat) (i : Int) (acc : V3) (c0 : Int),okV (b + 50) c0 acc → okV (b + 50) (c0 + (m : Int) * c) (sB E u v f m i acc)
 | 0,i,acc,c0,h=>by
  show okV (b + 50) (c0 + ((0 : Nat) : Int) * c) acc
  rw [show ((0 : Nat) : Int) = 0 from rfl,Int.zero_mul,Int.add_zero];exact h
 | m + 1,i,acc,c0,h=>by
  have hc : 0 ≤ c:=by have:=hf [];unfold okV at this;omega
  have e : c0 + ((m + 1 : Nat) : Int) * c = c0 + c + (m : Int) * c:=by
   rw [Int.natCast_add,Int.add_mul,show ((1 : Nat) : Int) = 1 from rfl,Int.one_mul];omega
  have up:=(sB_ok hg u v f hf m (i + 1) acc c0 h).le (Int.le_refl _) (show c0 + (m : Int) * c ≤ c0 + c + (m : Int) * c by omega)
  rw [e]
  unfold sB
  by_cases h0 : atE v i 0 E < 0
  ·rw [if_pos h0];exact up
  ·rw [if_neg h0]
   by_cases h1 : inL u i = true
   ·rw [if_pos h1];exact up
   ·rw [if_neg h1]
    exact sB_ok hg u v f hf m (i + 1) _ (c0 + c) (jn_ok h (sh_ok hg (by omega) (hf _)))
theorem sV_ok {n : Int} {E : List S36} (hg : gok n E = true) : ∀ (d : Nat) (v : Int) (u : List Int),okV (50 * (d : Int)) (F d) (sV E d v u)
 | 0,v,u=>by unfold okV sV F;simp
 | d + 1,v,u=>by
  have ih:=fun u=>sV_ok hg d (v + 1) u
  have hF:=Int.mul_nonneg (Int.natCast_nonneg d) (F_pos d)
  have e : 50 * ((d + 1 : Nat) : Int) = 50 * (d : Int) + 50:=by omega
  rw [e]
  unfold sV
  by_cases h : inL u v = true
  ·rw [if_pos h]
   exact (ih u).le (by omega) (show F d ≤ F d + (d : Int) * F d by omega)
  ·rw [if_neg h]
   exact sB_ok hg u v _ ih d (v + 1) _ (F d) ((ih u).le (by omega) (Int.le_refl _))
def fl (x : V3) : Int × Int × Int × Int:=(x.1.1,x.1.2.1,x.1.2.2,x.2)
theorem s_better (a0 a1 a2 b0 b1 b2 : Int) : spec_Better.f a0 a1 a2 b0 b1 b2 = some (decide (lt3 (b0,b1,b2) (a0,a1,a2))):=by
 unfold spec_Better.f
 by_cases h0 : a0 = b0
 ·rw [if_pos h0]
  by_cases h1 : a1 = b1
  ·rw [if_pos h1];congr 1;exact decide_eq_decide.2 (by unfold lt3;simp only;omega)
  ·rw [if_neg h1];congr 1;exact decide_eq_decide.2 (by unfold lt3;simp only;omega)
 ·rw [if_neg h0];congr 1;exact decide_eq_decide.2 (by unfold lt3;simp only;omega)
theorem atE_lt3 {a b : Int} {l : List S36} (h : 0 ≤ atE a b 0 l) : atE a b 0 l < (l.length : Int):=by
 obtain ⟨h1,_,_⟩:=atE_some a b l 0 h
 omega
theorem sBest_l1 {n : Int} {E : List S36} (hg : gok n E = true) (hE : E.length ≤ 1048576) (d : Nat) (hd9 : d ≤ 9) (v : Int) (u : List Int) (hv : 0 ≤ v) (hu : u.length ≤ 1000) (IH : ∀ u' : List Int,u'.length ≤ u.length + 1 → Ev (fun k=>spec_l09Best.f k n E (v + 1) u') (fl (sV E d (v + 1) u'))) : ∀ (m : Nat) (b : Int) (acc : V3) (c0 : Int),b + m = n → v < b → okV (50 * (d : Int) + 50) c0 acc → c0 + (m : Int) * F d ≤ 10000000 → Ev (fun k=>spec_l09Best.l1 k v u acc.2 b n E acc.1.1 acc.1.2.1 acc.1.2.2) (fl (sB E u v (sV E d (v + 1)) m b acc))
 | 0,b,acc,c0,hm,hb,ha,hc=>by
  refine (Ev.now _).to fun k=>?_
  simp only [spec_l09Best.l1]
  rw [if_neg (by omega)]
  rfl
 | m + 1,b,acc,c0,hm,hb,ha,hc=>by
  have hn:=gok_n hg
  have e : c0 + ((m + 1 : Nat) : Int) * F d = c0 + F d + (m : Int) * F d:=by
   rw [Int.natCast_add,Int.add_mul,show ((1 : Nat) : Int) = 1 from rfl,Int.one_mul];omega
  rw [e] at hc
  have hF:=F_pos d
  have hmF:=Int.mul_nonneg (Int.natCast_nonneg m) hF
  have w1 : qn (wrap64 (b + 1) = b + 1):=⟨wid (by omega) (by omega)⟩
  have w2 : qn (wrap64 (v + 1) = v + 1):=⟨wid (by omega) (by omega)⟩
  have hbn : b < n:=by omega
  have ih:=fun acc' c0'=>sBest_l1 hg hE d hd9 v u hv hu IH m (b + 1) acc' c0' (by omega) (by omega)
  refine Ev.to (f:=fun k=>(spec_l08At.f k n E v b).bind fun t159=>(if t159 < 0 then (spec_l09Best.j3 k v u acc.2 b t159 true n E acc.1.1 acc.1.2.1 acc.1.2.2) else ((spec_l03In.f k u b).bind fun t160=>(spec_l09Best.j3 k v u acc.2 b t159 t160 n E acc.1.1 acc.1.2.1 acc.1.2.2)))) ?_ (fun k=>by simp only [spec_l09Best.l1];rw [if_pos hbn])
  refine (sAt n v b E hE).bind ?_
  unfold sB
  have skip : ∀ t,Ev (fun k=>spec_l09Best.j3 k v u acc.2 b t true n E acc.1.1 acc.1.2.1 acc.1.2.2) (fl (sB E u v (sV E d (v + 1)) m (b + 1) acc)):=fun t =>
   (ih acc c0 ha (by omega)).to fun k=>by simp only [spec_l09Best.j3];rw [if_pos trivial,w1.out]
  by_cases h0 : atE v b 0 E < 0
  ·rw [if_pos h0]
   exact Ev.ifp h0 (skip _)
  ·rw [if_neg h0]
   refine Ev.ifn h0 ((sl03In u b (by omega)).bind ?_)
   by_cases h1 : inL u b = true
   ·rw [if_pos h1,h1];exact skip _
   ·rw [if_neg h1,Bool.eq_false_iff.mpr h1]
    have hat : 0 ≤ atE v b 0 E:=by omega
    have hlt:=atE_lt3 hat
    have hX:=sV_ok hg d (v + 1) (u ++ [b])
    have hXs:=sh_ok hg hat hX
    have hJ:=jn_ok ha hXs
    have hA:=IH (u ++ [b]) (by simp)
    have hw:=gok_all hg _ (atE_get hat).1
    have hl1 : ([] : List Int).length + u.length < 17592186044416:=by show 0 + u.length < _;omega
    have hl2 : u.length + [b].length < 17592186044416:=by show u.length + 1 < _;omega
    have hF9:=F_le d hd9
    generalize sV E d (v + 1) (u ++ [b]) = X at *
    generalize atE v b 0 E = t at *
    generalize hz : rd_T36 E t = z at *
    refine Ev.to (f:=fun k=>(spec_l09Best.f k n E (v + 1) (u ++ [b])).bind fun bt173=>(if 0 ≤ t then (if t < (E.length : Int) then ((spec_Better.f (wrap64 (bt173.1 + (z.f2))) (wrap64 (bt173.2.1 + (z.f3))) (wrap64 (bt173.2.2.1 + (z.f4))) acc.1.1 acc.1.2.1 acc.1.2.2).bind fun t180=>(if t180 = true then (spec_l09Best.l1 k v u (wrap64 (acc.2 + bt173.2.2.2)) (b + 1) n E (wrap64 (bt173.1 + (z.f2))) (wrap64 (bt173.2.1 + (z.f3))) (wrap64 (bt173.2.2.1 + (z.f4)))) else (spec_l09Best.l1 k v u (wrap64 (acc.2 + bt173.2.2.2)) (b + 1) n E acc.1.1 acc.1.2.1 acc.1.2.2))) else (none)) else (none))) ?_ (fun k=>by
     simp only [spec_l09Best.j3]
     rw [if_neg (by decide)]
     simp only [Option.bind_some,List.nil_append]
     rw [if_pos hl1,if_pos hl2,w2.out,w1.out,hz])
    refine hA.bind (Ev.ifp hat (Ev.ifp hlt ?_))
    refine (ih (jn acc (sh (w3 z) X)) (c0 + F d) hJ (by omega)).cg (fun k=>?_)
    unfold okV at hX ha
    have e1 : wrap64 (X.1.1 + z.f2) = z.f2 + X.1.1:=by rw [wid (by omega) (by omega)];omega
    have e2 : wrap64 (X.1.2.1 + z.f3) = z.f3 + X.1.2.1:=by rw [wid (by omega) (by omega)];omega
    have e3 : wrap64 (X.1.2.2 + z.f4) = z.f4 + X.1.2.2:=by rw [wid (by omega) (by omega)];omega
    have e4 : wrap64 (acc.2 + X.2) = acc.2 + X.2:=wid (by omega) (by omega)
    unfold fl
    simp only
    rw [e1,e2,e3,e4,s_better,Option.bind_some]
    unfold jn sh mx3
    by_cases hl : lt3 acc.1 (ad3 (w3 z) X.1)
    ·rw [if_pos hl]
     exact (if_pos (decide_eq_true hl)).trans rfl
    ·rw [if_neg hl]
     exact (if_neg (fun h'=>hl (of_decide_eq_true h'))).trans rfl
theorem sBest {n : Int} {E : List S36} (hg : gok n E = true) (hE : E.length ≤ 1048576) : ∀ (d : Nat) (v : Int) (u : List Int),v + d = n → 0 ≤ v → u.length + d ≤ 1000 → Ev (fun k=>spec_l09Best.f k n E v u) (fl (sV E d v u))
 | 0,v,u,hd,hv,hu=>by
  have st : Ev (fun k=>spec_l09Best.j1 k v u n E) (fl (sV E 0 v u)):=by
   refine (Ev.now _).to fun k=>?_
   simp only [spec_l09Best.j1]
   rw [if_pos (by omega)]
   rfl
  refine Ev.to (f:=fun k=>spec_l09Best.l0 k v u n E) ?_ (fun k=>by simp only [spec_l09Best.f])
  exact st.to fun k=>by simp only [spec_l09Best.l0];rw [if_neg (by omega)]
 | d + 1,v,u,hd,hv,hu=>by
  have hn:=gok_n hg
  have w2 : qn (wrap64 (v + 1) = v + 1):=⟨wid (by omega) (by omega)⟩
  have ih:=fun u' h=>sBest hg hE d (v + 1) u' (by omega) (by omega) h
  have hvn : v < n:=by omega
  refine Ev.to (f:=fun k=>spec_l09Best.l0 k v u n E) ?_ (fun k=>by simp only [spec_l09Best.f])
  refine Ev.to (f:=fun k=>(spec_l03In.f k u v).bind fun t153=>(if t153 = true then (spec_l09Best.l0 k (v + 1) u n E) else (spec_l09Best.j1 k v u n E))) ?_ (fun k=>by simp only [spec_l09Best.l0];rw [if_pos hvn,w2.out])
  refine (sl03In u v (by omega)).bind ?_
  unfold sV
  by_cases h : inL u v = true
  ·rw [if_pos h,h]
   refine Ev.ifp rfl ?_
   obtain ⟨k0,hk0⟩:=ih u (by omega)
   exact ⟨k0,fun k hk=>by have:=hk0 (k + 1) (by omega);simp only [spec_l09Best.f] at this;exact this⟩
  ·rw [if_neg h,Bool.eq_false_iff.mpr h]
   refine Ev.ifn (by decide) ?_
   refine Ev.to (f:=fun k=>(spec_l09Best.f k n E (v + 1) u).bind fun bt154=>(spec_l09Best.l1 k v u bt154.2.2.2 (v + 1) n E bt154.1 bt154.2.1 bt154.2.2.1)) ?_ (fun k=>by simp only [spec_l09Best.j1];rw [if_neg (by omega),w2.out])
   refine (ih u (by omega)).bind ?_
   have hF:=F_le d (by omega)
   have hF0:=F_pos d
   exact sBest_l1 hg hE d (by omega) v u hv (by omega) (fun u' hu'=>ih u' (by omega)) d (v + 1) (sV E d (v + 1) u) (F d) (by omega) (by omega) ((sV_ok hg d (v + 1) u).le (by omega) (Int.le_refl _)) (by omega)

/-! The best of all pairings -/
theorem better3_lt (s x : Int × Int × Int) : better3 s x = decide (lt3 x s):=by
 obtain ⟨s0,s1,s2⟩:=s
 obtain ⟨x0,x1,x2⟩:=x
 unfold better3
 simp only
 by_cases h0 : s0 = x0
 ·rw [if_pos h0]
  by_cases h1 : s1 = x1
  ·rw [if_pos h1];exact decide_eq_decide.2 (by unfold lt3;simp only;omega)
  ·rw [if_neg h1];exact decide_eq_decide.2 (by unfold lt3;simp only;omega)
 ·rw [if_neg h0];exact decide_eq_decide.2 (by unfold lt3;simp only;omega)
theorem bstep_mx3 (s x : Int × Int × Int) : bstep s x = mx3 x s:=by
 unfold bstep mx3
 by_cases h : lt3 x s
 ·rw [if_pos h,if_pos (by rw [better3_lt];exact decide_eq_true h)]
 ·rw [if_neg h,if_neg (by rw [better3_lt];exact fun h'=>h (of_decide_eq_true h'))]
def sBnd (s : Int × Int × Int) (b : Int) : Prop:=(0 ≤ s.1 ∧ s.1 ≤ b) ∧ (0 ≤ s.2.1 ∧ s.2.1 ≤ b) ∧ (0 ≤ s.2.2 ∧ s.2.2 ≤ b)
theorem evG_best : ∀ (E : List S36),smallE E → ∀ (M : Nat),M < 2 ^ 9 → ∀ (s x : Int × Int × Int) (b : Int),sBnd s b → b + 50 * (E.length : Int) < 4611686018427387904 → evG bstep E (M : Int) s x = mx3 x (ad3 s (bE E (mt M)).1)
 | [],_,M,hM,s,x,b,h0,h1=>by
  show bstep s x = mx3 x (ad3 s (0,0,0))
  rw [bstep_mx3,ad3_zero]
 | e :: E,hE,M,hM,s,x,b,h0,h1=>by
  obtain ⟨M',hM',e1,e2,e3⟩:=m_step hE hM
  obtain ⟨_,_,g2,g3,g4⟩:=hE e (List.mem_cons_self ..)
  rw [List.length_cons] at h1
  unfold evG bE
  rw [e1]
  by_cases c : (mt M e.f0 || mt M e.f1) = true
  ·rw [if_neg (fun h=>(e2.1 h) c),if_pos c]
   exact evG_best E (smallE_tl hE) M hM s x b h0 (by omega)
  ·rw [if_pos (e2.2 c),if_neg c,← e3]
   have hp : plus3 s e = ad3 s (w3 e):=by
    unfold sBnd at h0
    unfold plus3 ad3 w3
    rw [wid (by omega) (by omega),wid (by omega) (by omega),wid (by omega) (by omega)]
   have hb : sBnd (ad3 s (w3 e)) (b + 50):=by
    unfold sBnd at h0 ⊢
    unfold ad3 w3
    simp only
    omega
   rw [evG_best E (smallE_tl hE) M hM s x b h0 (by omega),hp,evG_best E (smallE_tl hE) M' hM' _ _ (b + 50) hb (by omega)]
   show mx3 (mx3 x (ad3 s (bE E (mt M)).1)) (ad3 (ad3 s (w3 e)) (bE E (mt M')).1) = mx3 x (ad3 s (mx3 (bE E (mt M)).1 (ad3 (w3 e) (bE E (mt M')).1)))
   rw [ad3_mx3,mx3_assoc,ad3_assoc]
theorem mx3_zero {S : Int × Int × Int} (h0 : 0 ≤ S.1) (h1 : 0 ≤ S.2.1) (h2 : 0 ≤ S.2.2) : mx3 (0,0,0) S = S:=by
 unfold mx3
 by_cases h : lt3 (0,0,0) S
 ·rw [if_pos h]
 ·rw [if_neg h]
  obtain ⟨a,b,c⟩:=S
  unfold lt3 at h
  simp only at h h0 h1 h2
  rw [show a = 0 by omega,show b = 0 by omega,show c = 0 by omega]
theorem ad3_zl (S : Int × Int × Int) : ad3 (0,0,0) S = S:=by unfold ad3;simp

theorem sBestT {n : Int} {E : List S36} (hE : E.length ≤ 1048576) (h : gok n E = true) : Ev (fun k=>spec_BestSums.f k n E) ((sV E n.toNat 0 []).1.1,(sV E n.toNat 0 []).1.2.1,(sV E n.toNat 0 []).1.2.2,true):=by
 have hn:=gok_n h
 unfold spec_BestSums.f
 exact (sGraphOkT hE h).bind (Ev.ifp rfl ((sBest h hE n.toNat 0 [] (by omega) (by omega) (by show 0 + n.toNat ≤ 1000;omega)).bind (Ev.now _)))
theorem sCountT {n : Int} {E : List S36} (hE : E.length ≤ 1048576) (h : gok n E = true) : Ev (fun k=>spec_CountMatches.f k n E) (sV E n.toNat 0 []).2:=by
 have hn:=gok_n h
 unfold spec_CountMatches.f
 exact (sGraphOkT hE h).bind (Ev.ifp rfl ((sBest h hE n.toNat 0 [] (by omega) (by omega) (by show 0 + n.toNat ≤ 1000;omega)).bind (Ev.now _)))
theorem nnE {n : Int} {E : List S36} (h : gok n E = true) : edgesNN E = true:=by
 unfold edgesNN
 rw [List.all_eq_true]
 intro e he
 have:=gok_all h e he
 rw [Bool.and_eq_true,decide_eq_true_eq,decide_eq_true_eq]
 omega
theorem iCountT {n : Int} {E : List S36} (hE : E.length ≤ 1048576) (h : gok n E = true) : Ev (fun k=>impl_CountMatches.f k n E) (sV E n.toNat 0 []).2:=by
 have hn:=gok_n h
 unfold impl_CountMatches.f
 refine (iGraphOkT hE h).bind (Ev.ifp rfl (Ev.ifp (nnE h) (Ev.ifp (by omega) ?_)))
 have hb:=sV_ok h n.toNat 0 []
 have hF:=F_le n.toNat (by omega)
 unfold okV at hb
 have e:=evG_count E (small_gok h) 0 (by decide) (0,0,0) 0 (by omega) (by rw [mt_zero,pairs_all h];omega)
 rw [mt_zero,pairs_all h,Int.zero_add] at e
 rw [show ((0 : Nat) : Int) = 0 from rfl] at e
 rw [e]
 exact Ev.now _
theorem iBestT {n : Int} {E : List S36} (hE : E.length ≤ 1048576) (h : gok n E = true) : Ev (fun k=>impl_BestSums.f k n E) ((sV E n.toNat 0 []).1.1,(sV E n.toNat 0 []).1.2.1,(sV E n.toNat 0 []).1.2.2,true):=by
 have hn:=gok_n h
 unfold impl_BestSums.f
 refine (iGraphOkT hE h).bind (Ev.ifp rfl (Ev.ifp (nnE h) (Ev.ifp (by omega) ?_)))
 have hb:=sV_ok h n.toNat 0 []
 unfold okV at hb
 have e:=evG_best E (small_gok h) 0 (by decide) (0,0,0) (0,0,0) 0 (by unfold sBnd;simp) (by omega)
 rw [mt_zero,pairs_all h,ad3_zl,mx3_zero hb.1.1 hb.2.1.1 hb.2.2.1.1] at e
 rw [show ((0 : Nat) : Int) = 0 from rfl] at e
 rw [e]
 exact Ev.now _

theorem iAt_go (a b : Int) (l : List S36) (hl : l.length ≤ 1048576) : ∀ (d i : Nat),i + d = l.length → Ev (fun k=>impl_edgeAt.l0 k a b l (l.length : Int) (i : Int)) (atE a b i (l.drop i))
 | 0,i,hi=>by
  rw [List.drop_of_length_le (by omega)]
  exact (Ev.now _).to fun k=>by simp only [impl_edgeAt.l0];rw [if_neg (by omega)];rfl
 | d + 1,i,hi=>by
  have hlt : i < l.length:=by omega
  have ih:=iAt_go a b l hl d (i + 1) (by omega)
  rw [List.drop_eq_getElem_cons hlt]
  have w2 : qn (wrap64 ((i : Int) + 1) = ((i + 1 : Nat) : Int)):=⟨by rw [wid (by omega) (by omega)];rfl⟩
  unfold atE
  by_cases hc : isE a b l[i]
  ·rw [if_pos hc]
   refine (Ev.now _).to fun k=>?_
   simp only [impl_edgeAt.l0]
   rw [if_pos (by omega),if_pos (by omega),if_pos (by omega),ri_Edge hlt]
   unfold isE at hc
   repeat' split
   all_goals first|rfl|omega
  ·rw [if_neg hc]
   refine ih.to fun k=>?_
   simp only [impl_edgeAt.l0]
   rw [if_pos (by omega),if_pos (by omega),if_pos (by omega),ri_Edge hlt,w2.out]
   unfold isE at hc
   repeat' split
   all_goals first|rfl|omega
theorem iAt (n a b : Int) (l : List S36) (hl : l.length ≤ 1048576) : Ev (fun k=>impl_edgeAt.f k n l a b) (atE a b 0 l):=by
 unfold impl_edgeAt.f
 exact iAt_go a b l hl l.length 0 (by omega)

theorem iSums_go (n : Int) (E : List S36) (hE : E.length ≤ 1048576) (l : List S130) (hl : l.length ≤ 1048576) (hA : ∀ c ∈ l,0 ≤ atE c.f0 c.f1 0 E) : ∀ (d i : Nat) (a b e : Int),i + d = l.length → Ev (fun k=>impl_SumsOf.l0 k l (l.length : Int) (i : Int) n E a b e) ((sumsG E (l.drop i) a b e).1,(sumsG E (l.drop i) a b e).2.1,(sumsG E (l.drop i) a b e).2.2,true)
 | 0,i,a,b,e,hi=>by
  rw [List.drop_of_length_le (by omega)]
  refine (Ev.now _).to fun k=>?_
  simp only [impl_SumsOf.l0]
  rw [if_neg (by omega)]
  rfl
 | d + 1,i,a,b,e,hi=>by
  have hlt : i < l.length:=by omega
  have h0:=hA l[i] (List.getElem_mem hlt)
  have h1:=atE_lt h0
  have w2 : wrap64 ((i : Int) + 1) = ((i + 1 : Nat) : Int):=by rw [wid (by omega) (by omega)];rfl
  have ih:=iSums_go n E hE l hl hA d (i + 1) (wrap64 (a + (rd_T36 E (atE l[i].f0 l[i].f1 0 E)).f2)) (wrap64 (b + (rd_T36 E (atE l[i].f0 l[i].f1 0 E)).f3)) (wrap64 (e + (rd_T36 E (atE l[i].f0 l[i].f1 0 E)).f4)) (by omega)
  rw [List.drop_eq_getElem_cons hlt,sumsG]
  refine Ev.to ((iAt n l[i].f0 l[i].f1 E hE).bind (f:=fun k t=>if 0 ≤ t then (if t < (E.length : Int) then impl_SumsOf.l0 k l (l.length : Int) ((i + 1 : Nat) : Int) n E (wrap64 (a + (rd_T36 E t).f2)) (wrap64 (b + (rd_T36 E t).f3)) (wrap64 (e + (rd_T36 E t).f4)) else none) else none) (Ev.ifp h0 (Ev.ifp h1 ih))) fun k=>?_
  simp only [impl_SumsOf.l0,impl_Sums_plus.f,Option.bind_some,w2]
  clear w2 ih
  rw [if_pos (by omega),if_pos (by omega),if_pos (by omega),ri_Couple hlt]

theorem ihasInt_go (l : List Int) (x : Int) (hl : l.length ≤ 100000000) : ∀ (d i : Nat),i + d = l.length → Ev (fun k=>impl_hasInt.l0 k x l (l.length : Int) (i : Int)) (inL (l.drop i) x)
 | 0,i,hi=>by
  rw [List.drop_of_length_le (by omega)]
  exact (Ev.now _).to fun k=>by simp only [impl_hasInt.l0];rw [if_neg (by omega)];rfl
 | d + 1,i,hi=>by
  have hlt : i < l.length:=by omega
  have w2 : qn (wrap64 ((i : Int) + 1) = ((i + 1 : Nat) : Int)):=⟨by rw [wid (by omega) (by omega)];rfl⟩
  rw [List.drop_eq_getElem_cons hlt,inL_cons]
  by_cases h : l[i] = x
  ·rw [if_pos h]
   refine (Ev.now _).to fun k=>?_
   simp only [impl_hasInt.l0]
   rw [if_pos (by omega),if_pos (by omega),if_pos (by omega),rd_at hlt,if_pos h]
  ·rw [if_neg h]
   refine (ihasInt_go l x hl d (i + 1) (by omega)).to fun k=>?_
   simp only [impl_hasInt.l0]
   rw [if_pos (by omega),if_pos (by omega),if_pos (by omega),rd_at hlt,if_neg h,w2.out]
theorem ihasInt (l : List Int) (x : Int) (hl : l.length ≤ 100000000) : Ev (fun k=>impl_hasInt.f k l x) (inL l x):=by
 unfold impl_hasInt.f
 exact ihasInt_go l x hl l.length 0 (by omega)

/-! impl.MatchOk, its ways to false struck (straight.py) -/
theorem iM_tailT {a b : Int} {u : List Int} (hu : u.length ≤ 10000000) (hA : inL u a = false) (hB : inL u b = false) {L : Nat → List Int → Option Bool} (hL : Ev (fun k=>L k (u ++ [a,b])) true) :
  Ev (fun k=>(impl_hasInt.f k u a).bind fun t1=>if t1 = true then none else (impl_hasInt.f k u b).bind fun t2=>if t2 = true then none else (some ([a,b] : List Int)).bind fun y=>if u.length + y.length < 17592186044416 then L k (u ++ y) else none) true:=by
 refine (ihasInt u a (by omega)).bind ?_
 rw [hA]
 refine Ev.ifn (by decide) ((ihasInt u b (by omega)).bind ?_)
 rw [hB]
 refine Ev.ifn (by decide) ?_
 simp only [Option.bind_some]
 exact Ev.ifp (by simp;omega) hL
theorem iMatT_go (n : Int) (E : List S36) (hE : E.length ≤ 1048576) (l : List S130) (hl : l.length ≤ 1048576) : ∀ (d i : Nat) (u : List Int),i + d = l.length → u.length ≤ 2 * i → mFrom E u (prevC l i) (l.drop i) = true → Ev (fun k=>impl_MatchOk.l0 k l u l (l.length : Int) (i : Int) n E) true
 | 0,i,u,hi,hu,_=>by
  refine (Ev.now true).to fun k=>?_
  simp only [impl_MatchOk.l0]
  rw [if_neg (by omega)]
 | d + 1,i,u,hi,hu,h=>by
  have hlt : i < l.length:=by omega
  rw [List.drop_eq_getElem_cons hlt] at h
  simp only [mFrom,capOk,Bool.and_eq_true,decide_eq_true_eq,Bool.not_eq_true'] at h
  obtain ⟨⟨h1,h2⟩,⟨h3,h4,h5⟩,h6⟩:=h
  have ih:=iMatT_go n E hE l hl d (i + 1) (u ++ [l[i].f0,l[i].f1]) (by omega) (by simp;omega) (by rw [prevC_succ hlt];exact h6)
  have h3n : ¬ atE l[i].f0 l[i].f1 0 E < 0:=by omega
  have w2 : wrap64 ((i : Int) + 1) = ((i + 1 : Nat) : Int):=by rw [wid (by omega) (by omega)];rfl
  have tl:=iM_tailT (a:=l[i].f0) (b:=l[i].f1) (u:=u) (by omega) h4 h5 (L:=fun k z=>impl_MatchOk.l0 k l z l (l.length : Int) ((i + 1 : Nat) : Int) n E) ih
  clear ih h6 h4 h5
  rcases i with _|i
  ·have hr:=ri_Couple hlt
   generalize l[0] = c at *
   refine Ev.to ((iAt n c.f0 c.f1 E hE).bind (f:=fun k t=>if t < 0 then none else (impl_hasInt.f k u c.f0).bind fun t1=>if t1 = true then none else (impl_hasInt.f k u c.f1).bind fun t2=>if t2 = true then none else (some ([c.f0,c.f1] : List Int)).bind fun y=>if u.length + y.length < 17592186044416 then impl_MatchOk.l0 k l (u ++ y) l (l.length : Int) ((0 + 1 : Nat) : Int) n E else none) (Ev.ifn h3n tl)) fun k=>?_
   simp only [impl_MatchOk.l0,w2]
   clear w2
   rw [if_pos (by omega),if_pos (by omega),if_pos (by omega),hr,if_neg (by omega)]
   congr 1
  ·have hlt' : i < l.length:=by omega
   have w1 : wrap64 (((i + 1 : Nat) : Int) - 1) = (i : Int):=by rw [wid (by omega) (by omega)];omega
   rw [prevC_succ hlt'] at h2
   simp only [prevLt,decide_eq_true_eq] at h2
   refine Ev.to ((iAt n l[i + 1].f0 l[i + 1].f1 E hE).bind (f:=fun k t=>if t < 0 then none else (impl_hasInt.f k u l[i + 1].f0).bind fun t1=>if t1 = true then none else (impl_hasInt.f k u l[i + 1].f1).bind fun t2=>if t2 = true then none else (some ([l[i + 1].f0,l[i + 1].f1] : List Int)).bind fun y=>if u.length + y.length < 17592186044416 then impl_MatchOk.l0 k l (u ++ y) l (l.length : Int) ((i + 1 + 1 : Nat) : Int) n E else none) (Ev.ifn h3n tl)) fun k=>?_
   simp only [impl_MatchOk.l0,w1,w2]
   clear w1 w2
   rw [if_pos (by omega),if_pos (by omega),if_pos (by omega),ri_Couple hlt,if_neg (by omega)]
   congr 1
   funext t
   rw [if_pos (show ((i + 1 : Nat) : Int) > 0 by omega),if_pos (show (0 : Int) ≤ (i : Int) by omega),if_pos (show (i : Int) < (l.length : Int) by omega),ri_Couple hlt',if_neg (show ¬ l[i].f0 ≥ l[i + 1].f0 by omega)]
theorem iMatchT {n : Int} {E : List S36} {m : List S130} (hE : E.length ≤ 1048576) (hm : m.length ≤ 1048576) (h : mOk n E m = true) : Ev (fun k=>impl_MatchOk.f k n E m) true:=by
 have h':=h
 unfold mOk at h'
 rw [Bool.and_eq_true] at h'
 unfold impl_MatchOk.f
 refine (iGraphOkT hE h'.1).bind (Ev.ifp rfl (iMatT_go n E hE m hm m.length 0 [] (by omega) (by simp) h'.2))

theorem iSumsT {n : Int} {E : List S36} {m : List S130} (hE : E.length ≤ 1048576) (hm : m.length ≤ 1048576) (h : mOk n E m = true) : Ev (fun k=>impl_SumsOf.f k n E m) (sumsOf n E m):=by
 unfold impl_SumsOf.f sumsOf
 refine (iMatchT hE hm h).bind ?_
 rw [if_pos h]
 refine Ev.ifp rfl ?_
 have:=iSums_go n E hE m hm (mOk_at h) m.length 0 0 0 0 (by omega)
 rw [List.drop_zero] at this
 exact this

theorem i_bet (a0 a1 a2 b0 b1 b2 : Int) : impl_Better.f a0 a1 a2 b0 b1 b2 = some (decide (lt3 (b0,b1,b2) (a0,a1,a2))):=by
 unfold impl_Better.f
 by_cases h0 : a0 = b0
 ·rw [if_pos h0]
  by_cases h1 : a1 = b1
  ·rw [if_pos h1];congr 1;exact decide_eq_decide.2 (by unfold lt3;simp only;omega)
  ·rw [if_neg h1];congr 1;exact decide_eq_decide.2 (by unfold lt3;simp only;omega)
 ·rw [if_neg h0];congr 1;exact decide_eq_decide.2 (by unfold lt3;simp only;omega)
theorem sumE_ok {n : Int} {E : List S36} (hg : gok n E = true) : ∀ (F : List S36),(∀ e ∈ F,e ∈ E) → (0 ≤ (sumE F).1 ∧ (sumE F).1 ≤ 50 * F.length) ∧ (0 ≤ (sumE F).2.1 ∧ (sumE F).2.1 ≤ 50 * F.length) ∧ (0 ≤ (sumE F).2.2 ∧ (sumE F).2.2 ≤ 50 * F.length)
 | [],_=>by unfold sumE;simp
 | e :: F,h=>by
  have ih:=sumE_ok hg F (fun x hx=>h x (List.mem_cons_of_mem _ hx))
  have hw:=gok_all hg e (h e (List.mem_cons_self ..))
  unfold sumE ad3 w3
  rw [List.length_cons]
  simp only
  omega
def scal (s : Int × Int × Int) : Int:=90000 * s.1 + 300 * s.2.1 + s.2.2
theorem scal_ad3 (a b : Int × Int × Int) : scal (ad3 a b) = scal a + scal b:=by unfold scal ad3;simp only;omega
theorem s_scal (f0 f1 f2 f3 f4 : Int) (h2 : 0 ≤ f2 ∧ f2 ≤ 50) (h3 : 0 ≤ f3 ∧ f3 ≤ 50) (h4 : 0 ≤ f4 ∧ f4 ≤ 50) : spec_Scalar.f f0 f1 f2 f3 f4 = some (scal (f2,f3,f4)):=by
 unfold spec_Scalar.f scal
 congr 1
 unfold wrap64
 simp only
 omega
theorem sEdge3 (n a b : Int) (l : List S36) (hl : l.length ≤ 1048576) (h : gok n l = true) : Ev (fun k=>spec_EdgeAt.f k n l a b) (atE a b 0 l):=by
 unfold spec_EdgeAt.f
 exact (sGraphOkT hl h).bind (Ev.ifp rfl ((sAt n a b l hl).bind (Ev.now _)))
def accB (a : Int) (d : Nat) : Prop:=0 ≤ a ∧ a + 5000000 * (d : Int) ≤ 1000000000000
theorem accB.step {a x : Int} {d : Nat} (h : accB a (d + 1)) (h0 : 0 ≤ x ∧ x ≤ 5000000) : wrap64 (a + x) = a + x ∧ accB (a + x) d:=by
 unfold accB at *
 have w:=wid (n:=a + x) (by omega) (by omega)
 refine ⟨w,?_⟩
 clear w
 omega
theorem worth_go {n : Int} {E : List S36} (hg : gok n E = true) (hE : E.length ≤ 1048576) (m : List S130) (hm : m.length ≤ 100) (hA : ∀ c ∈ m,0 ≤ atE c.f0 c.f1 0 E) : ∀ (d i : Nat) (acc : Int),i + d = m.length → accB acc d → Ev (fun k=>laws_worth.l0 k m acc (i : Int) n E) (acc + scal (sumE ((m.drop i).map (cOf E))))
 | 0,i,acc,hi,_=>by
  rw [List.drop_of_length_le (by omega)]
  refine Ev.ofEq ((Ev.now acc).to fun k=>?_) (by show acc = acc + 0;omega)
  simp only [laws_worth.l0]
  rw [if_neg (by omega)]
 | d + 1,i,acc,hi,hac=>by
  have hlt : i < m.length:=by omega
  have h0:=hA m[i] (List.getElem_mem hlt)
  have h1:=atE_lt h0
  have hw:=gok_all hg _ (atE_get h0).1
  have es:=s_scal (cOf E m[i]).f0 (cOf E m[i]).f1 (cOf E m[i]).f2 (cOf E m[i]).f3 (cOf E m[i]).f4 hw.2.2.2.1 hw.2.2.2.2.1 hw.2.2.2.2.2
  have hs : 0 ≤ scal (w3 (cOf E m[i])) ∧ scal (w3 (cOf E m[i])) ≤ 5000000:=by
   have hw' : (0 ≤ (cOf E m[i]).f2 ∧ (cOf E m[i]).f2 ≤ 50) ∧ (0 ≤ (cOf E m[i]).f3 ∧ (cOf E m[i]).f3 ≤ 50) ∧ (0 ≤ (cOf E m[i]).f4 ∧ (cOf E m[i]).f4 ≤ 50):=hw.2.2.2
   unfold scal w3
   simp only
   omega
  obtain ⟨wa0,hac'⟩:=hac.step hs
  have ih:=worth_go hg hE m hm hA d (i + 1) (acc + scal (w3 (cOf E m[i]))) (by omega) hac'
  have w2 : qn (wrap64 ((i : Int) + 1) = ((i + 1 : Nat) : Int)):=⟨by rw [wid (by omega) (by omega)];rfl⟩
  have wa : qn (wrap64 (acc + scal (w3 (cOf E m[i]))) = acc + scal (w3 (cOf E m[i]))):=⟨wa0⟩
  rw [List.drop_eq_getElem_cons hlt,List.map_cons,sumE,scal_ad3]
  refine Ev.ofEq ?_ (Int.add_assoc _ _ _)
  refine Ev.to (f:=fun k=>(spec_EdgeAt.f k n E m[i].f0 m[i].f1).bind fun t=>if t ≥ 0 then (if 0 ≤ t then (if t < (E.length : Int) then ((spec_Scalar.f ((rd_T36 E t).f0) ((rd_T36 E t).f1) ((rd_T36 E t).f2) ((rd_T36 E t).f3) ((rd_T36 E t).f4)).bind fun s=>(laws_worth.l0 k m (wrap64 (acc + s)) ((i + 1 : Nat) : Int) n E)) else (none)) else (none)) else (laws_worth.l0 k m acc ((i + 1 : Nat) : Int) n E)) ?_ (fun k=>by simp only [laws_worth.l0];rw [if_pos (by omega),if_pos (by omega),ri_Couple hlt,w2.out])
  refine (sEdge3 n m[i].f0 m[i].f1 E hE hg).bind (Ev.ifp h0 (Ev.ifp h0 (Ev.ifp h1 ?_)))
  refine ih.cg (fun k=>?_)
  show (spec_Scalar.f (cOf E m[i]).f0 (cOf E m[i]).f1 (cOf E m[i]).f2 (cOf E m[i]).f3 (cOf E m[i]).f4).bind _ = _
  rw [es,Option.bind_some]
  show laws_worth.l0 k m (wrap64 (acc + scal (w3 (cOf E m[i])))) _ n E = _
  rw [wa.out]
theorem ne3 (a0 a1 a2 b0 b1 b2 : Int) (h : ¬ lt3 (b0,b1,b2) (a0,a1,a2)) : (decide (lt3 (a0,a1,a2) (b0,b1,b2)) == (!(b0 == a0) || (!(b1 == a1) || (!(b2 == a2))))) = true:=by
 rw [beq_iff_eq]
 have e : (!(b0 == a0) || (!(b1 == a1) || (!(b2 == a2)))) = decide (¬ (b0 = a0 ∧ b1 = a1 ∧ b2 = a2)):=by
  by_cases c0 : b0 = a0 <;> by_cases c1 : b1 = a1 <;> by_cases c2 : b2 = a2 <;> simp [c0,c1,c2]
 rw [e]
 refine decide_eq_decide.2 ?_
 unfold lt3 at *
 simp only at *
 omega
theorem FnBest : laws_FnBest.Pure:=by
 intro b _ hb _
 refine Ev.rounds (g:=fun k=>laws_FnBest.f k b) ?_
 unfold laws_FnBest.f laws_big.f
 simp only [Option.bind_some]
 by_cases hbig : (b.length : Int) > 1048576
 ·exact Ev.ifp (by simpa using hbig) (Ev.now _)
 refine Ev.ifn (by simpa using hbig) ?_
 obtain ⟨n,E,m,evD,hm,hE⟩:=dRM b (by omega)
 have hg : gok n E = true:=by unfold mOk at hm;rw [Bool.and_eq_true] at hm;exact hm.1
 have hml:=mOk_len hm
 have hat:=mOk_at hm
 have eS:=iSumsT (n:=n) (E:=E) (m:=m) (by omega) (by omega) hm
 have eB:=iBestT (n:=n) (E:=E) (by omega) hg
 have eR:=sBestT (n:=n) (E:=E) (by omega) hg
 have eM:=iMatchT (n:=n) (E:=E) (m:=m) (by omega) (by omega) hm
 have eC:=iCountT (n:=n) (E:=E) (by omega) hg
 have eD:=sCountT (n:=n) (E:=E) (by omega) hg
 have eW:=worth_go hg (by omega) m (by omega) hat m.length 0 0 (by omega) (by unfold accB;omega)
 obtain ⟨hle,hct⟩:=match_le hm
 have hSb:=sumE_ok hg (m.map (cOf E)) (fun e he=>by obtain ⟨c,hc,rfl⟩:=List.mem_map.1 he;exact (atE_get (hat c hc)).1)
 rw [List.length_map] at hSb
 have hsum : sumsOf n E m = ((sumE (m.map (cOf E))).1,(sumE (m.map (cOf E))).2.1,(sumE (m.map (cOf E))).2.2,true):=by
  unfold sumsOf
  rw [if_pos hm,sumsG_eq hg m hat 0 0 0 (by unfold lowB;omega) (by unfold lowB;omega) (by unfold lowB;omega),ad3_zl]
 rw [pairs_all hg] at hle hct
 rw [hsum] at eS
 rw [List.drop_zero,Int.zero_add] at eW
 generalize sumE (m.map (cOf E)) = S at *
 generalize sV E n.toNat 0 [] = V at *
 obtain ⟨s0,s1,s2⟩:=S
 obtain ⟨⟨b0,b1,b2⟩,q⟩:=V
 simp only at *
 refine evD.bind (eS.bind (eB.bind (eR.bind (Ev.ifp rfl (Ev.ifp rfl (Ev.ifn (by simp) ?_))))))
 refine Ev.cg (f:=fun k=>(impl_MatchOk.f k n E m).bind fun t419=>laws_FnBest.j0 k m (!t419) n E s0 s1 s2 b0 b1 b2) ?_ (fun k=>by rw [i_bet,decide_eq_false hle,Option.bind_some,if_neg (by decide)])
 refine eM.bind ?_
 have hW : wrap64 ((wrap64 ((wrap64 (90000 * s0)) + (wrap64 (300 * s1)))) + s2) = scal (s0,s1,s2):=by
  unfold scal wrap64
  simp only
  omega
 refine Ev.to (f:=fun k=>(laws_worth.f k n E m).bind fun t420=>(if scal (s0,s1,s2) = t420 then ((impl_Better.f b0 b1 b2 s0 s1 s2).bind fun t421=>(if (t421 == (!(b0 == s0) || (!(b1 == s1) || (!(b2 == s2))))) = true then ((impl_CountMatches.f k n E).bind fun t422=>((spec_CountMatches.f k n E).bind fun t423=>(if t422 = t423 then ((impl_CountMatches.f k n E).bind fun t424=>(some (decide (t424 > (m.length : Int))))) else (none)))) else (none))) else (none))) ?_ (fun k=>by simp only [laws_FnBest.j0];rw [if_neg (by decide),hW])
 have eW' : Ev (fun k=>laws_worth.f k n E m) (scal (s0,s1,s2)):=by unfold laws_worth.f;exact eW
 refine eW'.bind (Ev.ifp rfl ?_)
 refine Ev.cg (f:=fun k=>(impl_CountMatches.f k n E).bind fun t422=>((spec_CountMatches.f k n E).bind fun t423=>(if t422 = t423 then ((impl_CountMatches.f k n E).bind fun t424=>(some (decide (t424 > (m.length : Int))))) else (none)))) ?_ (fun k=>by rw [i_bet,Option.bind_some,if_pos (ne3 _ _ _ _ _ _ hle)])
 exact eC.bind (eD.bind (Ev.ifp rfl (eC.bind ((Ev.now _).ofEq (decide_eq_true (by omega))))))

end Go.Proofs.Ytfmemcffbfahhaa.Pure
