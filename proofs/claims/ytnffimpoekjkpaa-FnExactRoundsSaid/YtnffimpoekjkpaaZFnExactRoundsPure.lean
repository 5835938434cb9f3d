/- The program's Rounds and the reference's Rounds return the same number, for every graph, and leave it as it was. -/
import Derived.Test.YtnffimpoekjkpaaZFnExactRoundsx96
import Derived.Laws.BitsAllLaws
namespace Go.Proofs.Ytnffimpoekjkpaa.Pure
open Go.RowKit Go.Proofs.YtnffimpoekjkpaaW.PrintWords Go.Proofs.Ytnffimpoekjkpaa.QFnExactRounds
set_option linter.unusedVariables false
set_option linter.unusedSimpArgs false
set_option maxHeartbeats 4000000

theorem wid {n : Int} (h0 : -9223372036854775808 ≤ n) (h1 : n < 9223372036854775808) : wrap64 n = n:=by unfold wrap64;omega
theorem _root_.Go.Proofs.YtnffimpoekjkpaaW.PrintWords.Ev.ofEq {α : Type} {g : Nat → Option α} {r q : α} (h : Ev g r) (e : r = q) : Ev g q:=e ▸ h
theorem _root_.Go.Proofs.YtnffimpoekjkpaaW.PrintWords.Ev.same {α : Type} {o : Option α} {r : α} (h : o = some r) : Ev (fun _=>o) r:=⟨0,fun _ _=>h⟩
theorem _root_.Go.Proofs.YtnffimpoekjkpaaW.PrintWords.Ev.to {α : Type} {g f : Nat → Option α} {r : α} (k : Ev f r) (h : ∀ k,g (k + 1) = f k) : Ev g r:=Ev.step h k
theorem _root_.Go.Proofs.YtnffimpoekjkpaaW.PrintWords.Ev.cg {α : Type} {g f : Nat → Option α} {r : α} (k : Ev f r) (h : ∀ k,g k = f k) : Ev g r:=Ev.congr h k
theorem _root_.Go.Proofs.YtnffimpoekjkpaaW.PrintWords.Ev.ifp {α : Type} {c : Prop} [Decidable c] {g f : Nat → Option α} {r : α} (h : c) (e : Ev g r) : Ev (fun k=>if c then g k else f k) r:=by simp only [if_pos h];exact e
/-- The bytes of a string, as numbers. -/
def bl (s : ByteArray) : List Int:=s.data.toList.map fun b=>(b.toNat : Int)
def Byt (xs : List Int) : Prop:=∀ x ∈ xs,0 ≤ x ∧ x < 256
theorem Byt.nil : Byt []:=fun _ h=>by simp at h
theorem Byt.cons {x : Int} {xs : List Int} (h : 0 ≤ x ∧ x < 256) (h' : Byt xs) : Byt (x :: xs):=fun y hy=>by
 rcases List.mem_cons.1 hy with rfl|hy
 ·exact h
 exact h' y hy
theorem Byt.app {xs ys : List Int} (h : Byt xs) (h' : Byt ys) : Byt (xs ++ ys):=fun y hy=>by
 rcases List.mem_append.1 hy with hy|hy
 ·exact h y hy
 exact h' y hy
theorem Byt.left {xs ys : List Int} (h : Byt (xs ++ ys)) : Byt xs:=fun y hy=>h y (List.mem_append_left _ hy)
theorem Byt.right {xs ys : List Int} (h : Byt (xs ++ ys)) : Byt ys:=fun y hy=>h y (List.mem_append_right _ hy)
theorem Byt.head {x : Int} {xs : List Int} (h : Byt (x :: xs)) : 0 ≤ x ∧ x < 256:=h x (List.mem_cons_self ..)
theorem Byt.drop {xs : List Int} (h : Byt xs) (n : Nat) : Byt (xs.drop n):=fun y hy=>h y (List.mem_of_mem_drop hy)
theorem Byt.take {xs : List Int} (h : Byt xs) (n : Nat) : Byt (xs.take n):=fun y hy=>h y (List.mem_of_mem_take hy)
theorem Byt.one {x : Int} (h : 0 ≤ x ∧ x < 256) : Byt [x]:=Byt.nil.cons h
theorem set_take {α : Type} (xs : List α) {i : Nat} (v : α) (h : i < xs.length) : (xs.set i v).take (i + 1) = xs.take i ++ [v]:=by
 rw [List.take_succ_eq_append_getElem (by rw [List.length_set];exact h),List.getElem_set_self,List.take_set_of_le (Nat.le_refl _)]
theorem getD_at {α : Type} {xs : List α} {i : Nat} (z : α) (h : i < xs.length) : xs.getD ((i : Int)).toNat z = xs[i]:=by
 rw [Int.toNat_natCast,List.getD_eq_getElem?_getD,List.getElem?_eq_getElem h];rfl
theorem rl_Edge {xs : List S58} {i : Nat} (h : i < xs.length) : rd_T58 xs (i : Int) = xs[i]:=getD_at _ h
def cvEdge (x : S58) : S51:=⟨x.f0,x.f1,x.f2,x.f3,x.f4⟩
theorem toEdgeS_go (x0 : List S58) (hl : x0.length ≤ 1048576) : ∀ (d i : Nat) (x3 : List S51),i + d = x0.length → x3.length = x0.length → Ev (fun k=>laws_toEdgeS.l0 k x0 x3 (i : Int)) (x3.take i ++ (x0.drop i).map cvEdge)
 | 0,i,x3,hi,h3=>by
  rw [List.drop_of_length_le (by omega),List.take_of_length_le (by omega),List.map_nil,List.append_nil]
  refine (Ev.now _).to fun k=>?_
  simp only [laws_toEdgeS.l0]
  rw [if_neg (by omega)]
 | d + 1,i,x3,hi,h3=>by
  have hlt : i < x0.length:=by omega
  have ih:=toEdgeS_go x0 hl d (i + 1) (x3.set i (cvEdge x0[i])) (by omega) (by rw [List.length_set];omega)
  rw [set_take _ _ (by omega),List.append_assoc] at ih
  rw [List.drop_eq_getElem_cons hlt,List.map_cons]
  refine ih.to fun k=>?_
  simp only [laws_toEdgeS.l0]
  rw [if_pos (by omega),if_pos (by omega),rl_Edge hlt]
  simp only [laws_toEdge.f,Option.bind_some]
  rw [if_pos (by omega),wid (by omega) (by omega)]
  rfl
theorem toEdgeS (x0 : List S58) (hl : x0.length ≤ 1048576) : Ev (fun k=>laws_toEdgeS.f k x0) (x0.map cvEdge):=by
 unfold laws_toEdgeS.f
 refine Ev.ifp (by omega) (Ev.ifp (by rw [Int.toNat_natCast];omega) ?_)
 have:=toEdgeS_go x0 hl x0.length 0 (List.replicate ((x0.length : Int) : Int).toNat z51) (by omega) (by rw [List.length_replicate,Int.toNat_natCast])
 simpa using this
theorem ri_Edge {xs : List S51} {i : Nat} (h : i < xs.length) : rd_T51 xs (i : Int) = xs[i]:=getD_at _ h
theorem eqEdge_self (x : S51) : laws_eqEdge.f x.f0 x.f1 x.f2 x.f3 x.f4 x.f0 x.f1 x.f2 x.f3 x.f4 = some true:=by unfold laws_eqEdge.f;simp
theorem eqEdgeS_go (x0 : List S51) (hl : x0.length ≤ 100000000) : ∀ (d i : Nat),i + d = x0.length → Ev (fun k=>laws_eqEdgeS.l0 k x0 x0 (i : Int)) true
 | 0,i,hi=>(Ev.now _).to fun k=>by simp only [laws_eqEdgeS.l0];rw [if_neg (by omega)]
 | d + 1,i,hi=>by
  refine (eqEdgeS_go x0 hl d (i + 1) (by omega)).to fun k=>?_
  simp only [laws_eqEdgeS.l0]
  rw [if_pos (by omega),if_pos (by omega),if_pos (by omega),eqEdge_self]
  simp only [Option.bind_some,if_true]
  rw [wid (by omega) (by omega)]
  rfl
theorem eqEdgeS (x0 : List S51) (hl : x0.length ≤ 100000000) : Ev (fun k=>laws_eqEdgeS.f k x0 x0) true:=by
 unfold laws_eqEdgeS.f
 exact Ev.ifp rfl (eqEdgeS_go x0 hl x0.length 0 (by omega))
theorem szEdgeS (x0 : List S58) (hl : x0.length ≤ 9223372036854775807) (m : Int) (h0 : 0 ≤ m) (h1 : m ≤ 1048576) : ∃ r,laws_szEdgeS.f x0 m = some r ∧ (r < 0 ∨ (r ≤ m ∧ x0.length ≤ 1048576)):=by
 unfold laws_szEdgeS.f
 have w : wrap64 (m - (x0.length : Int)) = m - x0.length:=wid (by omega) (by omega)
 rw [w];clear w
 by_cases hn : m - (x0.length : Int) < 0
 ·exact ⟨-1,by rw [if_pos hn],.inl (by omega)⟩
 exact ⟨_,by rw [if_neg hn],.inr ⟨by omega,by omega⟩⟩
theorem szGraph (n : Int) (l : List S58) (hl : l.length ≤ 9223372036854775807) (m : Int) (h0 : 0 ≤ m) (h1 : m ≤ 1048576) : ∃ r,laws_szGraph.f n l m = some r ∧ (r < 0 ∨ (r ≤ m ∧ l.length ≤ 1048576)):=by
 unfold laws_szGraph.f
 obtain ⟨r,hr,hc⟩:=szEdgeS l hl m h0 h1
 rw [hr]
 simp only [Option.bind_some]
 by_cases h : r < 0
 ·exact ⟨-1,by rw [if_pos h],.inl (by omega)⟩
 exact ⟨r,by rw [if_neg h],hc⟩
theorem toGraph (n : Int) (l : List S58) (hl : l.length ≤ 1048576) : Ev (fun k=>laws_toGraph.f k n l) (n,l.map cvEdge):=by
 unfold laws_toGraph.f
 exact (toEdgeS l hl).bind (Ev.now _)
theorem eqGraph (n : Int) (l : List S51) (hl : l.length ≤ 100000000) : Ev (fun k=>laws_eqGraph.f k n l n l) true:=by
 unfold laws_eqGraph.f
 refine Ev.ifp rfl ((eqEdgeS l hl).bind ?_)
 simp only [if_true]
 exact Ev.now _
/-! Right graphs -/
def edgeOk (n : Int) (e : S51) : Bool:=decide (0 ≤ e.f0 ∧ e.f0 < e.f1 ∧ e.f1 < n ∧ (0 ≤ e.f2 ∧ e.f2 ≤ 50) ∧ (0 ≤ e.f3 ∧ e.f3 ≤ 50) ∧ (0 ≤ e.f4 ∧ e.f4 ≤ 50))
def edgeLt (p e : S51) : Bool:=decide (p.f0 < e.f0 ∨ p.f0 = e.f0 ∧ p.f1 < e.f1)
def edgesOk (n : Int) : Option S51 → List S51 → Bool
 | _,[]=>true
 | none,e :: l=>edgeOk n e && edgesOk n (some e) l
 | some p,e :: l=>edgeOk n e && (edgeLt p e && edgesOk n (some e) l)
def gok (n : Int) (l : List S51) : Bool:=decide (0 ≤ n ∧ n ≤ 9) && edgesOk n none l
def prevE (l : List S51) : Nat → Option S51
 | 0=>none
 | i + 1=>l[i]?
theorem prevE_succ {l : List S51} {i : Nat} (h : i < l.length) : prevE l (i + 1) = some l[i]:=List.getElem?_eq_getElem h
theorem i_in (a b c : Int) : impl_in.f a b c = some (decide (b ≤ a ∧ a ≤ c)):=by
 unfold impl_in.f
 by_cases h : a ≥ b
 ·rw [if_pos h];simp [show b ≤ a from h]
 rw [if_neg h];simp [show ¬ b ≤ a from h]
theorem i_in_t {a b c : Int} (h : b ≤ a ∧ a ≤ c) : impl_in.f a b c = some true:=by rw [i_in,decide_eq_true h]
theorem i_in_f {a b c : Int} (h : ¬ (b ≤ a ∧ a ≤ c)) : impl_in.f a b c = some false:=by rw [i_in,decide_eq_false h]
theorem iGO_go (n : Int) (hn : 0 ≤ n ∧ n ≤ 9) (l : List S51) (hl : l.length ≤ 1048576) : ∀ (d i : Nat),i + d = l.length → Ev (fun k=>impl_GraphOk.l0 k l (l.length : Int) (i : Int) n l) (edgesOk n (prevE l i) (l.drop i))
 | 0,i,hi=>by
  rw [List.drop_of_length_le (by omega)]
  refine Ev.ofEq ((Ev.now true).to fun k=>?_) (by cases prevE l i <;> rfl)
  simp only [impl_GraphOk.l0]
  rw [if_neg (by omega)]
 | d + 1,i,hi=>by
  have hlt : i < l.length:=by omega
  have ih:=iGO_go n hn l hl d (i + 1) (by omega)
  rw [List.drop_eq_getElem_cons hlt]
  have step : ∀ k,impl_GraphOk.l0 (k + 1) l (l.length : Int) (i : Int) n l = impl_GraphOk.j1 k (i : Int) l (l.length : Int) (i : Int) (!edgeOk n l[i]) n l l[i].f0 l[i].f1 l[i].f2 l[i].f3 l[i].f4:=by
   intro k
   have w : wrap64 (n - 1) = n - 1:=wid (by omega) (by omega)
   simp only [impl_GraphOk.l0,i_in,Option.bind_some,w]
   clear w
   rw [if_pos (by omega),if_pos (by omega),if_pos (by omega),ri_Edge hlt]
   generalize l[i] = e
   unfold edgeOk
   repeat' split
   all_goals first
    | (congr 1;symm;rw [Bool.not_eq_true',decide_eq_false_iff_not];(try simp only [decide_eq_true_eq] at *);omega)
    | (congr 2;rw [decide_eq_decide];(try simp only [decide_eq_true_eq] at *);omega)
  refine Ev.to ?_ step
  have w2 : qy (wrap64 ((i : Int) + 1) = ((i + 1 : Nat) : Int)):=⟨by rw [wid (by omega) (by omega)];rfl⟩
  cases hb : edgeOk n l[i] with
  | false =>
   have e : edgesOk n (prevE l i) (l[i] :: l.drop (i + 1)) = false:=by cases prevE l i <;> simp [edgesOk,hb]
   rw [e]
   exact (Ev.now _).to fun k=>by simp only [impl_GraphOk.j1];rw [if_pos (by decide)]
  | true =>
   rcases i with _|i
   ·have e : edgesOk n (prevE l 0) (l[0] :: l.drop (0 + 1)) = edgesOk n (prevE l (0 + 1)) (l.drop (0 + 1)):=by rw [prevE_succ hlt];simp [edgesOk,hb,prevE]
    rw [e]
    refine ih.to fun k=>?_
    simp only [impl_GraphOk.j1]
    rw [if_neg (by decide),if_neg (by decide),w2.out]
   have hlt' : i < l.length:=by omega
   have e : edgesOk n (prevE l (i + 1)) (l[i + 1] :: l.drop (i + 1 + 1)) = (edgeLt l[i] l[i + 1] && edgesOk n (prevE l (i + 1 + 1)) (l.drop (i + 1 + 1))):=by rw [prevE_succ hlt',prevE_succ hlt];simp [edgesOk,hb]
   rw [e]
   have w1 : qy (wrap64 (((i + 1 : Nat) : Int) - 1) = (i : Int)):=⟨by rw [wid (by omega) (by omega)];omega⟩
   cases hlt2 : edgeLt l[i] l[i + 1] with
   | false =>
    rw [Bool.false_and]
    refine (Ev.now _).to fun k=>?_
    simp only [impl_GraphOk.j1]
    rw [if_neg (by decide),if_pos (by omega),w1.out,if_pos (by omega),if_pos (by omega),ri_Edge hlt']
    unfold edgeLt at hlt2
    rw [decide_eq_false_iff_not] at hlt2
    by_cases h1 : l[i].f0 > l[i + 1].f0
    ·rw [if_pos h1]
    rw [if_neg h1,if_pos (by omega),if_pos (by omega)]
   | true =>
    rw [Bool.true_and]
    refine ih.to fun k=>?_
    simp only [impl_GraphOk.j1]
    rw [if_neg (by decide),if_pos (by omega),w1.out,if_pos (by omega),if_pos (by omega),ri_Edge hlt',w2.out]
    unfold edgeLt at hlt2
    rw [decide_eq_true_eq] at hlt2
    rw [if_neg (by omega)]
    by_cases h1 : l[i].f0 = l[i + 1].f0
    ·rw [if_pos h1,if_neg (by omega)]
    rw [if_neg h1]
theorem iGraphOk (n : Int) (l : List S51) (hl : l.length ≤ 1048576) : Ev (fun k=>impl_GraphOk.f k n l) (gok n l):=by
 unfold impl_GraphOk.f gok
 by_cases h : 0 ≤ n ∧ n ≤ 9
 ·rw [i_in_t h,decide_eq_true h,Bool.true_and]
  simp only [Option.bind_some,if_true]
  exact iGO_go n h l hl l.length 0 (by omega)
 rw [i_in_f h,decide_eq_false h,Bool.false_and]
 simp only [Option.bind_some,Bool.false_eq_true,if_false]
 exact Ev.now _
theorem s_in (a b c : Int) : spec_l01In.f a b c = some (decide (b ≤ a ∧ a ≤ c)):=by
 unfold spec_l01In.f
 by_cases h : a ≥ b
 ·rw [if_pos h];simp [show b ≤ a from h]
 rw [if_neg h];simp [show ¬ b ≤ a from h]
theorem s_in_t {a b c : Int} (h : b ≤ a ∧ a ≤ c) : spec_l01In.f a b c = some true:=by rw [s_in,decide_eq_true h]
theorem s_in_f {a b c : Int} (h : ¬ (b ≤ a ∧ a ≤ c)) : spec_l01In.f a b c = some false:=by rw [s_in,decide_eq_false h]
theorem s_worth (a : Int) : spec_l08Worth.f a = some (decide (0 ≤ a ∧ a ≤ 50)):=by unfold spec_l08Worth.f;rw [s_in];rfl
theorem sGO_go (n : Int) (l : List S51) (hl : l.length ≤ 1048576) : ∀ (d i : Nat),i + d = l.length → Ev (fun k=>spec_GraphOk.l0 k (i : Int) n l) (edgesOk n (prevE l i) (l.drop i))
 | 0,i,hi=>by
  rw [List.drop_of_length_le (by omega)]
  refine Ev.ofEq ((Ev.now true).to fun k=>?_) (by cases prevE l i <;> rfl)
  simp only [spec_GraphOk.l0]
  rw [if_neg (by omega)]
 | d + 1,i,hi=>by
  have hlt : i < l.length:=by omega
  have ih:=sGO_go n l hl d (i + 1) (by omega)
  rw [List.drop_eq_getElem_cons hlt]
  have step : ∀ k,spec_GraphOk.l0 (k + 1) (i : Int) n l = spec_GraphOk.j1 k (i : Int) (!edgeOk n l[i]) n l l[i].f0 l[i].f1 l[i].f2 l[i].f3 l[i].f4:=by
   intro k
   simp only [spec_GraphOk.l0,s_worth,Option.bind_some]
   rw [if_pos (by omega),if_pos (by omega),ri_Edge hlt]
   generalize l[i] = e
   unfold edgeOk
   repeat' split
   all_goals first
    | (congr 1;symm;rw [Bool.not_eq_true',decide_eq_false_iff_not];(try simp only [decide_eq_true_eq] at *);omega)
    | (congr 2;rw [decide_eq_decide];(try simp only [decide_eq_true_eq] at *);omega)
  refine Ev.to ?_ step
  have w2 : qy (wrap64 ((i : Int) + 1) = ((i + 1 : Nat) : Int)):=⟨by rw [wid (by omega) (by omega)];rfl⟩
  cases hb : edgeOk n l[i] with
  | false =>
   have e : edgesOk n (prevE l i) (l[i] :: l.drop (i + 1)) = false:=by cases prevE l i <;> simp [edgesOk,hb]
   rw [e]
   exact (Ev.now _).to fun k=>by simp only [spec_GraphOk.j1];rw [if_pos (by decide)]
  | true =>
   rcases i with _|i
   ·have e : edgesOk n (prevE l 0) (l[0] :: l.drop (0 + 1)) = edgesOk n (prevE l (0 + 1)) (l.drop (0 + 1)):=by rw [prevE_succ hlt];simp [edgesOk,hb,prevE]
    rw [e]
    refine ih.to fun k=>?_
    simp only [spec_GraphOk.j1]
    rw [if_neg (by decide),if_neg (by decide),w2.out]
   have hlt' : i < l.length:=by omega
   have e : edgesOk n (prevE l (i + 1)) (l[i + 1] :: l.drop (i + 1 + 1)) = (edgeLt l[i] l[i + 1] && edgesOk n (prevE l (i + 1 + 1)) (l.drop (i + 1 + 1))):=by rw [prevE_succ hlt',prevE_succ hlt];simp [edgesOk,hb]
   rw [e]
   have w1 : qy (wrap64 (((i + 1 : Nat) : Int) - 1) = (i : Int)):=⟨by rw [wid (by omega) (by omega)];omega⟩
   cases hlt2 : edgeLt l[i] l[i + 1] with
   | false =>
    rw [Bool.false_and]
    refine (Ev.now _).to fun k=>?_
    simp only [spec_GraphOk.j1]
    rw [if_neg (by decide),if_pos (by omega),w1.out,if_pos (by omega),if_pos (by omega),ri_Edge hlt']
    unfold edgeLt at hlt2
    rw [decide_eq_false_iff_not] at hlt2
    by_cases h1 : l[i].f0 > l[i + 1].f0
    ·rw [if_pos h1]
    rw [if_neg h1,if_pos (by omega),if_pos (by omega)]
   | true =>
    rw [Bool.true_and]
    refine ih.to fun k=>?_
    simp only [spec_GraphOk.j1]
    rw [if_neg (by decide),if_pos (by omega),w1.out,if_pos (by omega),if_pos (by omega),ri_Edge hlt',w2.out]
    unfold edgeLt at hlt2
    rw [decide_eq_true_eq] at hlt2
    rw [if_neg (by omega)]
    by_cases h1 : l[i].f0 = l[i + 1].f0
    ·rw [if_pos h1,if_neg (by omega)]
    rw [if_neg h1]
theorem sGraphOk (n : Int) (l : List S51) (hl : l.length ≤ 1048576) : Ev (fun k=>spec_GraphOk.f k n l) (gok n l):=by
 unfold spec_GraphOk.f gok
 by_cases h : 0 ≤ n ∧ n ≤ 9
 ·rw [s_in_t h,decide_eq_true h,Bool.true_and]
  simp only [Option.bind_some,if_true]
  exact sGO_go n l hl l.length 0 (by omega)
 rw [s_in_f h,decide_eq_false h,Bool.false_and]
 simp only [Option.bind_some,Bool.false_eq_true,if_false]
 exact Ev.now _
def isE (a b : Int) (e : S51) : Prop:=e.f0 = a ∧ e.f1 = b ∨ e.f0 = b ∧ e.f1 = a
instance (a b : Int) (e : S51) : Decidable (isE a b e):=inferInstanceAs (Decidable (_ ∨ _))
theorem edgesOk_all (n : Int) : ∀ (l : List S51) (p : Option S51),edgesOk n p l = true → ∀ e ∈ l,edgeOk n e = true
 | [],_,_,e,h=>by simp at h
 | x :: l,p,h,e,he=>by
  have hx : edgeOk n x = true ∧ edgesOk n (some x) l = true:=by
   cases p <;> simp only [edgesOk,Bool.and_eq_true] at h
   ·exact h
   exact ⟨h.1,h.2.2⟩
  rcases List.mem_cons.1 he with rfl|he
  ·exact hx.1
  exact edgesOk_all n l _ hx.2 e he
theorem gok_n {n : Int} {l : List S51} (h : gok n l = true) : 0 ≤ n ∧ n ≤ 9:=by
 unfold gok at h
 rw [Bool.and_eq_true,decide_eq_true_eq] at h
 exact h.1
theorem gok_all {n : Int} {l : List S51} (h : gok n l = true) : ∀ e ∈ l,0 ≤ e.f0 ∧ e.f0 < e.f1 ∧ e.f1 < n ∧ (0 ≤ e.f2 ∧ e.f2 ≤ 50) ∧ (0 ≤ e.f3 ∧ e.f3 ≤ 50) ∧ (0 ≤ e.f4 ∧ e.f4 ≤ 50):=by
 unfold gok at h
 rw [Bool.and_eq_true] at h
 intro e he
 have:=edgesOk_all n l none h.2 e he
 unfold edgeOk at this
 rwa [decide_eq_true_eq] at this
theorem rd51_mem {l : List S51} {i : Int} (h : inR i l.length) : rd_T51 l i ∈ l:=by
 have hlt : i.toNat < l.length:=by have:=h.1;have:=h.2;omega
 unfold rd_T51
 rw [List.getD_eq_getElem?_getD,List.getElem?_eq_getElem hlt]
 exact List.getElem_mem hlt
theorem gok_gph {n : Int} {es : List S51} (h : gok n es = true) : Gph n (mostI es) es:=by
 have hn:=gok_n h
 refine gph_of hn.1 hn.2 fun i hi=>?_
 have q:=gok_all h _ (rd51_mem hi)
 exact ⟨q.1,q.2.1,q.2.2.1,q.2.2.2.1,q.2.2.2.2.1,q.2.2.2.2.2⟩
theorem FnExactRounds (n : Int) (l : List S58) (hl : l.length ≤ 9223372036854775807) : ∃ k,LawR k n l:=by
 obtain ⟨r,hr,hc⟩:=szGraph n l hl 1048576 (by decide) (by decide)
 by_cases h : r < 0
 ·exact ⟨0,r,hr,.inl h⟩
 have hll:=(hc.resolve_left h).2
 have hm : (l.map cvEdge).length ≤ 1048576:=by rw [List.length_map];exact hll
 obtain ⟨k1,e1⟩:=toGraph n l hll
 obtain ⟨k2,e2⟩:=eqGraph n (l.map cvEdge) (by omega)
 obtain ⟨k3,e3⟩:=sGraphOk n (l.map cvEdge) hm
 obtain ⟨k4,e4⟩:=iGraphOk n (l.map cvEdge) hm
 refine ⟨k1 + k2 + k3 + k4,r,hr,.inr ⟨by omega,n,l.map cvEdge,e1 _ (by omega),e2 _ (by omega),gok n (l.map cvEdge),e3 _ (by omega),e4 _ (by omega),fun hb=>?_⟩⟩
 have g:=gok_gph hb
 obtain ⟨ki,ks,s,t,D,r1,r2,r3,-⟩:=solve_both g
 exact ⟨⟨g.n0,by have:=g.n9;omega⟩,ki,ks,s,t,r1,r2,r3⟩

end Go.Proofs.Ytnffimpoekjkpaa.Pure
