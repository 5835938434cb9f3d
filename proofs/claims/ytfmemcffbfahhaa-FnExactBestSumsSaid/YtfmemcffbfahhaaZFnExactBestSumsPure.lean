/- The program's BestSums and the reference's BestSums return the same sums and flag, for every graph, and leave it as it was. -/
import Derived.Test.YtfmemcffbfahhaaZFnExactBestSumsx6
import Derived.Laws.BitsAllLaws
namespace Go.Proofs.Ytfmemcffbfahhaa.Pure
open Go.RowKit Go.Proofs.Ytfmemcffbfahhaa.QFnExactBestSums Go.Proofs.YtfmemcffbfahhaaW.PrintWords Go.Proofs.YtfmemcffbfahhaaW.PrintLast
set_option linter.unusedVariables false
set_option linter.unusedSimpArgs false
set_option maxHeartbeats 4000000

def laws_FnExactBestSums.Pure : Prop:=∀ (a0_0 : Int) (l0_1 : List (S148)),((Lit.int .i64 a0_0).wf = true) → (l0_1.length ≤ 9223372036854775807 ∧ ∀ x1 ∈ l0_1,((Lit.int .i64 x1.f0).wf = true) ∧ ((Lit.int .i64 x1.f1).wf = true) ∧ ((Lit.int .i64 x1.f2).wf = true) ∧ ((Lit.int .i64 x1.f3).wf = true) ∧ ((Lit.int .i64 x1.f4).wf = true)) → ∃ k,laws_FnExactBestSums.f k a0_0 l0_1 = some true

theorem wid {n : Int} (h0 : -9223372036854775808 ≤ n) (h1 : n < 9223372036854775808) : wrap64 n = n:=by unfold wrap64;omega
theorem _root_.Go.Proofs.YtfmemcffbfahhaaW.PrintWords.Ev.ofEq {α : Type} {g : Nat → Option α} {r q : α} (h : Ev g r) (e : r = q) : Ev g q:=e ▸ h
theorem _root_.Go.Proofs.YtfmemcffbfahhaaW.PrintWords.Ev.same {α : Type} {o : Option α} {r : α} (h : o = some r) : Ev (fun _=>o) r:=⟨0,fun _ _=>h⟩
theorem _root_.Go.Proofs.YtfmemcffbfahhaaW.PrintWords.Ev.to {α : Type} {g f : Nat → Option α} {r : α} (k : Ev f r) (h : ∀ k,g (k + 1) = f k) : Ev g r:=Ev.step h k
theorem _root_.Go.Proofs.YtfmemcffbfahhaaW.PrintWords.Ev.cg {α : Type} {g f : Nat → Option α} {r : α} (k : Ev f r) (h : ∀ k,g k = f k) : Ev g r:=Ev.congr h k
theorem _root_.Go.Proofs.YtfmemcffbfahhaaW.PrintWords.Ev.ifp {α : Type} {c : Prop} [Decidable c] {g f : Nat → Option α} {r : α} (h : c) (e : Ev g r) : Ev (fun k=>if c then g k else f k) r:=by simp only [if_pos h];exact e
theorem _root_.Go.Proofs.YtfmemcffbfahhaaW.PrintWords.Ev.ifn {α : Type} {c : Prop} [Decidable c] {g f : Nat → Option α} {r : α} (h : ¬ c) (e : Ev f r) : Ev (fun k=>if c then g k else f k) r:=by simp only [if_neg h];exact e
def Byt (xs : List Int) : Prop:=∀ x ∈ xs,0 ≤ x ∧ x < 256
theorem Byt.nil : Byt []:=fun _ h=>by simp at h
theorem Byt.cons {x : Int} {xs : List Int} (h : 0 ≤ x ∧ x < 256) (h' : Byt xs) : Byt (x :: xs):=fun y hy=>by
  rcases List.mem_cons.1 hy with rfl|hy
  · exact h
  · exact h' y hy
theorem Byt.left {xs ys : List Int} (h : Byt (xs ++ ys)) : Byt xs:=fun y hy=>h y (List.mem_append_left _ hy)
theorem Byt.drop {xs : List Int} (h : Byt xs) (n : Nat) : Byt (xs.drop n):=fun y hy=>h y (List.mem_of_mem_drop hy)
theorem Byt.take {xs : List Int} (h : Byt xs) (n : Nat) : Byt (xs.take n):=fun y hy=>h y (List.mem_of_mem_take hy)
theorem bne_rfl_bool (b : Bool) : (b != b) = false:=by cases b <;> rfl
theorem Byt.one {x : Int} (h : 0 ≤ x ∧ x < 256) : Byt [x]:=Byt.nil.cons h
theorem set_take {α : Type} (xs : List α) {i : Nat} (v : α) (h : i < xs.length) : (xs.set i v).take (i + 1) = xs.take i ++ [v]:=by
  rw [List.take_succ_eq_append_getElem (by rw [List.length_set];exact h),List.getElem_set_self,List.take_set_of_le (Nat.le_refl _)]
theorem getD_at {α : Type} {xs : List α} {i : Nat} (z : α) (h : i < xs.length) : xs.getD ((i : Int)).toNat z = xs[i]:=by
  rw [Int.toNat_natCast,List.getD_eq_getElem?_getD,List.getElem?_eq_getElem h];rfl
theorem rd_at {xs : List Int} {i : Nat} (h : i < xs.length) : rd xs (i : Int) = xs[i]:=getD_at 0 h
theorem rl_Edge {xs : List S148} {i : Nat} (h : i < xs.length) : rd_T148 xs (i : Int) = xs[i]:=getD_at _ h

def cvEdge (x : S148) : S36:=⟨x.f0,x.f1,x.f2,x.f3,x.f4⟩
theorem toEdgeS_go (x0 : List S148) (hl : x0.length ≤ 1048576) : ∀ (d i : Nat) (x3 : List S36),i + d = x0.length → x3.length = x0.length → Ev (fun k=>laws_toEdgeS.l0 k x0 x3 (i : Int)) (x3.take i ++ (x0.drop i).map cvEdge)
  | 0,i,x3,hi,h3=>by
    rw [List.drop_of_length_le (by omega),List.take_of_length_le (by omega),List.map_nil,List.append_nil]
    refine (Ev.now _).to fun k=>?_
    simp only [laws_toEdgeS.l0]
    rw [if_neg (by omega)]
  | d + 1,i,x3,hi,h3=>by
    have hlt : i < x0.length:=by omega
    have ih:=toEdgeS_go x0 hl d (i + 1) (x3.set i (cvEdge x0[i])) (by omega) (by rw [List.length_set];omega)
    rw [set_take _ _ (by omega),List.append_assoc] at ih
    rw [List.drop_eq_getElem_cons hlt,List.map_cons]
    refine ih.to fun k=>?_
    simp only [laws_toEdgeS.l0]
    rw [if_pos (by omega),if_pos (by omega),rl_Edge hlt]
    simp only [laws_toEdge.f,Option.bind_some]
    rw [if_pos (by omega),wid (by omega) (by omega)]
    rfl
theorem toEdgeS (x0 : List S148) (hl : x0.length ≤ 1048576) : Ev (fun k=>laws_toEdgeS.f k x0) (x0.map cvEdge):=by
  unfold laws_toEdgeS.f
  refine Ev.ifp (by omega) (Ev.ifp (by rw [Int.toNat_natCast];omega) ?_)
  have:=toEdgeS_go x0 hl x0.length 0 (List.replicate ((x0.length : Int) : Int).toNat z36) (by omega) (by rw [List.length_replicate,Int.toNat_natCast])
  simpa using this

theorem ri_Edge {xs : List S36} {i : Nat} (h : i < xs.length) : rd_T36 xs (i : Int) = xs[i]:=getD_at _ h

theorem eqEdge_self (x : S36) : laws_eqEdge.f x.f0 x.f1 x.f2 x.f3 x.f4 x.f0 x.f1 x.f2 x.f3 x.f4 = some true:=by unfold laws_eqEdge.f;simp
theorem eqEdgeS_go (x0 : List S36) (hl : x0.length ≤ 100000000) : ∀ (d i : Nat),i + d = x0.length → Ev (fun k=>laws_eqEdgeS.l0 k x0 x0 (i : Int)) true
  | 0,i,hi=>(Ev.now _).to fun k=>by simp only [laws_eqEdgeS.l0];rw [if_neg (by omega)]
  | d + 1,i,hi=>by
    refine (eqEdgeS_go x0 hl d (i + 1) (by omega)).to fun k=>?_
    simp only [laws_eqEdgeS.l0]
    rw [if_pos (by omega),if_pos (by omega),if_pos (by omega),eqEdge_self]
    simp only [Option.bind_some,if_true]
    rw [wid (by omega) (by omega)]
    rfl
theorem eqEdgeS (x0 : List S36) (hl : x0.length ≤ 100000000) : Ev (fun k=>laws_eqEdgeS.f k x0 x0) true:=by
  unfold laws_eqEdgeS.f
  exact Ev.ifp rfl (eqEdgeS_go x0 hl x0.length 0 (by omega))

theorem szEdgeS (x0 : List S148) (hl : x0.length ≤ 9223372036854775807) (m : Int) (h0 : 0 ≤ m) (h1 : m ≤ 1048576) : ∃ r,laws_szEdgeS.f x0 m = some r ∧ (r < 0 ∨ (r ≤ m ∧ x0.length ≤ 1048576)):=by
  unfold laws_szEdgeS.f
  have w : wrap64 (m - (x0.length : Int)) = m - x0.length:=wid (by omega) (by omega)
  rw [w];clear w
  by_cases hn : m - (x0.length : Int) < 0
  · exact ⟨-1,by rw [if_pos hn],.inl (by omega)⟩
  · exact ⟨_,by rw [if_neg hn],.inr ⟨by omega,by omega⟩⟩

theorem szGraph (n : Int) (l : List S148) (hl : l.length ≤ 9223372036854775807) (m : Int) (h0 : 0 ≤ m) (h1 : m ≤ 1048576) : ∃ r,laws_szGraph.f n l m = some r ∧ (r < 0 ∨ (r ≤ m ∧ l.length ≤ 1048576)):=by
  unfold laws_szGraph.f
  obtain ⟨r,hr,hc⟩:=szEdgeS l hl m h0 h1
  rw [hr]
  simp only [Option.bind_some]
  by_cases h : r < 0
  · exact ⟨-1,by rw [if_pos h],.inl (by omega)⟩
  · exact ⟨r,by rw [if_neg h],hc⟩
theorem toGraph (n : Int) (l : List S148) (hl : l.length ≤ 1048576) : Ev (fun k=>laws_toGraph.f k n l) (n,l.map cvEdge):=by
  unfold laws_toGraph.f
  exact (toEdgeS l hl).bind (Ev.now _)
theorem eqGraph (n : Int) (l : List S36) (hl : l.length ≤ 100000000) : Ev (fun k=>laws_eqGraph.f k n l n l) true:=by
  unfold laws_eqGraph.f
  refine Ev.ifp rfl ((eqEdgeS l hl).bind ?_)
  simp only [if_true]
  exact Ev.now _

/-! Right graphs -/
def edgeOk (n : Int) (e : S36) : Bool:=decide (0 ≤ e.f0 ∧ e.f0 < e.f1 ∧ e.f1 < n ∧ (0 ≤ e.f2 ∧ e.f2 ≤ 50) ∧ (0 ≤ e.f3 ∧ e.f3 ≤ 50) ∧ (0 ≤ e.f4 ∧ e.f4 ≤ 50))
def edgeLt (p e : S36) : Bool:=decide (p.f0 < e.f0 ∨ p.f0 = e.f0 ∧ p.f1 < e.f1)
def edgesOk (n : Int) : Option S36 → List S36 → Bool
  | _,[]=>true
  | none,e :: l=>edgeOk n e && edgesOk n (some e) l
  | some p,e :: l=>edgeOk n e && (edgeLt p e && edgesOk n (some e) l)
def gok (n : Int) (l : List S36) : Bool:=decide (0 ≤ n ∧ n ≤ 9) && edgesOk n none l
def prevE (l : List S36) : Nat → Option S36
  | 0=>none
  | i + 1=>l[i]?
theorem prevE_succ {l : List S36} {i : Nat} (h : i < l.length) : prevE l (i + 1) = some l[i]:=List.getElem?_eq_getElem h

theorem i_in (a b c : Int) : impl_in.f a b c = some (decide (b ≤ a ∧ a ≤ c)):=by
  unfold impl_in.f
  by_cases h : a ≥ b
  · rw [if_pos h];simp [show b ≤ a from h]
  · rw [if_neg h];simp [show ¬ b ≤ a from h]
theorem i_in_t {a b c : Int} (h : b ≤ a ∧ a ≤ c) : impl_in.f a b c = some true:=by rw [i_in,decide_eq_true h]
theorem i_in_f {a b c : Int} (h : ¬ (b ≤ a ∧ a ≤ c)) : impl_in.f a b c = some false:=by rw [i_in,decide_eq_false h]

theorem iGO_go (n : Int) (hn : 0 ≤ n ∧ n ≤ 9) (l : List S36) (hl : l.length ≤ 1048576) : ∀ (d i : Nat),i + d = l.length → Ev (fun k=>impl_GraphOk.l0 k l (l.length : Int) (i : Int) n l) (edgesOk n (prevE l i) (l.drop i))
  | 0,i,hi=>by
    rw [List.drop_of_length_le (by omega)]
    refine Ev.ofEq ((Ev.now true).to fun k=>?_) (by cases prevE l i <;> rfl)
    simp only [impl_GraphOk.l0]
    rw [if_neg (by omega)]
  | d + 1,i,hi=>by
    have hlt : i < l.length:=by omega
    have ih:=iGO_go n hn l hl d (i + 1) (by omega)
    rw [List.drop_eq_getElem_cons hlt]
    have step : ∀ k,impl_GraphOk.l0 (k + 1) l (l.length : Int) (i : Int) n l = impl_GraphOk.j1 k (i : Int) l (l.length : Int) (i : Int) (!edgeOk n l[i]) n l l[i].f0 l[i].f1 l[i].f2 l[i].f3 l[i].f4:=by
      intro k
      have w : wrap64 (n - 1) = n - 1:=wid (by omega) (by omega)
      simp only [impl_GraphOk.l0,i_in,Option.bind_some,w]
      clear w
      rw [if_pos (by omega),if_pos (by omega),if_pos (by omega),ri_Edge hlt]
      generalize l[i] = e
      unfold edgeOk
      repeat' split
      all_goals first
        | (congr 1;symm;rw [Bool.not_eq_true',decide_eq_false_iff_not];(try simp only [decide_eq_true_eq] at *);omega)
        | (congr 2;rw [decide_eq_decide];(try simp only [decide_eq_true_eq] at *);omega)
    refine Ev.to ?_ step
    have w2 : qn (wrap64 ((i : Int) + 1) = ((i + 1 : Nat) : Int)):=⟨by rw [wid (by omega) (by omega)];rfl⟩
    cases hb : edgeOk n l[i] with
    | false =>
      have e : edgesOk n (prevE l i) (l[i] :: l.drop (i + 1)) = false:=by cases prevE l i <;> simp [edgesOk,hb]
      rw [e]
      exact (Ev.now _).to fun k=>by simp only [impl_GraphOk.j1];rw [if_pos (by decide)]
    | true =>
      rcases i with _|i
      · have e : edgesOk n (prevE l 0) (l[0] :: l.drop (0 + 1)) = edgesOk n (prevE l (0 + 1)) (l.drop (0 + 1)):=by rw [prevE_succ hlt];simp [edgesOk,hb,prevE]
        rw [e]
        refine ih.to fun k=>?_
        simp only [impl_GraphOk.j1]
        rw [if_neg (by decide),if_neg (by decide),w2.out]
      · have hlt' : i < l.length:=by omega
        have e : edgesOk n (prevE l (i + 1)) (l[i + 1] :: l.drop (i + 1 + 1)) = (edgeLt l[i] l[i + 1] && edgesOk n (prevE l (i + 1 + 1)) (l.drop (i + 1 + 1))):=by rw [prevE_succ hlt',prevE_succ hlt];simp [edgesOk,hb]
        rw [e]
        have w1 : qn (wrap64 (((i + 1 : Nat) : Int) - 1) = (i : Int)):=⟨by rw [wid (by omega) (by omega)];omega⟩
        cases hlt2 : edgeLt l[i] l[i + 1] with
        | false =>
          rw [Bool.false_and]
          refine (Ev.now _).to fun k=>?_
          simp only [impl_GraphOk.j1]
          rw [if_neg (by decide),if_pos (by omega),w1.out,if_pos (by omega),if_pos (by omega),ri_Edge hlt']
          unfold edgeLt at hlt2
          rw [decide_eq_false_iff_not] at hlt2
          by_cases h1 : l[i].f0 > l[i + 1].f0
          · rw [if_pos h1]
          · rw [if_neg h1,if_pos (by omega),if_pos (by omega)]
        | true =>
          rw [Bool.true_and]
          refine ih.to fun k=>?_
          simp only [impl_GraphOk.j1]
          rw [if_neg (by decide),if_pos (by omega),w1.out,if_pos (by omega),if_pos (by omega),ri_Edge hlt',w2.out]
          unfold edgeLt at hlt2
          rw [decide_eq_true_eq] at hlt2
          rw [if_neg (by omega)]
          by_cases h1 : l[i].f0 = l[i + 1].f0
          · rw [if_pos h1,if_neg (by omega)]
          · rw [if_neg h1]
theorem iGraphOk (n : Int) (l : List S36) (hl : l.length ≤ 1048576) : Ev (fun k=>impl_GraphOk.f k n l) (gok n l):=by
  unfold impl_GraphOk.f gok
  by_cases h : 0 ≤ n ∧ n ≤ 9
  · rw [i_in_t h,decide_eq_true h,Bool.true_and]
    simp only [Option.bind_some,if_true]
    exact iGO_go n h l hl l.length 0 (by omega)
  · rw [i_in_f h,decide_eq_false h,Bool.false_and]
    simp only [Option.bind_some,Bool.false_eq_true,if_false]
    exact Ev.now _

theorem s_in (a b c : Int) : spec_l01In.f a b c = some (decide (b ≤ a ∧ a ≤ c)):=by
  unfold spec_l01In.f
  by_cases h : a ≥ b
  · rw [if_pos h];simp [show b ≤ a from h]
  · rw [if_neg h];simp [show ¬ b ≤ a from h]
theorem s_in_t {a b c : Int} (h : b ≤ a ∧ a ≤ c) : spec_l01In.f a b c = some true:=by rw [s_in,decide_eq_true h]
theorem s_in_f {a b c : Int} (h : ¬ (b ≤ a ∧ a ≤ c)) : spec_l01In.f a b c = some false:=by rw [s_in,decide_eq_false h]

theorem s_worth (a : Int) : spec_l08Worth.f a = some (decide (0 ≤ a ∧ a ≤ 50)):=by unfold spec_l08Worth.f;rw [s_in];rfl
theorem sGO_go (n : Int) (l : List S36) (hl : l.length ≤ 1048576) : ∀ (d i : Nat),i + d = l.length → Ev (fun k=>spec_GraphOk.l0 k (i : Int) n l) (edgesOk n (prevE l i) (l.drop i))
  | 0,i,hi=>by
    rw [List.drop_of_length_le (by omega)]
    refine Ev.ofEq ((Ev.now true).to fun k=>?_) (by cases prevE l i <;> rfl)
    simp only [spec_GraphOk.l0]
    rw [if_neg (by omega)]
  | d + 1,i,hi=>by
    have hlt : i < l.length:=by omega
    have ih:=sGO_go n l hl d (i + 1) (by omega)
    rw [List.drop_eq_getElem_cons hlt]
    have step : ∀ k,spec_GraphOk.l0 (k + 1) (i : Int) n l = spec_GraphOk.j1 k (i : Int) (!edgeOk n l[i]) n l l[i].f0 l[i].f1 l[i].f2 l[i].f3 l[i].f4:=by
      intro k
      simp only [spec_GraphOk.l0,s_worth,Option.bind_some]
      rw [if_pos (by omega),if_pos (by omega),ri_Edge hlt]
      generalize l[i] = e
      unfold edgeOk
      repeat' split
      all_goals first
        | (congr 1;symm;rw [Bool.not_eq_true',decide_eq_false_iff_not];(try simp only [decide_eq_true_eq] at *);omega)
        | (congr 2;rw [decide_eq_decide];(try simp only [decide_eq_true_eq] at *);omega)
    refine Ev.to ?_ step
    have w2 : qn (wrap64 ((i : Int) + 1) = ((i + 1 : Nat) : Int)):=⟨by rw [wid (by omega) (by omega)];rfl⟩
    cases hb : edgeOk n l[i] with
    | false =>
      have e : edgesOk n (prevE l i) (l[i] :: l.drop (i + 1)) = false:=by cases prevE l i <;> simp [edgesOk,hb]
      rw [e]
      exact (Ev.now _).to fun k=>by simp only [spec_GraphOk.j1];rw [if_pos (by decide)]
    | true =>
      rcases i with _|i
      · have e : edgesOk n (prevE l 0) (l[0] :: l.drop (0 + 1)) = edgesOk n (prevE l (0 + 1)) (l.drop (0 + 1)):=by rw [prevE_succ hlt];simp [edgesOk,hb,prevE]
        rw [e]
        refine ih.to fun k=>?_
        simp only [spec_GraphOk.j1]
        rw [if_neg (by decide),if_neg (by decide),w2.out]
      · have hlt' : i < l.length:=by omega
        have e : edgesOk n (prevE l (i + 1)) (l[i + 1] :: l.drop (i + 1 + 1)) = (edgeLt l[i] l[i + 1] && edgesOk n (prevE l (i + 1 + 1)) (l.drop (i + 1 + 1))):=by rw [prevE_succ hlt',prevE_succ hlt];simp [edgesOk,hb]
        rw [e]
        have w1 : qn (wrap64 (((i + 1 : Nat) : Int) - 1) = (i : Int)):=⟨by rw [wid (by omega) (by omega)];omega⟩
        cases hlt2 : edgeLt l[i] l[i + 1] with
        | false =>
          rw [Bool.false_and]
          refine (Ev.now _).to fun k=>?_
          simp only [spec_GraphOk.j1]
          rw [if_neg (by decide),if_pos (by omega),w1.out,if_pos (by omega),if_pos (by omega),ri_Edge hlt']
          unfold edgeLt at hlt2
          rw [decide_eq_false_iff_not] at hlt2
          by_cases h1 : l[i].f0 > l[i + 1].f0
          · rw [if_pos h1]
          · rw [if_neg h1,if_pos (by omega),if_pos (by omega)]
        | true =>
          rw [Bool.true_and]
          refine ih.to fun k=>?_
          simp only [spec_GraphOk.j1]
          rw [if_neg (by decide),if_pos (by omega),w1.out,if_pos (by omega),if_pos (by omega),ri_Edge hlt',w2.out]
          unfold edgeLt at hlt2
          rw [decide_eq_true_eq] at hlt2
          rw [if_neg (by omega)]
          by_cases h1 : l[i].f0 = l[i + 1].f0
          · rw [if_pos h1,if_neg (by omega)]
          · rw [if_neg h1]
theorem sGraphOk (n : Int) (l : List S36) (hl : l.length ≤ 1048576) : Ev (fun k=>spec_GraphOk.f k n l) (gok n l):=by
  unfold spec_GraphOk.f gok
  by_cases h : 0 ≤ n ∧ n ≤ 9
  · rw [s_in_t h,decide_eq_true h,Bool.true_and]
    simp only [Option.bind_some,if_true]
    exact sGO_go n l hl l.length 0 (by omega)
  · rw [s_in_f h,decide_eq_false h,Bool.false_and]
    simp only [Option.bind_some,Bool.false_eq_true,if_false]
    exact Ev.now _

def isE (a b : Int) (e : S36) : Prop:=e.f0 = a ∧ e.f1 = b ∨ e.f0 = b ∧ e.f1 = a
instance (a b : Int) (e : S36) : Decidable (isE a b e):=inferInstanceAs (Decidable (_ ∨ _))
def atE (a b : Int) : Nat → List S36 → Int
  | _,[]=>-1
  | i,e :: l=>if isE a b e then (i : Int) else atE a b (i + 1) l

theorem edgesOk_all (n : Int) : ∀ (l : List S36) (p : Option S36),edgesOk n p l = true → ∀ e ∈ l,edgeOk n e = true
  | [],_,_,e,h=>by simp at h
  | x :: l,p,h,e,he=>by
    have hx : edgeOk n x = true ∧ edgesOk n (some x) l = true:=by
      cases p <;> simp only [edgesOk,Bool.and_eq_true] at h
      · exact h
      · exact ⟨h.1,h.2.2⟩
    rcases List.mem_cons.1 he with rfl|he
    · exact hx.1
    · exact edgesOk_all n l _ hx.2 e he
theorem gok_n {n : Int} {l : List S36} (h : gok n l = true) : 0 ≤ n ∧ n ≤ 9:=by
  unfold gok at h
  rw [Bool.and_eq_true,decide_eq_true_eq] at h
  exact h.1
theorem gok_all {n : Int} {l : List S36} (h : gok n l = true) : ∀ e ∈ l,0 ≤ e.f0 ∧ e.f0 < e.f1 ∧ e.f1 < n ∧ (0 ≤ e.f2 ∧ e.f2 ≤ 50) ∧ (0 ≤ e.f3 ∧ e.f3 ≤ 50) ∧ (0 ≤ e.f4 ∧ e.f4 ≤ 50):=by
  unfold gok at h
  rw [Bool.and_eq_true] at h
  intro e he
  have:=edgesOk_all n l none h.2 e he
  unfold edgeOk at this
  rwa [decide_eq_true_eq] at this
theorem atE_some (a b : Int) : ∀ (l : List S36) (i : Nat),0 ≤ atE a b i l → ∃ (h : ((atE a b i l).toNat - i) < l.length),(i : Int) ≤ atE a b i l ∧ isE a b l[(atE a b i l).toNat - i]
  | [],i,h=>by simp [atE] at h
  | e :: l,i,h=>by
    unfold atE at h ⊢
    by_cases hc : isE a b e
    · simp only [if_pos hc]
      have e0 : ((i : Int)).toNat - i = 0:=by omega
      refine ⟨by rw [e0];simp,by omega,?_⟩
      simp only [e0,List.getElem_cons_zero]
      exact hc
    · simp only [if_neg hc] at h ⊢
      obtain ⟨h1,h2,h3⟩:=atE_some a b l (i + 1) h
      have e1 : (atE a b (i + 1) l).toNat - i = ((atE a b (i + 1) l).toNat - (i + 1)) + 1:=by omega
      refine ⟨by rw [e1];simp;exact h1,by omega,?_⟩
      simp only [e1,List.getElem_cons_succ]
      exact h3
/-! Induced graphs: both ways give the same edges -/
theorem sorted_ext {α : Type} {lt : α → α → Prop} (irr : ∀ a,¬ lt a a) (asy : ∀ a b,lt a b → ¬ lt b a) : ∀ (l m : List α),l.Pairwise lt → m.Pairwise lt → (∀ x,x ∈ l ↔ x ∈ m) → l = m
  | [],[],_,_,_=>rfl
  | [],b :: m,_,_,h=>absurd ((h b).2 (List.mem_cons_self ..)) (by simp)
  | a :: l,[],_,_,h=>absurd ((h a).1 (List.mem_cons_self ..)) (by simp)
  | a :: l,b :: m,hl,hm,h=>by
    rw [List.pairwise_cons] at hl hm
    have e : a = b:=by
      rcases List.mem_cons.1 ((h a).1 (List.mem_cons_self ..)) with e|ha
      · exact e
      · rcases List.mem_cons.1 ((h b).2 (List.mem_cons_self ..)) with e|hb
        · exact e.symm
        · exact absurd (hl.1 b hb) (asy _ _ (hm.1 a ha))
    subst e
    congr 1
    refine sorted_ext irr asy l m hl.2 hm.2 (fun x=>⟨fun hx=>?_,fun hx=>?_⟩)
    · rcases List.mem_cons.1 ((h x).1 (List.mem_cons_of_mem _ hx)) with e|hx'
      · subst e;exact absurd (hl.1 _ hx) (irr _)
      · exact hx'
    · rcases List.mem_cons.1 ((h x).2 (List.mem_cons_of_mem _ hx)) with e|hx'
      · subst e;exact absurd (hm.1 _ hx) (irr _)
      · exact hx'
def ltE (a b : S36) : Prop:=a.f0 < b.f0 ∨ (a.f0 = b.f0 ∧ a.f1 < b.f1)
theorem ltE_irr (a : S36) : ¬ ltE a a:=by unfold ltE;omega
theorem ltE_asy (a b : S36) : ltE a b → ¬ ltE b a:=by unfold ltE;omega
theorem ltE_tr {a b c : S36} : ltE a b → ltE b c → ltE a c:=by unfold ltE;omega
theorem pw_uniq {l : List S36} (h : l.Pairwise ltE) {a b : S36} (ha : a ∈ l) (hb : b ∈ l) (h0 : a.f0 = b.f0) (h1 : a.f1 = b.f1) : a = b:=by
  obtain ⟨i,hi,rfl⟩:=List.getElem_of_mem ha
  obtain ⟨j,hj,rfl⟩:=List.getElem_of_mem hb
  rw [List.pairwise_iff_getElem] at h
  rcases Nat.lt_trichotomy i j with hij|rfl|hij
  · have:=h i j hi hj hij;unfold ltE at this;omega
  · rfl
  · have:=h j i hj hi hij;unfold ltE at this;omega
theorem atE_ex {a b : Int} : ∀ (l : List S36) (i : Nat),(∃ e ∈ l,isE a b e) → 0 ≤ atE a b i l
  | [],i,h=>by obtain ⟨e,he,_⟩:=h;simp at he
  | e :: l,i,h=>by
    unfold atE
    by_cases hc : isE a b e
    · simp only [if_pos hc];omega
    · simp only [if_neg hc]
      refine atE_ex l (i + 1) ?_
      obtain ⟨d,hd,hi⟩:=h
      rcases List.mem_cons.1 hd with rfl|hd
      · exact absurd hi hc
      · exact ⟨d,hd,hi⟩
theorem atE_get {a b : Int} {l : List S36} (h : 0 ≤ atE a b 0 l) : rd_T36 l (atE a b 0 l) ∈ l ∧ isE a b (rd_T36 l (atE a b 0 l)):=by
  obtain ⟨h1,h2,h3⟩:=atE_some a b l 0 h
  have h1' : (atE a b 0 l).toNat < l.length:=by simpa using h1
  have e : rd_T36 l (atE a b 0 l) = l[(atE a b 0 l).toNat]:=by
    have:=ri_Edge h1'
    rwa [Int.toNat_of_nonneg h] at this
  rw [e]
  exact ⟨List.getElem_mem h1',by simpa using h3⟩
theorem edgesOk_pw (n : Int) : ∀ (l : List S36) (p : Option S36),edgesOk n p l = true → (∀ q,p = some q → ∀ x ∈ l,ltE q x) ∧ l.Pairwise ltE
  | [],p,_=>⟨fun _ _ x hx=>by simp at hx,by simp⟩
  | y :: l,p,h=>by
    have h2 : edgesOk n (some y) l = true:=by
      cases p <;> simp only [edgesOk,Bool.and_eq_true] at h
      · exact h.2
      · exact h.2.2
    obtain ⟨i0,i1⟩:=edgesOk_pw n l (some y) h2
    have hy:=i0 y rfl
    refine ⟨fun q hq x hx=>?_,List.pairwise_cons.2 ⟨hy,i1⟩⟩
    subst hq
    simp only [edgesOk,edgeLt,Bool.and_eq_true,decide_eq_true_eq] at h
    have h1 : ltE q y:=h.2.1
    rcases List.mem_cons.1 hx with rfl|hx
    · exact h1
    · exact ltE_tr h1 (hy x hx)
def inL (l : List Int) (x : Int) : Bool:=decide (x ∈ l)
theorem inL_cons (y : Int) (l : List Int) (x : Int) : inL (y :: l) x = if y = x then true else inL l x:=by
  unfold inL
  by_cases h : y = x
  · rw [if_pos h];simp [h]
  · rw [if_neg h,decide_eq_decide];simp [show ¬ x = y from fun e=>h e.symm]

/-! All pairings: by edges and by vertices the same -/
abbrev T3:=Int × Int × Int
def lt3 (a b : T3) : Prop:=a.1 < b.1 ∨ (a.1 = b.1 ∧ (a.2.1 < b.2.1 ∨ (a.2.1 = b.2.1 ∧ a.2.2 < b.2.2)))
instance (a b : T3) : Decidable (lt3 a b):=inferInstanceAs (Decidable (_ ∨ _))
def mx3 (a b : T3) : T3:=if lt3 a b then b else a
def ad3 (a b : T3) : T3:=(a.1 + b.1,a.2.1 + b.2.1,a.2.2 + b.2.2)
theorem lt3_tr {a b c : T3} : lt3 a b → lt3 b c → lt3 a c:=by unfold lt3;omega
theorem lt3_asy {a b : T3} : lt3 a b → ¬ lt3 b a:=by unfold lt3;omega
theorem lt3_tot {a b : T3} : ¬ lt3 a b → ¬ lt3 b a → a = b:=by
  obtain ⟨a0,a1,a2⟩:=a
  obtain ⟨b0,b1,b2⟩:=b
  unfold lt3
  intro h h'
  simp only at h h'
  rw [show a0 = b0 by omega,show a1 = b1 by omega,show a2 = b2 by omega]
theorem lt3_trn {a b c : T3} (h : ¬ lt3 a b) (h' : ¬ lt3 b c) : ¬ lt3 a c:=by unfold lt3 at *;omega
theorem lt3_ad (s a b : T3) : lt3 (ad3 s a) (ad3 s b) ↔ lt3 a b:=by unfold lt3 ad3;simp only;omega
theorem mx3_comm (a b : T3) : mx3 a b = mx3 b a:=by
  unfold mx3
  by_cases h : lt3 a b
  · rw [if_pos h,if_neg (lt3_asy h)]
  · by_cases h' : lt3 b a
    · rw [if_neg h,if_pos h']
    · rw [if_neg h,if_neg h',lt3_tot h h']
theorem mx3_assoc (a b c : T3) : mx3 (mx3 a b) c = mx3 a (mx3 b c):=by
  unfold mx3
  by_cases h1 : lt3 a b
  · by_cases h2 : lt3 b c
    · rw [if_pos h1,if_pos h2,if_pos (lt3_tr h1 h2)]
    · rw [if_pos h1,if_neg h2,if_pos h1]
  · by_cases h2 : lt3 b c
    · rw [if_neg h1,if_pos h2]
    · rw [if_neg h1,if_neg h2,if_neg h1,if_neg (lt3_trn h1 h2)]
theorem ad3_mx3 (s a b : T3) : ad3 s (mx3 a b) = mx3 (ad3 s a) (ad3 s b):=by
  unfold mx3
  by_cases h : lt3 a b
  · rw [if_pos h,if_pos ((lt3_ad s a b).2 h)]
  · rw [if_neg h,if_neg (fun h'=>h ((lt3_ad s a b).1 h'))]
theorem ad3_assoc (a b c : T3) : ad3 (ad3 a b) c = ad3 a (ad3 b c):=by
  unfold ad3;simp only [Int.add_assoc]
theorem ad3_zero (a : T3) : ad3 a (0,0,0) = a:=by unfold ad3;simp
abbrev V3:=T3 × Int
def jn (x y : V3) : V3:=(mx3 x.1 y.1,x.2 + y.2)
def sh (w : T3) (x : V3) : V3:=(ad3 w x.1,x.2)
theorem jn_comm (x y : V3) : jn x y = jn y x:=by unfold jn;rw [mx3_comm,Int.add_comm]
theorem jn_assoc (x y z : V3) : jn (jn x y) z = jn x (jn y z):=by unfold jn;simp only;rw [mx3_assoc,Int.add_assoc]
theorem jn_right (x y z : V3) : jn (jn x y) z = jn (jn x z) y:=by rw [jn_assoc,jn_comm y z,← jn_assoc]
def w3 (e : S36) : T3:=(e.f2,e.f3,e.f4)
def bE : List S36 → (Int → Bool) → V3
  | [],_=>((0,0,0),1)
  | e :: E,t=>if (t e.f0 || t e.f1) = true then bE E t else jn (bE E t) (sh (w3 e) (bE E (fun x=>t x || (x == e.f0 || x == e.f1))))
theorem bE_congr : ∀ (E : List S36) (t t' : Int → Bool),(∀ e ∈ E,t e.f0 = t' e.f0 ∧ t e.f1 = t' e.f1) → bE E t = bE E t'
  | [],_,_,_=>rfl
  | e :: E,t,t',h=>by
    have h0:=h e (List.mem_cons_self ..)
    have i1:=bE_congr E t t' (fun x hx=>h x (List.mem_cons_of_mem _ hx))
    have i2:=bE_congr E (fun x=>t x || (x == e.f0 || x == e.f1)) (fun x=>t' x || (x == e.f0 || x == e.f1)) (fun x hx=>by
      have:=h x (List.mem_cons_of_mem _ hx)
      simp only [this.1,this.2,and_self])
    unfold bE
    rw [h0.1,h0.2,i1,i2]
theorem bE_skip (E : List S36) (v : Int) (t : Int → Bool) (hv : t v = true) : ∀ (r : List S36),(∀ e ∈ r,e.f0 = v) → bE (r ++ E) t = bE E t
  | [],_=>rfl
  | e :: r,h=>by
    rw [List.cons_append,bE,if_pos (by rw [h e (List.mem_cons_self ..),hv];rfl)]
    exact bE_skip E v t hv r (fun x hx=>h x (List.mem_cons_of_mem _ hx))
def rowF (G : S36 → Option V3) : V3 → List S36 → V3
  | acc,[]=>acc
  | acc,e :: r=>match G e with
    | none=>rowF G acc r
    | some x=>rowF G (jn acc x) r
theorem rowF_jn (G : S36 → Option V3) (x : V3) : ∀ (r : List S36) (acc : V3),rowF G (jn acc x) r = jn (rowF G acc r) x
  | [],acc=>rfl
  | e :: r,acc=>by
    unfold rowF
    cases G e with
    | none=>exact rowF_jn G x r acc
    | some y=>show rowF G (jn (jn acc x) y) r = jn (rowF G (jn acc y) r) x;rw [jn_right,rowF_jn G x r]
theorem rowF_congr (G G' : S36 → Option V3) : ∀ (r : List S36) (acc : V3),(∀ e ∈ r,G e = G' e) → rowF G acc r = rowF G' acc r
  | [],acc,_=>rfl
  | e :: r,acc,h=>by
    have h':=fun a=>rowF_congr G G' r a (fun x hx=>h x (List.mem_cons_of_mem _ hx))
    unfold rowF
    rw [h e (List.mem_cons_self ..)]
    cases G' e with
    | none=>exact h' acc
    | some y=>exact h' _
def rowG (E : List S36) (t : Int → Bool) (v : Int) (e : S36) : Option V3 :=
  if t e.f1 = true then none else some (sh (w3 e) (bE E (fun x=>t x || (x == v || x == e.f1))))
theorem bE_row (E : List S36) (v : Int) (t : Int → Bool) (hv : t v = false) : ∀ (r : List S36),(∀ e ∈ r,e.f0 = v) → bE (r ++ E) t = rowF (rowG E t v) (bE E t) r
  | [],_=>rfl
  | e :: r,h=>by
    have ih:=bE_row E v t hv r (fun x hx=>h x (List.mem_cons_of_mem _ hx))
    have h0:=h e (List.mem_cons_self ..)
    rw [List.cons_append,bE,h0,hv,Bool.false_or,rowF,rowG]
    by_cases h1 : t e.f1 = true
    · rw [if_pos h1,if_pos h1];exact ih
    · rw [if_neg h1,if_neg h1]
      simp only
      rw [rowF_jn,ih,bE_skip E v _ (by simp) r (fun x hx=>h x (List.mem_cons_of_mem _ hx))]
theorem filter_split {α : Type} {R : α → α → Prop} {p q r : α → Bool} : ∀ (l : List α),l.Pairwise R → (∀ x ∈ l,p x = (q x || r x)) → (∀ x ∈ l,¬ (q x = true ∧ r x = true)) → (∀ a ∈ l,∀ b ∈ l,R a b → r a = true → q b = false) → l.filter p = l.filter q ++ l.filter r
  | [],_,_,_,_=>rfl
  | x :: l,hl,h1,h2,h3=>by
    rw [List.pairwise_cons] at hl
    have ih:=filter_split (p:=p) (q:=q) (r:=r) l hl.2 (fun y hy=>h1 y (List.mem_cons_of_mem _ hy)) (fun y hy=>h2 y (List.mem_cons_of_mem _ hy)) (fun a ha b hb=>h3 a (List.mem_cons_of_mem _ ha) b (List.mem_cons_of_mem _ hb))
    have hx1:=h1 x (List.mem_cons_self ..)
    have hx2:=h2 x (List.mem_cons_self ..)
    cases hq : q x with
    | true =>
      have hr : r x = false:=by
        cases hr : r x with
        | false=>rfl
        | true=>exact absurd ⟨hq,hr⟩ hx2
      rw [hq,Bool.true_or] at hx1
      rw [List.filter_cons_of_pos hx1,List.filter_cons_of_pos hq,List.filter_cons_of_neg (by rw [hr];decide),ih];rfl
    | false =>
      cases hr : r x with
      | false =>
        rw [hq,hr,Bool.false_or] at hx1
        rw [List.filter_cons_of_neg (by rw [hx1];decide),List.filter_cons_of_neg (by rw [hq];decide),List.filter_cons_of_neg (by rw [hr];decide),ih]
      | true =>
        rw [hq,hr,Bool.false_or] at hx1
        have hn : l.filter q = []:=by
          rw [List.filter_eq_nil_iff]
          intro y hy
          rw [h3 x (List.mem_cons_self ..) y (List.mem_cons_of_mem _ hy) (hl.1 y hy) hr]
          decide
        rw [List.filter_cons_of_pos hx1,List.filter_cons_of_neg (by rw [hq];decide),List.filter_cons_of_pos hr,ih,hn];rfl
def rest (E : List S36) (v : Int) : List S36:=E.filter fun e=>decide (v ≤ e.f0)
def row (E : List S36) (v b : Int) : List S36:=E.filter fun e=>decide (e.f0 = v ∧ b ≤ e.f1)
theorem rest_split {E : List S36} (hE : E.Pairwise ltE) (hlt : ∀ e ∈ E,e.f0 < e.f1) (v : Int) : rest E v = row E v (v + 1) ++ rest E (v + 1):=by
  unfold rest row
  refine filter_split E hE (fun x hx=>?_) (fun x hx=>?_) (fun a ha b hb hab=>?_)
  · have:=hlt x hx
    rw [← Bool.decide_or,decide_eq_decide];omega
  · simp only [decide_eq_true_eq];omega
  · simp only [decide_eq_true_eq,decide_eq_false_iff_not]
    unfold ltE at hab;omega
theorem row_split {E : List S36} (hE : E.Pairwise ltE) (v b : Int) : row E v b = (E.filter fun e=>decide (e.f0 = v ∧ e.f1 = b)) ++ row E v (b + 1):=by
  unfold row
  refine filter_split E hE (fun x hx=>?_) (fun x hx=>?_) (fun a ha c hc hab=>?_)
  · rw [← Bool.decide_or,decide_eq_decide];omega
  · simp only [decide_eq_true_eq];omega
  · simp only [decide_eq_true_eq,decide_eq_false_iff_not]
    unfold ltE at hab;omega
theorem one_at {E : List S36} (hE : E.Pairwise ltE) (hlt : ∀ e ∈ E,e.f0 < e.f1) {v b : Int} (hvb : v < b) : (E.filter fun e=>decide (e.f0 = v ∧ e.f1 = b)) = if 0 ≤ atE v b 0 E then [rd_T36 E (atE v b 0 E)] else []:=by
  by_cases h : 0 ≤ atE v b 0 E
  · rw [if_pos h]
    obtain ⟨hm,hi⟩:=atE_get h
    have hl:=hlt _ hm
    refine sorted_ext ltE_irr ltE_asy _ _ (hE.filter _) (by simp) (fun x=>?_)
    rw [List.mem_filter,List.mem_singleton,decide_eq_true_eq]
    constructor
    · rintro ⟨hx,h0,h1⟩
      refine pw_uniq hE hx hm ?_ ?_ <;> rcases hi with ⟨i0,i1⟩|⟨i0,i1⟩ <;> omega
    · rintro rfl
      refine ⟨hm,?_⟩
      rcases hi with ⟨i0,i1⟩|⟨i0,i1⟩ <;> omega
  · rw [if_neg h,List.filter_eq_nil_iff]
    intro x hx hc
    rw [decide_eq_true_eq] at hc
    exact h (atE_ex E 0 ⟨x,hx,.inl hc⟩)
theorem rest_end {n : Int} {E : List S36} (hg : gok n E = true) {v : Int} (hv : n ≤ v) : rest E v = []:=by
  unfold rest
  rw [List.filter_eq_nil_iff]
  intro x hx hc
  rw [decide_eq_true_eq] at hc
  have:=gok_all hg x hx
  omega
theorem row_end {n : Int} {E : List S36} (hg : gok n E = true) {v b : Int} (hv : n ≤ b) : row E v b = []:=by
  unfold row
  rw [List.filter_eq_nil_iff]
  intro x hx hc
  rw [decide_eq_true_eq] at hc
  have:=gok_all hg x hx
  omega
theorem rest_all {n : Int} {E : List S36} (hg : gok n E = true) : rest E 0 = E:=by
  unfold rest
  rw [List.filter_eq_self]
  intro x hx
  rw [decide_eq_true_eq]
  exact (gok_all hg x hx).1
/-- What the vertices from b on add to what there is. -/
def sB (E : List S36) (u : List Int) (v : Int) (f : List Int → V3) : Nat → Int → V3 → V3
  | 0,_,acc=>acc
  | m + 1,b,acc=>if atE v b 0 E < 0 then sB E u v f m (b + 1) acc else if inL u b = true then sB E u v f m (b + 1) acc else sB E u v f m (b + 1) (jn acc (sh (w3 (rd_T36 E (atE v b 0 E))) (f (u ++ [b]))))
def sV (E : List S36) : Nat → Int → List Int → V3
  | 0,_,_=>((0,0,0),1)
  | d + 1,v,u=>if inL u v = true then sV E d (v + 1) u else sB E u v (sV E d (v + 1)) d (v + 1) (sV E d (v + 1) u)
def sG (u : List Int) (f : List Int → V3) (e : S36) : Option V3:=if inL u e.f1 = true then none else some (sh (w3 e) (f (u ++ [e.f1])))
theorem sB_row {n : Int} {E : List S36} (hg : gok n E = true) (hE : E.Pairwise ltE) (u : List Int) (v : Int) (f : List Int → V3) : ∀ (m : Nat) (b : Int) (acc : V3),v < b → b + m = n → sB E u v f m b acc = rowF (sG u f) acc (row E v b)
  | 0,b,acc,hb,hm=>by rw [row_end hg (by omega)];rfl
  | m + 1,b,acc,hb,hm=>by
    have hlt : ∀ e ∈ E,e.f0 < e.f1:=fun e he=>(gok_all hg e he).2.1
    have ih:=fun a=>sB_row hg hE u v f m (b + 1) a (by omega) (by omega)
    rw [row_split hE,one_at hE hlt hb,sB]
    by_cases h : 0 ≤ atE v b 0 E
    · obtain ⟨hm',hi⟩:=atE_get h
      have hl:=hlt _ hm'
      have hf : (rd_T36 E (atE v b 0 E)).f1 = b:=by rcases hi with ⟨i0,i1⟩|⟨i0,i1⟩ <;> omega
      rw [if_neg (by omega),if_pos h,List.singleton_append,rowF,sG,hf]
      by_cases hu : inL u b = true
      · rw [if_pos hu,if_pos hu];exact ih acc
      · rw [if_neg hu,if_neg hu];exact ih _
    · rw [if_pos (by omega),if_neg h,List.nil_append]
      exact ih acc
theorem inL_snoc (u : List Int) (b x : Int) : inL (u ++ [b]) x = (inL u x || x == b):=by
  unfold inL
  by_cases h : x ∈ u <;> by_cases h' : x = b <;> simp [h,h']
theorem pairs_same {n : Int} {E : List S36} (hg : gok n E = true) (hE : E.Pairwise ltE) : ∀ (d : Nat) (v : Int) (u : List Int) (t : Int → Bool),v + d = n → (∀ x,v ≤ x → t x = inL u x) → bE (rest E v) t = sV E d v u
  | 0,v,u,t,hd,ht=>by rw [rest_end hg (by omega)];rfl
  | d + 1,v,u,t,hd,ht=>by
    have hlt : ∀ e ∈ E,e.f0 < e.f1:=fun e he=>(gok_all hg e he).2.1
    have ih:=pairs_same hg hE d (v + 1)
    have hrow : ∀ e ∈ row E v (v + 1),e.f0 = v ∧ v + 1 ≤ e.f1:=fun e he=>by
      have:=(List.mem_filter.1 he).2
      rwa [decide_eq_true_eq] at this
    rw [rest_split hE hlt,sV]
    have hv:=ht v (Int.le_refl _)
    by_cases h : inL u v = true
    · rw [if_pos h,bE_skip _ v t (by rw [hv,h]) _ (fun e he=>(hrow e he).1)]
      exact ih u t (by omega) (fun x hx=>ht x (by omega))
    · rw [if_neg h,bE_row _ v t (by rw [hv];simpa using h) _ (fun e he=>(hrow e he).1),ih u t (by omega) (fun x hx=>ht x (by omega)),sB_row hg hE u v _ d (v + 1) _ (by omega) (by omega)]
      refine rowF_congr _ _ _ _ (fun e he=>?_)
      obtain ⟨h0,h1⟩:=hrow e he
      unfold rowG sG
      rw [ht e.f1 (by omega),ih (u ++ [e.f1]) (fun x=>t x || (x == v || x == e.f1)) (by omega) (fun x hx=>by
        show (t x || (x == v || x == e.f1)) = _
        rw [inL_snoc,ht x (by omega),show (x == v) = false from by simp;omega,Bool.false_or])]
/-- All pairings: the best sums and how many there are. -/
theorem pairs_all {n : Int} {E : List S36} (hg : gok n E = true) : bE E (fun _=>false) = sV E n.toNat 0 []:=by
  have hE : E.Pairwise ltE:=by
    have h:=hg
    unfold gok at h
    rw [Bool.and_eq_true] at h
    exact (edgesOk_pw n E none h.2).2
  have:=pairs_same hg hE n.toNat 0 [] (fun _=>false) (by have:=gok_n hg;omega) (fun x _=>rfl)
  rwa [rest_all hg] at this

/-! Masks of vertices -/
theorem m_hk (n : Int) (h0 : 0 ≤ n) (h1 : n < 2 ^ 9) : IntKind.i64.wrap n = n:=by rw [IntKind.wrap_i64];omega
theorem m_pow : ∀ a : Nat,a < 9 → wrap64 (2 ^ min a 64) = ((2 ^ a : Nat) : Int):=by decide +kernel
theorem m_lt : ∀ a : Nat,a < 9 → 2 ^ a < 2 ^ 9:=by decide
theorem both_nat (e : S36) (h0 : e.f0.toNat < 9) (h1 : e.f1.toNat < 9) : bothM e = ((2 ^ e.f0.toNat ||| 2 ^ e.f1.toNat : Nat) : Int):=by
  unfold bothM
  rw [m_pow _ h0,m_pow _ h1]
  exact (bits_nat .i64 9 (by decide) m_hk _ _ (m_lt _ h0) (m_lt _ h1)).2
theorem m_and0 (M a b : Nat) : (M &&& (2 ^ a ||| 2 ^ b)) = 0 ↔ ¬ (M.testBit a || M.testBit b) = true:=by
  constructor
  · intro h hc
    have ha : (M &&& (2 ^ a ||| 2 ^ b)).testBit a = false:=by rw [h,Nat.zero_testBit]
    have hb : (M &&& (2 ^ a ||| 2 ^ b)).testBit b = false:=by rw [h,Nat.zero_testBit]
    rw [Nat.testBit_and,Nat.testBit_or,Nat.testBit_two_pow_self,Bool.true_or,Bool.and_true] at ha
    rw [Nat.testBit_and,Nat.testBit_or,Nat.testBit_two_pow_self,Bool.or_true,Bool.and_true] at hb
    rw [ha,hb] at hc
    exact absurd hc (by decide)
  · intro h
    apply Nat.eq_of_testBit_eq
    intro i
    rw [Nat.zero_testBit,Nat.testBit_and,Nat.testBit_or,Nat.testBit_two_pow,Nat.testBit_two_pow]
    rw [Bool.or_eq_true,not_or,Bool.not_eq_true,Bool.not_eq_true] at h
    by_cases ea : a = i
    · subst ea;rw [h.1,Bool.false_and]
    · by_cases eb : b = i
      · subst eb;rw [h.2,Bool.false_and]
      · rw [decide_eq_false ea,decide_eq_false eb];simp
def mt (M : Nat) (x : Int) : Bool:=M.testBit x.toNat
theorem mt_zero : mt 0 = fun _=>false:=by funext x;unfold mt;exact Nat.zero_testBit _
theorem mt_or (M : Nat) {a b x : Int} (ha : 0 ≤ a) (hb : 0 ≤ b) (hx : 0 ≤ x) : mt (M ||| (2 ^ a.toNat ||| 2 ^ b.toNat)) x = (mt M x || (x == a || x == b)):=by
  unfold mt
  rw [Nat.testBit_or,Nat.testBit_or,Nat.testBit_two_pow,Nat.testBit_two_pow]
  have e1 : decide (a.toNat = x.toNat) = (x == a):=by
    rw [Bool.eq_iff_iff,decide_eq_true_eq,beq_iff_eq];omega
  have e2 : decide (b.toNat = x.toNat) = (x == b):=by
    rw [Bool.eq_iff_iff,decide_eq_true_eq,beq_iff_eq];omega
  rw [e1,e2]
def smallE (E : List S36) : Prop:=∀ e ∈ E,(0 ≤ e.f0 ∧ e.f0 < 9) ∧ (0 ≤ e.f1 ∧ e.f1 < 9) ∧ (0 ≤ e.f2 ∧ e.f2 ≤ 50) ∧ (0 ≤ e.f3 ∧ e.f3 ≤ 50) ∧ (0 ≤ e.f4 ∧ e.f4 ≤ 50)
/-- A step of the masks: what stands at an edge. -/
theorem m_step {e : S36} {E : List S36} (h : smallE (e :: E)) {M : Nat} (hM : M < 2 ^ 9) : ∃ M' : Nat,M' < 2 ^ 9 ∧ Go.bits .or .i64 (M : Int) (bothM e) = (M' : Int) ∧ (Go.bits .and .i64 (M : Int) (bothM e) = 0 ↔ ¬ (mt M e.f0 || mt M e.f1) = true) ∧ bE E (mt M') = bE E (fun x=>mt M x || (x == e.f0 || x == e.f1)):=by
  obtain ⟨h0,h1,_⟩:=h e (List.mem_cons_self ..)
  have l0 : e.f0.toNat < 9:=by omega
  have l1 : e.f1.toNat < 9:=by omega
  have hB : (2 ^ e.f0.toNat ||| 2 ^ e.f1.toNat) < 2 ^ 9:=Nat.or_lt_two_pow (m_lt _ l0) (m_lt _ l1)
  have hb:=bits_nat .i64 9 (by decide) m_hk M (2 ^ e.f0.toNat ||| 2 ^ e.f1.toNat) hM hB
  refine ⟨M ||| (2 ^ e.f0.toNat ||| 2 ^ e.f1.toNat),Nat.or_lt_two_pow hM hB,?_,?_,?_⟩
  · rw [both_nat e l0 l1];exact hb.2
  · rw [both_nat e l0 l1,hb.1,Int.natCast_eq_zero];exact m_and0 M _ _
  · refine bE_congr E _ _ (fun x hx=>?_)
    obtain ⟨g0,g1,_⟩:=h x (List.mem_cons_of_mem _ hx)
    exact ⟨mt_or M h0.1 h1.1 g0.1,mt_or M h0.1 h1.1 g1.1⟩
theorem smallE_tl {e : S36} {E : List S36} (h : smallE (e :: E)) : smallE E:=fun x hx=>h x (List.mem_cons_of_mem _ hx)
theorem small_gok {n : Int} {E : List S36} (hg : gok n E = true) : smallE E:=fun e he=>by
  have:=gok_all hg e he
  have:=gok_n hg
  omega

theorem sAt_go (n a b : Int) (l : List S36) (hl : l.length ≤ 1048576) : ∀ (d i : Nat),i + d = l.length → Ev (fun k=>spec_l08At.l0 k a b (i : Int) n l) (atE a b i (l.drop i))
  | 0,i,hi=>by
    rw [List.drop_of_length_le (by omega)]
    exact (Ev.now _).to fun k=>by simp only [spec_l08At.l0];rw [if_neg (by omega)];rfl
  | d + 1,i,hi=>by
    have hlt : i < l.length:=by omega
    have ih:=sAt_go n a b l hl d (i + 1) (by omega)
    rw [List.drop_eq_getElem_cons hlt]
    have w2 : qn (wrap64 ((i : Int) + 1) = ((i + 1 : Nat) : Int)):=⟨by rw [wid (by omega) (by omega)];rfl⟩
    unfold atE
    by_cases hc : isE a b l[i]
    · rw [if_pos hc]
      refine (Ev.now _).to fun k=>?_
      simp only [spec_l08At.l0]
      rw [if_pos (by omega),if_pos (by omega),ri_Edge hlt]
      unfold isE at hc
      repeat' split
      all_goals first|rfl|omega
    · rw [if_neg hc]
      refine ih.to fun k=>?_
      simp only [spec_l08At.l0]
      rw [if_pos (by omega),if_pos (by omega),ri_Edge hlt,w2.out]
      unfold isE at hc
      repeat' split
      all_goals first|rfl|omega
theorem sAt (n a b : Int) (l : List S36) (hl : l.length ≤ 1048576) : Ev (fun k=>spec_l08At.f k n l a b) (atE a b 0 l):=by
  unfold spec_l08At.f
  exact sAt_go n a b l hl l.length 0 (by omega)

theorem sl03In_go (l : List Int) (x : Int) (hl : l.length ≤ 100000000) : ∀ (d i : Nat),i + d = l.length → Ev (fun k=>spec_l03In.l0 k l x (i : Int)) (inL (l.drop i) x)
  | 0,i,hi=>by
    rw [List.drop_of_length_le (by omega)]
    exact (Ev.now _).to fun k=>by simp only [spec_l03In.l0];rw [if_neg (by omega)];rfl
  | d + 1,i,hi=>by
    have hlt : i < l.length:=by omega
    have w2 : qn (wrap64 ((i : Int) + 1) = ((i + 1 : Nat) : Int)):=⟨by rw [wid (by omega) (by omega)];rfl⟩
    rw [List.drop_eq_getElem_cons hlt,inL_cons]
    by_cases h : l[i] = x
    · rw [if_pos h]
      refine (Ev.now _).to fun k=>?_
      simp only [spec_l03In.l0]
      rw [if_pos (by omega),if_pos (by omega),rd_at hlt,if_pos h]
    · rw [if_neg h]
      refine (sl03In_go l x hl d (i + 1) (by omega)).to fun k=>?_
      simp only [spec_l03In.l0]
      rw [if_pos (by omega),if_pos (by omega),rd_at hlt,if_neg h,w2.out]
theorem sl03In (l : List Int) (x : Int) (hl : l.length ≤ 100000000) : Ev (fun k=>spec_l03In.f k l x) (inL l x):=by
  unfold spec_l03In.f
  exact sl03In_go l x hl l.length 0 (by omega)

/-! The reference's way through the vertices -/
def okV (b c : Int) (x : V3) : Prop:=(0 ≤ x.1.1 ∧ x.1.1 ≤ b) ∧ (0 ≤ x.1.2.1 ∧ x.1.2.1 ≤ b) ∧ (0 ≤ x.1.2.2 ∧ x.1.2.2 ≤ b) ∧ 0 ≤ x.2 ∧ x.2 ≤ c
theorem okV.le {b c b' c' : Int} {x : V3} (h : okV b c x) (hb : b ≤ b') (hc : c ≤ c') : okV b' c' x:=by unfold okV at *;omega
theorem jn_ok {b c c' : Int} {x y : V3} (hx : okV b c x) (hy : okV b c' y) : okV b (c + c') (jn x y):=by
  unfold jn mx3
  by_cases h : lt3 x.1 y.1
  · rw [if_pos h];unfold okV at *;simp only;omega
  · rw [if_neg h];unfold okV at *;simp only;omega
theorem sh_ok {n : Int} {E : List S36} (hg : gok n E = true) {v i : Int} (h : 0 ≤ atE v i 0 E) {b c : Int} {y : V3} (hy : okV b c y) : okV (b + 50) c (sh (w3 (rd_T36 E (atE v i 0 E))) y):=by
  have:=gok_all hg _ (atE_get h).1
  unfold sh w3 ad3
  unfold okV at *
  simp only
  omega
def F : Nat → Int
  | 0=>1
  | d + 1=>F d + (d : Int) * F d
theorem F_pos : ∀ d,0 ≤ F d
  | 0=>by show (0 : Int) ≤ 1;omega
  | d + 1=>by
    have h:=F_pos d
    have h2:=Int.mul_nonneg (Int.natCast_nonneg d) h
    show 0 ≤ F d + (d : Int) * F d
    omega
theorem F_le : ∀ d : Nat,d ≤ 9 → F d ≤ 362880 ∧ F d + (d : Int) * F d ≤ 3628800:=by decide
theorem sB_ok {n : Int} {E : List S36} (hg : gok n E = true) (u : List Int) (v : Int) (f : List Int → V3) {b c : Int} (hf : ∀ u,okV b c (f u)) : ∀ (m : Nat) (i : Int) (acc : V3) (c0 : Int),okV (b + 50) c0 acc → okV (b + 50) (c0 + (m : Int) * c) (sB E u v f m i acc)
  | 0,i,acc,c0,h=>by
    show okV (b + 50) (c0 + ((0 : Nat) : Int) * c) acc
    rw [show ((0 : Nat) : Int) = 0 from rfl,Int.zero_mul,Int.add_zero];exact h
  | m + 1,i,acc,c0,h=>by
    have hc : 0 ≤ c:=by have:=hf [];unfold okV at this;omega
    have e : c0 + ((m + 1 : Nat) : Int) * c = c0 + c + (m : Int) * c:=by
      rw [Int.natCast_add,Int.add_mul,show ((1 : Nat) : Int) = 1 from rfl,Int.one_mul];omega
    have up:=(sB_ok hg u v f hf m (i + 1) acc c0 h).le (Int.le_refl _) (show c0 + (m : Int) * c ≤ c0 + c + (m : Int) * c by omega)
    rw [e]
    unfold sB
    by_cases h0 : atE v i 0 E < 0
    · rw [if_pos h0];exact up
    · rw [if_neg h0]
      by_cases h1 : inL u i = true
      · rw [if_pos h1];exact up
      · rw [if_neg h1]
        exact sB_ok hg u v f hf m (i + 1) _ (c0 + c) (jn_ok h (sh_ok hg (by omega) (hf _)))
theorem sV_ok {n : Int} {E : List S36} (hg : gok n E = true) : ∀ (d : Nat) (v : Int) (u : List Int),okV (50 * (d : Int)) (F d) (sV E d v u)
  | 0,v,u=>by unfold okV sV F;simp
  | d + 1,v,u=>by
    have ih:=fun u=>sV_ok hg d (v + 1) u
    have hF:=Int.mul_nonneg (Int.natCast_nonneg d) (F_pos d)
    have e : 50 * ((d + 1 : Nat) : Int) = 50 * (d : Int) + 50:=by omega
    rw [e]
    unfold sV
    by_cases h : inL u v = true
    · rw [if_pos h]
      exact (ih u).le (by omega) (show F d ≤ F d + (d : Int) * F d by omega)
    · rw [if_neg h]
      exact sB_ok hg u v _ ih d (v + 1) _ (F d) ((ih u).le (by omega) (Int.le_refl _))
def fl (x : V3) : Int × Int × Int × Int:=(x.1.1,x.1.2.1,x.1.2.2,x.2)
theorem s_better (a0 a1 a2 b0 b1 b2 : Int) : spec_Better.f a0 a1 a2 b0 b1 b2 = some (decide (lt3 (b0,b1,b2) (a0,a1,a2))):=by
  unfold spec_Better.f
  by_cases h0 : a0 = b0
  · rw [if_pos h0]
    by_cases h1 : a1 = b1
    · rw [if_pos h1];congr 1;exact decide_eq_decide.2 (by unfold lt3;simp only;omega)
    · rw [if_neg h1];congr 1;exact decide_eq_decide.2 (by unfold lt3;simp only;omega)
  · rw [if_neg h0];congr 1;exact decide_eq_decide.2 (by unfold lt3;simp only;omega)
theorem atE_lt3 {a b : Int} {l : List S36} (h : 0 ≤ atE a b 0 l) : atE a b 0 l < (l.length : Int):=by
  obtain ⟨h1,_,_⟩:=atE_some a b l 0 h
  omega
theorem sBest_l1 {n : Int} {E : List S36} (hg : gok n E = true) (hE : E.length ≤ 1048576) (d : Nat) (hd9 : d ≤ 9) (v : Int) (u : List Int) (hv : 0 ≤ v) (hu : u.length ≤ 1000) (IH : ∀ u' : List Int,u'.length ≤ u.length + 1 → Ev (fun k=>spec_l09Best.f k n E (v + 1) u') (fl (sV E d (v + 1) u'))) : ∀ (m : Nat) (b : Int) (acc : V3) (c0 : Int),b + m = n → v < b → okV (50 * (d : Int) + 50) c0 acc → c0 + (m : Int) * F d ≤ 10000000 → Ev (fun k=>spec_l09Best.l1 k v u acc.2 b n E acc.1.1 acc.1.2.1 acc.1.2.2) (fl (sB E u v (sV E d (v + 1)) m b acc))
  | 0,b,acc,c0,hm,hb,ha,hc=>by
    refine (Ev.now _).to fun k=>?_
    simp only [spec_l09Best.l1]
    rw [if_neg (by omega)]
    rfl
  | m + 1,b,acc,c0,hm,hb,ha,hc=>by
    have hn:=gok_n hg
    have e : c0 + ((m + 1 : Nat) : Int) * F d = c0 + F d + (m : Int) * F d:=by
      rw [Int.natCast_add,Int.add_mul,show ((1 : Nat) : Int) = 1 from rfl,Int.one_mul];omega
    rw [e] at hc
    have hF:=F_pos d
    have hmF:=Int.mul_nonneg (Int.natCast_nonneg m) hF
    have w1 : qn (wrap64 (b + 1) = b + 1):=⟨wid (by omega) (by omega)⟩
    have w2 : qn (wrap64 (v + 1) = v + 1):=⟨wid (by omega) (by omega)⟩
    have hbn : b < n:=by omega
    have ih:=fun acc' c0'=>sBest_l1 hg hE d hd9 v u hv hu IH m (b + 1) acc' c0' (by omega) (by omega)
    refine Ev.to (f:=fun k=>(spec_l08At.f k n E v b).bind fun t159=>(if t159 < 0 then (spec_l09Best.j3 k v u acc.2 b t159 true n E acc.1.1 acc.1.2.1 acc.1.2.2) else ((spec_l03In.f k u b).bind fun t160=>(spec_l09Best.j3 k v u acc.2 b t159 t160 n E acc.1.1 acc.1.2.1 acc.1.2.2)))) ?_ (fun k=>by simp only [spec_l09Best.l1];rw [if_pos hbn])
    refine (sAt n v b E hE).bind ?_
    unfold sB
    have skip : ∀ t,Ev (fun k=>spec_l09Best.j3 k v u acc.2 b t true n E acc.1.1 acc.1.2.1 acc.1.2.2) (fl (sB E u v (sV E d (v + 1)) m (b + 1) acc)):=fun t =>
      (ih acc c0 ha (by omega)).to fun k=>by simp only [spec_l09Best.j3];rw [if_pos trivial,w1.out]
    by_cases h0 : atE v b 0 E < 0
    · rw [if_pos h0]
      exact Ev.ifp h0 (skip _)
    · rw [if_neg h0]
      refine Ev.ifn h0 ((sl03In u b (by omega)).bind ?_)
      by_cases h1 : inL u b = true
      · rw [if_pos h1,h1];exact skip _
      · rw [if_neg h1,Bool.eq_false_iff.mpr h1]
        have hat : 0 ≤ atE v b 0 E:=by omega
        have hlt:=atE_lt3 hat
        have hX:=sV_ok hg d (v + 1) (u ++ [b])
        have hXs:=sh_ok hg hat hX
        have hJ:=jn_ok ha hXs
        have hA:=IH (u ++ [b]) (by simp)
        have hw:=gok_all hg _ (atE_get hat).1
        have hl1 : ([] : List Int).length + u.length < 17592186044416:=by show 0 + u.length < _;omega
        have hl2 : u.length + [b].length < 17592186044416:=by show u.length + 1 < _;omega
        have hF9:=F_le d hd9
        generalize sV E d (v + 1) (u ++ [b]) = X at *
        generalize atE v b 0 E = t at *
        generalize hz : rd_T36 E t = z at *
        refine Ev.to (f:=fun k=>(spec_l09Best.f k n E (v + 1) (u ++ [b])).bind fun bt173=>(if 0 ≤ t then (if t < (E.length : Int) then ((spec_Better.f (wrap64 (bt173.1 + (z.f2))) (wrap64 (bt173.2.1 + (z.f3))) (wrap64 (bt173.2.2.1 + (z.f4))) acc.1.1 acc.1.2.1 acc.1.2.2).bind fun t180=>(if t180 = true then (spec_l09Best.l1 k v u (wrap64 (acc.2 + bt173.2.2.2)) (b + 1) n E (wrap64 (bt173.1 + (z.f2))) (wrap64 (bt173.2.1 + (z.f3))) (wrap64 (bt173.2.2.1 + (z.f4)))) else (spec_l09Best.l1 k v u (wrap64 (acc.2 + bt173.2.2.2)) (b + 1) n E acc.1.1 acc.1.2.1 acc.1.2.2))) else (none)) else (none))) ?_ (fun k=>by
          simp only [spec_l09Best.j3]
          rw [if_neg (by decide)]
          simp only [Option.bind_some,List.nil_append]
          rw [if_pos hl1,if_pos hl2,w2.out,w1.out,hz])
        refine hA.bind (Ev.ifp hat (Ev.ifp hlt ?_))
        refine (ih (jn acc (sh (w3 z) X)) (c0 + F d) hJ (by omega)).cg (fun k=>?_)
        unfold okV at hX ha
        have e1 : wrap64 (X.1.1 + z.f2) = z.f2 + X.1.1:=by rw [wid (by omega) (by omega)];omega
        have e2 : wrap64 (X.1.2.1 + z.f3) = z.f3 + X.1.2.1:=by rw [wid (by omega) (by omega)];omega
        have e3 : wrap64 (X.1.2.2 + z.f4) = z.f4 + X.1.2.2:=by rw [wid (by omega) (by omega)];omega
        have e4 : wrap64 (acc.2 + X.2) = acc.2 + X.2:=wid (by omega) (by omega)
        unfold fl
        simp only
        rw [e1,e2,e3,e4,s_better,Option.bind_some]
        unfold jn sh mx3
        by_cases hl : lt3 acc.1 (ad3 (w3 z) X.1)
        · rw [if_pos hl]
          exact (if_pos (decide_eq_true hl)).trans rfl
        · rw [if_neg hl]
          exact (if_neg (fun h'=>hl (of_decide_eq_true h'))).trans rfl
theorem sBest {n : Int} {E : List S36} (hg : gok n E = true) (hE : E.length ≤ 1048576) : ∀ (d : Nat) (v : Int) (u : List Int),v + d = n → 0 ≤ v → u.length + d ≤ 1000 → Ev (fun k=>spec_l09Best.f k n E v u) (fl (sV E d v u))
  | 0,v,u,hd,hv,hu=>by
    have st : Ev (fun k=>spec_l09Best.j1 k v u n E) (fl (sV E 0 v u)):=by
      refine (Ev.now _).to fun k=>?_
      simp only [spec_l09Best.j1]
      rw [if_pos (by omega)]
      rfl
    refine Ev.to (f:=fun k=>spec_l09Best.l0 k v u n E) ?_ (fun k=>by simp only [spec_l09Best.f])
    exact st.to fun k=>by simp only [spec_l09Best.l0];rw [if_neg (by omega)]
  | d + 1,v,u,hd,hv,hu=>by
    have hn:=gok_n hg
    have w2 : qn (wrap64 (v + 1) = v + 1):=⟨wid (by omega) (by omega)⟩
    have ih:=fun u' h=>sBest hg hE d (v + 1) u' (by omega) (by omega) h
    have hvn : v < n:=by omega
    refine Ev.to (f:=fun k=>spec_l09Best.l0 k v u n E) ?_ (fun k=>by simp only [spec_l09Best.f])
    refine Ev.to (f:=fun k=>(spec_l03In.f k u v).bind fun t153=>(if t153 = true then (spec_l09Best.l0 k (v + 1) u n E) else (spec_l09Best.j1 k v u n E))) ?_ (fun k=>by simp only [spec_l09Best.l0];rw [if_pos hvn,w2.out])
    refine (sl03In u v (by omega)).bind ?_
    unfold sV
    by_cases h : inL u v = true
    · rw [if_pos h,h]
      refine Ev.ifp rfl ?_
      obtain ⟨k0,hk0⟩:=ih u (by omega)
      exact ⟨k0,fun k hk=>by have:=hk0 (k + 1) (by omega);simp only [spec_l09Best.f] at this;exact this⟩
    · rw [if_neg h,Bool.eq_false_iff.mpr h]
      refine Ev.ifn (by decide) ?_
      refine Ev.to (f:=fun k=>(spec_l09Best.f k n E (v + 1) u).bind fun bt154=>(spec_l09Best.l1 k v u bt154.2.2.2 (v + 1) n E bt154.1 bt154.2.1 bt154.2.2.1)) ?_ (fun k=>by simp only [spec_l09Best.j1];rw [if_neg (by omega),w2.out])
      refine (ih u (by omega)).bind ?_
      have hF:=F_le d (by omega)
      have hF0:=F_pos d
      exact sBest_l1 hg hE d (by omega) v u hv (by omega) (fun u' hu'=>ih u' (by omega)) d (v + 1) (sV E d (v + 1) u) (F d) (by omega) (by omega) ((sV_ok hg d (v + 1) u).le (by omega) (Int.le_refl _)) (by omega)

/-! The best of all pairings -/
theorem better3_lt (s x : Int × Int × Int) : better3 s x = decide (lt3 x s):=by
  obtain ⟨s0,s1,s2⟩:=s
  obtain ⟨x0,x1,x2⟩:=x
  unfold better3
  simp only
  by_cases h0 : s0 = x0
  · rw [if_pos h0]
    by_cases h1 : s1 = x1
    · rw [if_pos h1];exact decide_eq_decide.2 (by unfold lt3;simp only;omega)
    · rw [if_neg h1];exact decide_eq_decide.2 (by unfold lt3;simp only;omega)
  · rw [if_neg h0];exact decide_eq_decide.2 (by unfold lt3;simp only;omega)
theorem bstep_mx3 (s x : Int × Int × Int) : bstep s x = mx3 x s:=by
  unfold bstep mx3
  by_cases h : lt3 x s
  · rw [if_pos h,if_pos (by rw [better3_lt];exact decide_eq_true h)]
  · rw [if_neg h,if_neg (by rw [better3_lt];exact fun h'=>h (of_decide_eq_true h'))]
def sBnd (s : Int × Int × Int) (b : Int) : Prop:=(0 ≤ s.1 ∧ s.1 ≤ b) ∧ (0 ≤ s.2.1 ∧ s.2.1 ≤ b) ∧ (0 ≤ s.2.2 ∧ s.2.2 ≤ b)
theorem evG_best : ∀ (E : List S36),smallE E → ∀ (M : Nat),M < 2 ^ 9 → ∀ (s x : Int × Int × Int) (b : Int),sBnd s b → b + 50 * (E.length : Int) < 4611686018427387904 → evG bstep E (M : Int) s x = mx3 x (ad3 s (bE E (mt M)).1)
  | [],_,M,hM,s,x,b,h0,h1=>by
    show bstep s x = mx3 x (ad3 s (0,0,0))
    rw [bstep_mx3,ad3_zero]
  | e :: E,hE,M,hM,s,x,b,h0,h1=>by
    obtain ⟨M',hM',e1,e2,e3⟩:=m_step hE hM
    obtain ⟨_,_,g2,g3,g4⟩:=hE e (List.mem_cons_self ..)
    rw [List.length_cons] at h1
    unfold evG bE
    rw [e1]
    by_cases c : (mt M e.f0 || mt M e.f1) = true
    · rw [if_neg (fun h=>(e2.1 h) c),if_pos c]
      exact evG_best E (smallE_tl hE) M hM s x b h0 (by omega)
    · rw [if_pos (e2.2 c),if_neg c,← e3]
      have hp : plus3 s e = ad3 s (w3 e):=by
        unfold sBnd at h0
        unfold plus3 ad3 w3
        rw [wid (by omega) (by omega),wid (by omega) (by omega),wid (by omega) (by omega)]
      have hb : sBnd (ad3 s (w3 e)) (b + 50):=by
        unfold sBnd at h0 ⊢
        unfold ad3 w3
        simp only
        omega
      rw [evG_best E (smallE_tl hE) M hM s x b h0 (by omega),hp,evG_best E (smallE_tl hE) M' hM' _ _ (b + 50) hb (by omega)]
      show mx3 (mx3 x (ad3 s (bE E (mt M)).1)) (ad3 (ad3 s (w3 e)) (bE E (mt M')).1) = mx3 x (ad3 s (mx3 (bE E (mt M)).1 (ad3 (w3 e) (bE E (mt M')).1)))
      rw [ad3_mx3,mx3_assoc,ad3_assoc]
theorem mx3_zero {S : Int × Int × Int} (h0 : 0 ≤ S.1) (h1 : 0 ≤ S.2.1) (h2 : 0 ≤ S.2.2) : mx3 (0,0,0) S = S:=by
  unfold mx3
  by_cases h : lt3 (0,0,0) S
  · rw [if_pos h]
  · rw [if_neg h]
    obtain ⟨a,b,c⟩:=S
    unfold lt3 at h
    simp only at h h0 h1 h2
    rw [show a = 0 by omega,show b = 0 by omega,show c = 0 by omega]
theorem ad3_zl (S : Int × Int × Int) : ad3 (0,0,0) S = S:=by unfold ad3;simp
def bestOf (n : Int) (E : List S36) : Int × Int × Int × Bool:=if gok n E = true then ((sV E n.toNat 0 []).1.1,(sV E n.toNat 0 []).1.2.1,(sV E n.toNat 0 []).1.2.2,true) else (0,0,0,false)
theorem bestOf_t {n : Int} {E : List S36} (h : gok n E = true) : bestOf n E = ((sV E n.toNat 0 []).1.1,(sV E n.toNat 0 []).1.2.1,(sV E n.toNat 0 []).1.2.2,true):=by unfold bestOf;rw [if_pos h]
theorem bestOf_f {n : Int} {E : List S36} (h : ¬ gok n E = true) : bestOf n E = (0,0,0,false):=by unfold bestOf;rw [if_neg h]
theorem sBestSums (n : Int) (E : List S36) (hE : E.length ≤ 1048576) : Ev (fun k=>spec_BestSums.f k n E) (bestOf n E):=by
  unfold spec_BestSums.f
  refine (sGraphOk n E hE).bind ?_
  by_cases h : gok n E = true
  · have hn:=gok_n h
    rw [bestOf_t h]
    exact Ev.ifp h ((sBest h hE n.toNat 0 [] (by omega) (by omega) (by show 0 + n.toNat ≤ 1000;omega)).bind (Ev.now _))
  · rw [bestOf_f h];exact Ev.ifn h (Ev.now _)
theorem iBestSums (n : Int) (E : List S36) (hE : E.length ≤ 1048576) : Ev (fun k=>impl_BestSums.f k n E) (bestOf n E):=by
  unfold impl_BestSums.f
  refine (iGraphOk n E hE).bind ?_
  by_cases h : gok n E = true
  · have hn:=gok_n h
    rw [bestOf_t h]
    have hnn : edgesNN E = true:=by
      unfold edgesNN
      rw [List.all_eq_true]
      intro e he
      have:=gok_all h e he
      rw [Bool.and_eq_true,decide_eq_true_eq,decide_eq_true_eq]
      omega
    refine Ev.ifp h (Ev.ifp hnn (Ev.ifp (by omega) ?_))
    have hb:=sV_ok h n.toNat 0 []
    unfold okV at hb
    have e:=evG_best E (small_gok h) 0 (by decide) (0,0,0) (0,0,0) 0 (by unfold sBnd;simp) (by omega)
    rw [mt_zero,pairs_all h,ad3_zl,mx3_zero hb.1.1 hb.2.1.1 hb.2.2.1.1] at e
    rw [show ((0 : Nat) : Int) = 0 from rfl] at e
    rw [e]
    exact Ev.now _
  · rw [bestOf_f h];exact Ev.ifn h (Ev.now _)

theorem eqSumsS (a b c : Int) : laws_eqSums.f a b c a b c = some true:=by
  unfold laws_eqSums.f
  rw [if_pos rfl,if_pos rfl,if_pos rfl]
theorem FnExactBestSums : laws_FnExactBestSums.Pure:=by
  intro n l _ hl
  refine Ev.rounds (g:=fun k=>laws_FnExactBestSums.f k n l) ?_
  unfold laws_FnExactBestSums.f
  obtain ⟨r,hr,hc⟩:=szGraph n l hl.1 1048576 (by decide) (by decide)
  rw [hr]
  simp only [Option.bind_some]
  by_cases h : r < 0
  · exact Ev.ifp h (Ev.now _)
  · refine Ev.ifn h ?_
    have hll:=(hc.resolve_left h).2
    have hm : (l.map cvEdge).length ≤ 1048576:=by rw [List.length_map];exact hll
    refine (toGraph n l hll).bind ((sBestSums n _ hm).bind ((toGraph n l hll).bind ((iBestSums n _ hm).bind ?_)))
    refine Ev.cg (f:=fun k=>laws_FnExactBestSums.j0 k false n l n (l.map cvEdge)) ?_ (fun k=>by rw [eqSumsS,Option.bind_some,if_pos rfl,bne_rfl_bool])
    refine Ev.to (f:=fun k=>(laws_toGraph.f k n l).bind fun bt=>(laws_eqGraph.f k n (l.map cvEdge) bt.1 bt.2).bind fun t=>if t = true then some true else some false) ?_ (fun k=>by simp only [laws_FnExactBestSums.j0];rw [if_neg (by decide)])
    exact (toGraph n l hll).bind ((eqGraph n _ (by omega)).bind (Ev.ifp rfl (Ev.now _)))

end Go.Proofs.Ytfmemcffbfahhaa.Pure
