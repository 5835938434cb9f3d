/- The program's Induced and the reference's Induced return the same graph and flag, for every graph and all vertices; the arguments stay as they were, the answer owns its memory. -/
import Derived.Test.YtbonjmnpcklciaaZFnExactInducedx8
import Derived.Laws.BitsAllLaws
namespace Go.Proofs.Ytbonjmnpcklciaa.Pure
open Go.RowKit Go.Proofs.Ytbonjmnpcklciaa.QFnExactInduced Go.Proofs.YtbonjmnpcklciaaW.PrintWords Go.Proofs.YtbonjmnpcklciaaW.PrintLast
set_option linter.unusedVariables false
set_option linter.unusedSimpArgs false
set_option maxHeartbeats 4000000

def laws_FnExactInduced.Pure : Prop:=∀ (a0_0 : Int) (l0_1 : List (S187)) (l1 : List (Int)),((Lit.int .i64 a0_0).wf = true) → (l0_1.length ≤ 9223372036854775807 ∧ ∀ x1 ∈ l0_1,((Lit.int .i64 x1.f0).wf = true) ∧ ((Lit.int .i64 x1.f1).wf = true) ∧ ((Lit.int .i64 x1.f2).wf = true) ∧ ((Lit.int .i64 x1.f3).wf = true) ∧ ((Lit.int .i64 x1.f4).wf = true)) → (l1.length ≤ 9223372036854775807 ∧ ∀ x1 ∈ l1,(Lit.int .i64 x1).wf = true) → ∃ k,laws_FnExactInduced.f k a0_0 l0_1 l1 = some true

theorem wid {n : Int} (h0 : -9223372036854775808 ≤ n) (h1 : n < 9223372036854775808) : wrap64 n = n:=by unfold wrap64;omega
theorem _root_.Go.Proofs.YtbonjmnpcklciaaW.PrintWords.Ev.ofEq {α : Type} {g : Nat → Option α} {r q : α} (h : Ev g r) (e : r = q) : Ev g q:=e ▸ h
theorem _root_.Go.Proofs.YtbonjmnpcklciaaW.PrintWords.Ev.same {α : Type} {o : Option α} {r : α} (h : o = some r) : Ev (fun _=>o) r:=⟨0,fun _ _=>h⟩
theorem _root_.Go.Proofs.YtbonjmnpcklciaaW.PrintWords.Ev.to {α : Type} {g f : Nat → Option α} {r : α} (k : Ev f r) (h : ∀ k,g (k + 1) = f k) : Ev g r:=Ev.step h k
theorem _root_.Go.Proofs.YtbonjmnpcklciaaW.PrintWords.Ev.ifp {α : Type} {c : Prop} [Decidable c] {g f : Nat → Option α} {r : α} (h : c) (e : Ev g r) : Ev (fun k=>if c then g k else f k) r:=by simp only [if_pos h];exact e
theorem _root_.Go.Proofs.YtbonjmnpcklciaaW.PrintWords.Ev.ifn {α : Type} {c : Prop} [Decidable c] {g f : Nat → Option α} {r : α} (h : ¬ c) (e : Ev f r) : Ev (fun k=>if c then g k else f k) r:=by simp only [if_neg h];exact e
def Byt (xs : List Int) : Prop:=∀ x ∈ xs,0 ≤ x ∧ x < 256
theorem Byt.nil : Byt []:=fun _ h=>by simp at h
theorem Byt.cons {x : Int} {xs : List Int} (h : 0 ≤ x ∧ x < 256) (h' : Byt xs) : Byt (x :: xs):=fun y hy=>by
  rcases List.mem_cons.1 hy with rfl|hy
  · exact h
  · exact h' y hy
theorem Byt.head {x : Int} {xs : List Int} (h : Byt (x :: xs)) : 0 ≤ x ∧ x < 256:=h x (List.mem_cons_self ..)
theorem Byt.drop {xs : List Int} (h : Byt xs) (n : Nat) : Byt (xs.drop n):=fun y hy=>h y (List.mem_of_mem_drop hy)
theorem Byt.take {xs : List Int} (h : Byt xs) (n : Nat) : Byt (xs.take n):=fun y hy=>h y (List.mem_of_mem_take hy)
theorem bne_rfl_bool (b : Bool) : (b != b) = false:=by cases b <;> rfl
theorem Byt.one {x : Int} (h : 0 ≤ x ∧ x < 256) : Byt [x]:=Byt.nil.cons h
theorem set_take {α : Type} (xs : List α) {i : Nat} (v : α) (h : i < xs.length) : (xs.set i v).take (i + 1) = xs.take i ++ [v]:=by
  rw [List.take_succ_eq_append_getElem (by rw [List.length_set];exact h),List.getElem_set_self,List.take_set_of_le (Nat.le_refl _)]
theorem take_set_drop {α : Type} (xs : List α) {i : Nat} (v : α) (h : i < xs.length) : (xs.set i v).drop (i + 1) = xs.drop (i + 1):=by
  rw [List.drop_set_of_lt (by omega)]
theorem getD_at {α : Type} {xs : List α} {i : Nat} (z : α) (h : i < xs.length) : xs.getD ((i : Int)).toNat z = xs[i]:=by
  rw [Int.toNat_natCast,List.getD_eq_getElem?_getD,List.getElem?_eq_getElem h];rfl
theorem rd_at {xs : List Int} {i : Nat} (h : i < xs.length) : rd xs (i : Int) = xs[i]:=getD_at 0 h
theorem rl_Edge {xs : List S187} {i : Nat} (h : i < xs.length) : rd_T187 xs (i : Int) = xs[i]:=getD_at _ h

def cvEdge (x : S187) : S148:=⟨x.f0,x.f1,x.f2,x.f3,x.f4⟩
theorem toEdgeS_go (x0 : List S187) (hl : x0.length ≤ 1048576) : ∀ (d i : Nat) (x3 : List S148),i + d = x0.length → x3.length = x0.length → Ev (fun k=>laws_toEdgeS.l0 k x0 x3 (i : Int)) (x3.take i ++ (x0.drop i).map cvEdge)
  | 0,i,x3,hi,h3=>by
    rw [List.drop_of_length_le (by omega),List.take_of_length_le (by omega),List.map_nil,List.append_nil]
    refine (Ev.now _).to fun k=>?_
    simp only [laws_toEdgeS.l0]
    rw [if_neg (by omega)]
  | d + 1,i,x3,hi,h3=>by
    have hlt : i < x0.length:=by omega
    have ih:=toEdgeS_go x0 hl d (i + 1) (x3.set i (cvEdge x0[i])) (by omega) (by rw [List.length_set];omega)
    rw [set_take _ _ (by omega),List.append_assoc] at ih
    rw [List.drop_eq_getElem_cons hlt,List.map_cons]
    refine ih.to fun k=>?_
    simp only [laws_toEdgeS.l0]
    rw [if_pos (by omega),if_pos (by omega),rl_Edge hlt]
    simp only [laws_toEdge.f,Option.bind_some]
    rw [if_pos (by omega),wid (by omega) (by omega)]
    rfl
theorem toEdgeS (x0 : List S187) (hl : x0.length ≤ 1048576) : Ev (fun k=>laws_toEdgeS.f k x0) (x0.map cvEdge):=by
  unfold laws_toEdgeS.f
  refine Ev.ifp (by omega) (Ev.ifp (by rw [Int.toNat_natCast];omega) ?_)
  have:=toEdgeS_go x0 hl x0.length 0 (List.replicate ((x0.length : Int) : Int).toNat z148) (by omega) (by rw [List.length_replicate,Int.toNat_natCast])
  simpa using this

theorem ri_Edge {xs : List S148} {i : Nat} (h : i < xs.length) : rd_T148 xs (i : Int) = xs[i]:=getD_at _ h

theorem eqEdge_self (x : S148) : laws_eqEdge.f x.f0 x.f1 x.f2 x.f3 x.f4 x.f0 x.f1 x.f2 x.f3 x.f4 = some true:=by unfold laws_eqEdge.f;simp
theorem eqEdgeS_go (x0 : List S148) (hl : x0.length ≤ 100000000) : ∀ (d i : Nat),i + d = x0.length → Ev (fun k=>laws_eqEdgeS.l0 k x0 x0 (i : Int)) true
  | 0,i,hi=>(Ev.now _).to fun k=>by simp only [laws_eqEdgeS.l0];rw [if_neg (by omega)]
  | d + 1,i,hi=>by
    refine (eqEdgeS_go x0 hl d (i + 1) (by omega)).to fun k=>?_
    simp only [laws_eqEdgeS.l0]
    rw [if_pos (by omega),if_pos (by omega),if_pos (by omega),eqEdge_self]
    simp only [Option.bind_some,if_true]
    rw [wid (by omega) (by omega)]
    rfl
theorem eqEdgeS (x0 : List S148) (hl : x0.length ≤ 100000000) : Ev (fun k=>laws_eqEdgeS.f k x0 x0) true:=by
  unfold laws_eqEdgeS.f
  exact Ev.ifp rfl (eqEdgeS_go x0 hl x0.length 0 (by omega))

theorem szEdgeS (x0 : List S187) (hl : x0.length ≤ 9223372036854775807) (m : Int) (h0 : 0 ≤ m) (h1 : m ≤ 1048576) : ∃ r,laws_szEdgeS.f x0 m = some r ∧ (r < 0 ∨ (r ≤ m ∧ x0.length ≤ 1048576)):=by
  unfold laws_szEdgeS.f
  have w : wrap64 (m - (x0.length : Int)) = m - x0.length:=wid (by omega) (by omega)
  rw [w];clear w
  by_cases hn : m - (x0.length : Int) < 0
  · exact ⟨-1,by rw [if_pos hn],.inl (by omega)⟩
  · exact ⟨_,by rw [if_neg hn],.inr ⟨by omega,by omega⟩⟩

theorem szGraph (n : Int) (l : List S187) (hl : l.length ≤ 9223372036854775807) (m : Int) (h0 : 0 ≤ m) (h1 : m ≤ 1048576) : ∃ r,laws_szGraph.f n l m = some r ∧ (r < 0 ∨ (r ≤ m ∧ l.length ≤ 1048576)):=by
  unfold laws_szGraph.f
  obtain ⟨r,hr,hc⟩:=szEdgeS l hl m h0 h1
  rw [hr]
  simp only [Option.bind_some]
  by_cases h : r < 0
  · exact ⟨-1,by rw [if_pos h],.inl (by omega)⟩
  · exact ⟨r,by rw [if_neg h],hc⟩
theorem toGraph (n : Int) (l : List S187) (hl : l.length ≤ 1048576) : Ev (fun k=>laws_toGraph.f k n l) (n,l.map cvEdge):=by
  unfold laws_toGraph.f
  exact (toEdgeS l hl).bind (Ev.now _)
theorem eqGraph (n : Int) (l : List S148) (hl : l.length ≤ 100000000) : Ev (fun k=>laws_eqGraph.f k n l n l) true:=by
  unfold laws_eqGraph.f
  refine Ev.ifp rfl ((eqEdgeS l hl).bind ?_)
  simp only [if_true]
  exact Ev.now _

def mkEdge : Int → List S148 → List S148
  | _,[]=>[]
  | m,_ :: l=>⟨m,m + 1,m + 2,m + 3,m + 4⟩ :: mkEdge (m + 5) l
theorem mkEdge_len : ∀ (l : List S148) (m : Int),(mkEdge m l).length = l.length
  | [],_=>rfl
  | _ :: l,m=>by simp only [mkEdge,List.length_cons,mkEdge_len l]
theorem ri_set_Edge {xs : List S148} {i : Nat} (v : S148) (h : i < xs.length) : rd_T148 (xs.set i v) (i : Int) = v:=by
  rw [ri_Edge (by rw [List.length_set];exact h),List.getElem_set_self]
theorem markEdgeS_go : ∀ (d i : Nat) (x0 : List S148) (m : Int),i + d = x0.length → x0.length ≤ 100000000 → 0 ≤ m → m + 5 * d ≤ 10000000000 → Ev (fun k=>laws_markEdgeS.l0 k x0 m (i : Int)) (m + 5 * d,x0.take i ++ mkEdge m (x0.drop i))
  | 0,i,x0,m,hi,hl,h0,h1=>by
    rw [List.drop_of_length_le (by omega),List.take_of_length_le (by omega)]
    refine Ev.ofEq ((Ev.now (m,x0)).to fun k=>?_) (by simp [mkEdge])
    simp only [laws_markEdgeS.l0];rw [if_neg (by omega)]
  | d + 1,i,x0,m,hi,hl,h0,h1=>by
    have hlt : i < x0.length:=by omega
    have ih:=markEdgeS_go d (i + 1) (x0.set i ⟨m,m + 1,m + 2,m + 3,m + 4⟩) (m + 5) (by rw [List.length_set];omega) (by rw [List.length_set];omega) (by omega) (by omega)
    rw [set_take _ _ hlt,take_set_drop _ _ hlt,List.append_assoc] at ih
    rw [List.drop_eq_getElem_cons hlt,mkEdge]
    have e : ((m + 5) + 5 * (d : Int),x0.take i ++ ([⟨m,m + 1,m + 2,m + 3,m + 4⟩] ++ mkEdge (m + 5) (x0.drop (i + 1)))) = (m + 5 * ((d + 1 : Nat) : Int),x0.take i ++ ⟨m,m + 1,m + 2,m + 3,m + 4⟩ :: mkEdge (m + 5) (x0.drop (i + 1))):=by
      rw [List.singleton_append];congr 1;omega
    rw [e] at ih
    refine Ev.to (f:=fun k=>laws_markEdgeS.l0 k (x0.set i ⟨m,m + 1,m + 2,m + 3,m + 4⟩) (m + 5) ((i + 1 : Nat) : Int)) (r:=(m + 5 * ((d + 1 : Nat) : Int),x0.take i ++ ⟨m,m + 1,m + 2,m + 3,m + 4⟩ :: mkEdge (m + 5) (x0.drop (i + 1)))) ?_ fun k=>?_
    · skip
      exact ih
    have w0 : wrap64 (m + 1) = m + 1:=wid (by omega) (by omega)
    have w1 : wrap64 (m + 1 + 1) = m + 2:=by rw [wid (by omega) (by omega)];omega
    have w2 : wrap64 (m + 2 + 1) = m + 3:=by rw [wid (by omega) (by omega)];omega
    have w3 : wrap64 (m + 3 + 1) = m + 4:=by rw [wid (by omega) (by omega)];omega
    have w4 : wrap64 (m + 4 + 1) = m + 5:=by rw [wid (by omega) (by omega)];omega
    have w_ : wrap64 ((i : Int) + 1) = ((i + 1 : Nat) : Int):=by rw [wid (by omega) (by omega)];rfl
    simp only [laws_markEdgeS.l0,w0,w1,w2,w3,w4,w_,Int.toNat_natCast,Option.bind_some,ri_Edge hlt,ri_set_Edge _ hlt,List.set_set,if_pos (show (i : Int) < (x0.length : Int) by omega),if_pos (show (0 : Int) ≤ (i : Int) by omega)]
theorem markEdgeS (x0 : List S148) (m : Int) (hl : x0.length ≤ 100000000) (h0 : 0 ≤ m) (h1 : m ≤ 1000000000) : Ev (fun k=>laws_markEdgeS.f k x0 m) (m + 5 * x0.length,mkEdge m x0):=by
  unfold laws_markEdgeS.f
  have:=markEdgeS_go x0.length 0 x0 m (by omega) hl h0 (by omega)
  simpa using this

theorem heldEdgeS_go (z : List S148) (hl : z.length ≤ 100000000) : ∀ (d i : Nat) (l : List S148) (m : Int),l.length = d → i + d = z.length → z.drop i = mkEdge m l → 0 ≤ m → m + 5 * d ≤ 10000000000 → Ev (fun k=>laws_heldEdgeS.l0 k z m (i : Int)) (m + 5 * d)
  | 0,i,l,m,hd,hi,hz,h0,h1=>by
    refine Ev.ofEq ((Ev.now m).to fun k=>?_) (by omega)
    simp only [laws_heldEdgeS.l0];rw [if_neg (by omega)]
  | d + 1,i,[],m,hd,hi,hz,h0,h1=>by simp at hd
  | d + 1,i,x :: l,m,hd,hi,hz,h0,h1=>by
    have hlt : i < z.length:=by omega
    rw [List.drop_eq_getElem_cons hlt,mkEdge,List.cons.injEq] at hz
    have ih:=heldEdgeS_go z hl d (i + 1) l (m + 5) (by simpa using hd) (by omega) hz.2 (by omega) (by omega)
    refine Ev.ofEq (r:=m + 5 + 5 * d) ?_ (by omega)
    refine Ev.to (f:=fun k=>if z[i].f0 = m then if z[i].f1 = m + 1 then if z[i].f2 = m + 2 then if z[i].f3 = m + 3 then if z[i].f4 = m + 4 then laws_heldEdgeS.l0 k z (m + 5) ((i + 1 : Nat) : Int) else some (-1) else some (-1) else some (-1) else some (-1) else some (-1)) (r:=m + 5 + 5 * d) ?_ fun k=>?_
    · skip
      refine Ev.ifp (by rw [hz.1]) ?_
      refine Ev.ifp (by rw [hz.1]) ?_
      refine Ev.ifp (by rw [hz.1]) ?_
      refine Ev.ifp (by rw [hz.1]) ?_
      refine Ev.ifp (by rw [hz.1]) ?_
      exact ih
    have w0 : wrap64 (m + 1) = m + 1:=wid (by omega) (by omega)
    have w1 : wrap64 (m + 1 + 1) = m + 2:=by rw [wid (by omega) (by omega)];omega
    have w2 : wrap64 (m + 2 + 1) = m + 3:=by rw [wid (by omega) (by omega)];omega
    have w3 : wrap64 (m + 3 + 1) = m + 4:=by rw [wid (by omega) (by omega)];omega
    have w4 : wrap64 (m + 4 + 1) = m + 5:=by rw [wid (by omega) (by omega)];omega
    have w_ : wrap64 ((i : Int) + 1) = ((i + 1 : Nat) : Int):=by rw [wid (by omega) (by omega)];rfl
    simp only [laws_heldEdgeS.l0,w0,w1,w2,w3,w4,w_,ri_Edge hlt]
    clear w_ w0 w1 w2 w3 w4
    rw [if_pos (by omega),if_pos (by omega)]
theorem heldEdgeS (l : List S148) (m : Int) (hl : l.length ≤ 100000000) (h0 : 0 ≤ m) (h1 : m ≤ 1000000000) : Ev (fun k=>laws_heldEdgeS.f k (mkEdge m l) m) (m + 5 * l.length):=by
  unfold laws_heldEdgeS.f
  exact heldEdgeS_go (mkEdge m l) (by rw [mkEdge_len];exact hl) l.length 0 l m rfl (by rw [mkEdge_len];omega) (by simp) h0 (by omega)

theorem markGraph (n : Int) (l : List S148) (hl : l.length ≤ 1048576) : Ev (fun k=>laws_markGraph.f k n l 1) (1 + 5 * l.length,mkEdge 1 l):=by
  unfold laws_markGraph.f
  exact (markEdgeS l 1 (by omega) (by omega) (by omega)).bind (Ev.now _)
theorem heldGraph (n : Int) (l : List S148) (hl : l.length ≤ 1048576) : Ev (fun k=>laws_heldGraph.f k n (mkEdge 1 l) 1) (1 + 5 * l.length):=by
  unfold laws_heldGraph.f
  exact (heldEdgeS l 1 (by omega) (by omega) (by omega)).bind (Ev.ifn (by omega) (Ev.now _))

theorem toIntS_go (x0 : List Int) (hl : x0.length ≤ 1048576) : ∀ (d i : Nat) (x3 : List Int),i + d = x0.length → x3.length = x0.length → Ev (fun k=>laws_toIntS.l0 k x0 x3 (i : Int)) (x3.take i ++ x0.drop i)
  | 0,i,x3,hi,h3=>by
    rw [List.drop_of_length_le (by omega),List.take_of_length_le (by omega),List.append_nil]
    refine (Ev.now _).to fun k=>?_
    simp only [laws_toIntS.l0]
    rw [if_neg (by omega)]
  | d + 1,i,x3,hi,h3=>by
    have hlt : i < x0.length:=by omega
    have ih:=toIntS_go x0 hl d (i + 1) (x3.set i x0[i]) (by omega) (by rw [List.length_set];omega)
    rw [set_take _ _ (by omega),List.append_assoc] at ih
    rw [List.drop_eq_getElem_cons hlt]
    refine ih.to fun k=>?_
    simp only [laws_toIntS.l0]
    rw [if_pos (by omega),if_pos (by omega),if_pos (by omega),rd_at hlt,wid (by omega) (by omega)]
    rfl
theorem toIntS (x0 : List Int) (hl : x0.length ≤ 1048576) : Ev (fun k=>laws_toIntS.f k x0) x0:=by
  unfold laws_toIntS.f
  refine Ev.ifp (by omega) (Ev.ifp (by rw [Int.toNat_natCast];omega) ?_)
  have:=toIntS_go x0 hl x0.length 0 (List.replicate ((x0.length : Int) : Int).toNat 0) (by omega) (by rw [List.length_replicate,Int.toNat_natCast])
  simpa using this

theorem eqIntS_go (x0 : List Int) (hl : x0.length ≤ 100000000) : ∀ (d i : Nat),i + d = x0.length → Ev (fun k=>laws_eqIntS.l0 k x0 x0 (i : Int)) true
  | 0,i,hi=>(Ev.now _).to fun k=>by simp only [laws_eqIntS.l0];rw [if_neg (by omega)]
  | d + 1,i,hi=>by
    refine (eqIntS_go x0 hl d (i + 1) (by omega)).to fun k=>?_
    simp only [laws_eqIntS.l0,if_true]
    rw [if_pos (by omega),if_pos (by omega),if_pos (by omega),wid (by omega) (by omega)]
    rfl
theorem eqIntS (x0 : List Int) (hl : x0.length ≤ 100000000) : Ev (fun k=>laws_eqIntS.f k x0 x0) true:=by
  unfold laws_eqIntS.f
  exact Ev.ifp rfl (eqIntS_go x0 hl x0.length 0 (by omega))

def mkI : Int → List Int → List Int
  | _,[]=>[]
  | m,_ :: l=>m :: mkI (m + 1) l
theorem markIntS_go : ∀ (d i : Nat) (x0 : List Int) (m : Int),i + d = x0.length → x0.length ≤ 100000000 → 0 ≤ m → m + d ≤ 10000000000 → Ev (fun k=>laws_markIntS.l0 k x0 m (i : Int)) (m + d,x0.take i ++ mkI m (x0.drop i))
  | 0,i,x0,m,hi,hl,h0,h1=>by
    rw [List.drop_of_length_le (by omega),List.take_of_length_le (by omega)]
    refine Ev.ofEq ((Ev.now (m,x0)).to fun k=>?_) (by simp [mkI])
    simp only [laws_markIntS.l0];rw [if_neg (by omega)]
  | d + 1,i,x0,m,hi,hl,h0,h1=>by
    have hlt : i < x0.length:=by omega
    have ih:=markIntS_go d (i + 1) (x0.set i m) (m + 1) (by rw [List.length_set];omega) (by rw [List.length_set];omega) (by omega) (by omega)
    rw [set_take _ _ hlt,take_set_drop _ _ hlt,List.append_assoc] at ih
    rw [List.drop_eq_getElem_cons hlt,mkI]
    have e : ((m + 1) + (d : Int),x0.take i ++ ([m] ++ mkI (m + 1) (x0.drop (i + 1)))) = (m + ((d + 1 : Nat) : Int),x0.take i ++ m :: mkI (m + 1) (x0.drop (i + 1))):=by
      rw [List.singleton_append];congr 1;omega
    rw [e] at ih
    refine ih.to fun k=>?_
    have w1 : wrap64 (m + 1) = m + 1:=wid (by omega) (by omega)
    have w2 : wrap64 ((i : Int) + 1) = ((i + 1 : Nat) : Int):=by rw [wid (by omega) (by omega)];rfl
    simp only [laws_markIntS.l0,w1,w2,Int.toNat_natCast,if_pos (show (0 : Int) ≤ (i : Int) by omega),if_pos (show (i : Int) < x0.length by omega)]
theorem markIntS (x0 : List Int) (m : Int) (hl : x0.length ≤ 100000000) (h0 : 0 ≤ m) (h1 : m ≤ 1000000000) : Ev (fun k=>laws_markIntS.f k x0 m) (m + x0.length,mkI m x0):=by
  unfold laws_markIntS.f
  have:=markIntS_go x0.length 0 x0 m (by omega) hl h0 (by omega)
  simpa using this

/-! Right graphs -/
def edgeOk (n : Int) (e : S148) : Bool:=decide (0 ≤ e.f0 ∧ e.f0 < e.f1 ∧ e.f1 < n ∧ (0 ≤ e.f2 ∧ e.f2 ≤ 50) ∧ (0 ≤ e.f3 ∧ e.f3 ≤ 50) ∧ (0 ≤ e.f4 ∧ e.f4 ≤ 50))
def edgeLt (p e : S148) : Bool:=decide (p.f0 < e.f0 ∨ p.f0 = e.f0 ∧ p.f1 < e.f1)
def edgesOk (n : Int) : Option S148 → List S148 → Bool
  | _,[]=>true
  | none,e :: l=>edgeOk n e && edgesOk n (some e) l
  | some p,e :: l=>edgeOk n e && (edgeLt p e && edgesOk n (some e) l)
def gok (n : Int) (l : List S148) : Bool:=decide (0 ≤ n ∧ n ≤ 9) && edgesOk n none l
def prevE (l : List S148) : Nat → Option S148
  | 0=>none
  | i + 1=>l[i]?
theorem prevE_succ {l : List S148} {i : Nat} (h : i < l.length) : prevE l (i + 1) = some l[i]:=List.getElem?_eq_getElem h

def isE (a b : Int) (e : S148) : Prop:=e.f0 = a ∧ e.f1 = b ∨ e.f0 = b ∧ e.f1 = a
instance (a b : Int) (e : S148) : Decidable (isE a b e):=inferInstanceAs (Decidable (_ ∨ _))
def atE (a b : Int) : Nat → List S148 → Int
  | _,[]=>-1
  | i,e :: l=>if isE a b e then (i : Int) else atE a b (i + 1) l

theorem edgesOk_all (n : Int) : ∀ (l : List S148) (p : Option S148),edgesOk n p l = true → ∀ e ∈ l,edgeOk n e = true
  | [],_,_,e,h=>by simp at h
  | x :: l,p,h,e,he=>by
    have hx : edgeOk n x = true ∧ edgesOk n (some x) l = true:=by
      cases p <;> simp only [edgesOk,Bool.and_eq_true] at h
      · exact h
      · exact ⟨h.1,h.2.2⟩
    rcases List.mem_cons.1 he with rfl|he
    · exact hx.1
    · exact edgesOk_all n l _ hx.2 e he
theorem gok_n {n : Int} {l : List S148} (h : gok n l = true) : 0 ≤ n ∧ n ≤ 9:=by
  unfold gok at h
  rw [Bool.and_eq_true,decide_eq_true_eq] at h
  exact h.1
theorem gok_all {n : Int} {l : List S148} (h : gok n l = true) : ∀ e ∈ l,0 ≤ e.f0 ∧ e.f0 < e.f1 ∧ e.f1 < n ∧ (0 ≤ e.f2 ∧ e.f2 ≤ 50) ∧ (0 ≤ e.f3 ∧ e.f3 ≤ 50) ∧ (0 ≤ e.f4 ∧ e.f4 ≤ 50):=by
  unfold gok at h
  rw [Bool.and_eq_true] at h
  intro e he
  have:=edgesOk_all n l none h.2 e he
  unfold edgeOk at this
  rwa [decide_eq_true_eq] at this
theorem atE_some (a b : Int) : ∀ (l : List S148) (i : Nat),0 ≤ atE a b i l → ∃ (h : ((atE a b i l).toNat - i) < l.length),(i : Int) ≤ atE a b i l ∧ isE a b l[(atE a b i l).toNat - i]
  | [],i,h=>by simp [atE] at h
  | e :: l,i,h=>by
    unfold atE at h ⊢
    by_cases hc : isE a b e
    · simp only [if_pos hc]
      have e0 : ((i : Int)).toNat - i = 0:=by omega
      refine ⟨by rw [e0];simp,by omega,?_⟩
      simp only [e0,List.getElem_cons_zero]
      exact hc
    · simp only [if_neg hc] at h ⊢
      obtain ⟨h1,h2,h3⟩:=atE_some a b l (i + 1) h
      have e1 : (atE a b (i + 1) l).toNat - i = ((atE a b (i + 1) l).toNat - (i + 1)) + 1:=by omega
      refine ⟨by rw [e1];simp;exact h1,by omega,?_⟩
      simp only [e1,List.getElem_cons_succ]
      exact h3
/-! Induced graphs: both ways give the same edges -/
theorem sorted_ext {α : Type} {lt : α → α → Prop} (irr : ∀ a,¬ lt a a) (asy : ∀ a b,lt a b → ¬ lt b a) : ∀ (l m : List α),l.Pairwise lt → m.Pairwise lt → (∀ x,x ∈ l ↔ x ∈ m) → l = m
  | [],[],_,_,_=>rfl
  | [],b :: m,_,_,h=>absurd ((h b).2 (List.mem_cons_self ..)) (by simp)
  | a :: l,[],_,_,h=>absurd ((h a).1 (List.mem_cons_self ..)) (by simp)
  | a :: l,b :: m,hl,hm,h=>by
    rw [List.pairwise_cons] at hl hm
    have e : a = b:=by
      rcases List.mem_cons.1 ((h a).1 (List.mem_cons_self ..)) with e|ha
      · exact e
      · rcases List.mem_cons.1 ((h b).2 (List.mem_cons_self ..)) with e|hb
        · exact e.symm
        · exact absurd (hl.1 b hb) (asy _ _ (hm.1 a ha))
    subst e
    congr 1
    refine sorted_ext irr asy l m hl.2 hm.2 (fun x=>⟨fun hx=>?_,fun hx=>?_⟩)
    · rcases List.mem_cons.1 ((h x).1 (List.mem_cons_of_mem _ hx)) with e|hx'
      · subst e;exact absurd (hl.1 _ hx) (irr _)
      · exact hx'
    · rcases List.mem_cons.1 ((h x).2 (List.mem_cons_of_mem _ hx)) with e|hx'
      · subst e;exact absurd (hm.1 _ hx) (irr _)
      · exact hx'
theorem ex_cons {α : Type} {p : α → Prop} {x : α} {l : List α} : (∃ e ∈ x :: l,p e) ↔ p x ∨ ∃ e ∈ l,p e :=
  ⟨fun ⟨e,he,hp⟩=>(List.mem_cons.1 he).elim (fun h=>.inl (h ▸ hp)) (fun h=>.inr ⟨e,h,hp⟩),fun h=>h.elim (fun h=>⟨x,List.mem_cons_self ..,h⟩) (fun ⟨e,he,hp⟩=>⟨e,List.mem_cons_of_mem _ he,hp⟩)⟩
def ltE (a b : S148) : Prop:=a.f0 < b.f0 ∨ (a.f0 = b.f0 ∧ a.f1 < b.f1)
theorem ltE_irr (a : S148) : ¬ ltE a a:=by unfold ltE;omega
theorem ltE_asy (a b : S148) : ltE a b → ¬ ltE b a:=by unfold ltE;omega
theorem ltE_tr {a b c : S148} : ltE a b → ltE b c → ltE a c:=by unfold ltE;omega
theorem pw_uniq {l : List S148} (h : l.Pairwise ltE) {a b : S148} (ha : a ∈ l) (hb : b ∈ l) (h0 : a.f0 = b.f0) (h1 : a.f1 = b.f1) : a = b:=by
  obtain ⟨i,hi,rfl⟩:=List.getElem_of_mem ha
  obtain ⟨j,hj,rfl⟩:=List.getElem_of_mem hb
  rw [List.pairwise_iff_getElem] at h
  rcases Nat.lt_trichotomy i j with hij|rfl|hij
  · have:=h i j hi hj hij;unfold ltE at this;omega
  · rfl
  · have:=h j i hj hi hij;unfold ltE at this;omega
def plF (x : Int) : List Int → Nat → Int
  | [],_=>-1
  | y :: l,i=>if y = x then (i : Int) else plF x l (i + 1)
theorem plF_spec (x : Int) : ∀ (l : List Int) (i : Nat),0 ≤ plF x l i → ∃ (j : Nat) (h : j < l.length),plF x l i = ((i + j : Nat) : Int) ∧ l[j] = x
  | [],i,h=>by simp [plF] at h
  | y :: l,i,h=>by
    unfold plF at h ⊢
    by_cases hc : y = x
    · exact ⟨0,by simp,by rw [if_pos hc];rfl,hc⟩
    · rw [if_neg hc] at h ⊢
      obtain ⟨j,hj,e,e'⟩:=plF_spec x l (i + 1) h
      exact ⟨j + 1,by simp;exact hj,by rw [e];congr 1;omega,by simpa using e'⟩
theorem plF_at : ∀ (l : List Int),l.Pairwise (· < ·) → ∀ (j : Nat) (h : j < l.length) (i : Nat),plF l[j] l i = ((i + j : Nat) : Int)
  | [],_,j,h,i=>by simp at h
  | y :: l,hp,0,h,i=>by simp [plF]
  | y :: l,hp,j + 1,h,i=>by
    rw [List.pairwise_cons] at hp
    have hj : j < l.length:=by simpa using h
    have:=hp.1 l[j] (List.getElem_mem hj)
    simp only [List.getElem_cons_succ,plF]
    rw [if_neg (by omega),plF_at l hp.2 j hj (i + 1)]
    congr 1;omega
theorem plF_lt {v : List Int} (hv : v.Pairwise (· < ·)) {a b : Int} (ha : 0 ≤ plF a v 0) (hb : 0 ≤ plF b v 0) (h : a < b) : plF a v 0 < plF b v 0:=by
  obtain ⟨i,hi,e,rfl⟩:=plF_spec a v 0 ha
  obtain ⟨j,hj,e',rfl⟩:=plF_spec b v 0 hb
  rw [e,e']
  rw [List.pairwise_iff_getElem] at hv
  rcases Nat.lt_trichotomy i j with hij|rfl|hij
  · omega
  · omega
  · have:=hv j i hj hi hij;omega
def specI (v : List Int) : List S148 → List S148
  | []=>[]
  | e :: l=>if 0 ≤ plF e.f0 v 0 then (if 0 ≤ plF e.f1 v 0 then ⟨plF e.f0 v 0,plF e.f1 v 0,e.f2,e.f3,e.f4⟩ :: specI v l else specI v l) else specI v l
theorem mem_specI (v : List Int) (z : S148) : ∀ l : List S148,z ∈ specI v l ↔ ∃ e ∈ l,0 ≤ plF e.f0 v 0 ∧ 0 ≤ plF e.f1 v 0 ∧ z = ⟨plF e.f0 v 0,plF e.f1 v 0,e.f2,e.f3,e.f4⟩
  | []=>by simp [specI]
  | e :: l=>by
    have ih:=mem_specI v z l
    unfold specI
    by_cases h0 : 0 ≤ plF e.f0 v 0
    · by_cases h1 : 0 ≤ plF e.f1 v 0
      · rw [if_pos h0,if_pos h1,List.mem_cons,ih,ex_cons]
        exact ⟨fun h=>h.elim (fun h=>.inl ⟨h0,h1,h⟩) .inr,fun h=>h.elim (fun h=>.inl h.2.2) .inr⟩
      · rw [if_pos h0,if_neg h1,ih,ex_cons]
        exact ⟨.inr,fun h=>h.elim (fun h=>absurd h.2.1 h1) id⟩
    · rw [if_neg h0,ih,ex_cons]
      exact ⟨.inr,fun h=>h.elim (fun h=>absurd h.1 h0) id⟩
theorem specI_pw {v : List Int} (hv : v.Pairwise (· < ·)) : ∀ l : List S148,l.Pairwise ltE → (specI v l).Pairwise ltE
  | [],_=>by simp [specI]
  | e :: l,h=>by
    rw [List.pairwise_cons] at h
    have ih:=specI_pw hv l h.2
    unfold specI
    by_cases h0 : 0 ≤ plF e.f0 v 0
    · by_cases h1 : 0 ≤ plF e.f1 v 0
      · rw [if_pos h0,if_pos h1,List.pairwise_cons]
        refine ⟨fun z hz=>?_,ih⟩
        obtain ⟨d,hd,g0,g1,rfl⟩:=(mem_specI v z l).1 hz
        rcases h.1 d hd with hlt|⟨heq,hlt⟩
        · exact .inl (plF_lt hv h0 g0 hlt)
        · exact .inr ⟨by simp only [heq],plF_lt hv h1 g1 hlt⟩
      · rw [if_pos h0,if_neg h1];exact ih
    · rw [if_neg h0];exact ih
def mkI_ (E : List S148) (i j x y : Int) : S148:=⟨i,j,(rd_T148 E (atE x y 0 E)).f2,(rd_T148 E (atE x y 0 E)).f3,(rd_T148 E (atE x y 0 E)).f4⟩
def rowI (E : List S148) (i x : Int) : List Int → Nat → List S148
  | [],_=>[]
  | y :: l,j=>if 0 ≤ atE x y 0 E then mkI_ E i (j : Int) x y :: rowI E i x l (j + 1) else rowI E i x l (j + 1)
def implI (E : List S148) : List Int → Nat → List S148
  | [],_=>[]
  | x :: l,i=>rowI E (i : Int) x l (i + 1) ++ implI E l (i + 1)
theorem mem_rowI (E : List S148) (i x : Int) (z : S148) : ∀ (l : List Int) (j : Nat),z ∈ rowI E i x l j ↔ ∃ (b : Nat) (h : b < l.length),0 ≤ atE x l[b] 0 E ∧ z = mkI_ E i ((j + b : Nat) : Int) x l[b]
  | [],j=>by simp [rowI]
  | y :: l,j=>by
    have ih:=mem_rowI E i x z l (j + 1)
    unfold rowI
    have step : (∃ (b : Nat) (h : b < (y :: l).length),0 ≤ atE x (y :: l)[b] 0 E ∧ z = mkI_ E i ((j + b : Nat) : Int) x (y :: l)[b]) ↔ ((0 ≤ atE x y 0 E ∧ z = mkI_ E i (j : Int) x y) ∨ ∃ (b : Nat) (h : b < l.length),0 ≤ atE x l[b] 0 E ∧ z = mkI_ E i ((j + 1 + b : Nat) : Int) x l[b]):=by
      constructor
      · rintro ⟨b,h,h0,h1⟩
        rcases b with _|b
        · exact .inl ⟨h0,h1⟩
        · exact .inr ⟨b,by simpa using h,h0,by rw [h1,show j + (b + 1) = j + 1 + b by omega];rfl⟩
      · rintro (⟨h0,h1⟩|⟨b,h,h0,h1⟩)
        · exact ⟨0,by simp,h0,h1⟩
        · exact ⟨b + 1,by simpa using h,h0,by rw [h1,show j + (b + 1) = j + 1 + b by omega];rfl⟩
    rw [step]
    by_cases h0 : 0 ≤ atE x y 0 E
    · rw [if_pos h0,List.mem_cons,ih]
      exact ⟨fun h=>h.elim (fun h=>.inl ⟨h0,h⟩) .inr,fun h=>h.elim (fun h=>.inl h.2) .inr⟩
    · rw [if_neg h0,ih]
      exact ⟨.inr,fun h=>h.elim (fun h=>absurd h.1 h0) id⟩
theorem rowI_pw (E : List S148) (i x : Int) : ∀ (l : List Int) (j : Nat),(rowI E i x l j).Pairwise ltE
  | [],j=>by simp [rowI]
  | y :: l,j=>by
    have ih:=rowI_pw E i x l (j + 1)
    unfold rowI
    by_cases h0 : 0 ≤ atE x y 0 E
    · rw [if_pos h0,List.pairwise_cons]
      refine ⟨fun z hz=>?_,ih⟩
      obtain ⟨b,hb,_,rfl⟩:=(mem_rowI E i x z l (j + 1)).1 hz
      exact .inr ⟨rfl,by show (j : Int) < ((j + 1 + b : Nat) : Int);omega⟩
    · rw [if_neg h0];exact ih
theorem mem_implI (E : List S148) (z : S148) : ∀ (l : List Int) (i : Nat),z ∈ implI E l i ↔ ∃ (a b : Nat) (ha : a < l.length) (hb : b < l.length),a < b ∧ 0 ≤ atE l[a] l[b] 0 E ∧ z = mkI_ E ((i + a : Nat) : Int) ((i + b : Nat) : Int) l[a] l[b]
  | [],i=>by simp [implI]
  | x :: l,i=>by
    have ih:=mem_implI E z l (i + 1)
    unfold implI
    rw [List.mem_append,ih,mem_rowI]
    constructor
    · rintro (⟨b,hb,h0,h1⟩|⟨a,b,ha,hb,hab,h0,h1⟩)
      · exact ⟨0,b + 1,by simp,by simpa using hb,by omega,h0,by rw [h1,show i + (b + 1) = i + 1 + b by omega];rfl⟩
      · exact ⟨a + 1,b + 1,by simpa using ha,by simpa using hb,by omega,h0,by rw [h1,show i + (b + 1) = i + 1 + b by omega,show i + (a + 1) = i + 1 + a by omega];rfl⟩
    · rintro ⟨a,b,ha,hb,hab,h0,h1⟩
      rcases b with _|b
      · omega
      · rcases a with _|a
        · exact .inl ⟨b,by simpa using hb,h0,by rw [h1,show i + (b + 1) = i + 1 + b by omega];rfl⟩
        · exact .inr ⟨a,b,by simpa using ha,by simpa using hb,by omega,h0,by rw [h1,show i + (b + 1) = i + 1 + b by omega,show i + (a + 1) = i + 1 + a by omega];rfl⟩
theorem implI_pw (E : List S148) : ∀ (l : List Int) (i : Nat),(implI E l i).Pairwise ltE
  | [],i=>by simp [implI]
  | x :: l,i=>by
    unfold implI
    rw [List.pairwise_append]
    refine ⟨rowI_pw E _ x l _,implI_pw E l (i + 1),fun y hy z hz=>?_⟩
    obtain ⟨b,hb,_,rfl⟩:=(mem_rowI E _ x y l (i + 1)).1 hy
    obtain ⟨c,d,hc,hd,_,_,rfl⟩:=(mem_implI E z l (i + 1)).1 hz
    exact .inl (by show (i : Int) < ((i + 1 + c : Nat) : Int);omega)
theorem atE_ex {a b : Int} : ∀ (l : List S148) (i : Nat),(∃ e ∈ l,isE a b e) → 0 ≤ atE a b i l
  | [],i,h=>by obtain ⟨e,he,_⟩:=h;simp at he
  | e :: l,i,h=>by
    unfold atE
    by_cases hc : isE a b e
    · simp only [if_pos hc];omega
    · simp only [if_neg hc]
      refine atE_ex l (i + 1) ?_
      obtain ⟨d,hd,hi⟩:=h
      rcases List.mem_cons.1 hd with rfl|hd
      · exact absurd hi hc
      · exact ⟨d,hd,hi⟩
theorem atE_get {a b : Int} {l : List S148} (h : 0 ≤ atE a b 0 l) : rd_T148 l (atE a b 0 l) ∈ l ∧ isE a b (rd_T148 l (atE a b 0 l)):=by
  obtain ⟨h1,h2,h3⟩:=atE_some a b l 0 h
  have h1' : (atE a b 0 l).toNat < l.length:=by simpa using h1
  have e : rd_T148 l (atE a b 0 l) = l[(atE a b 0 l).toNat]:=by
    have:=ri_Edge h1'
    rwa [Int.toNat_of_nonneg h] at this
  rw [e]
  exact ⟨List.getElem_mem h1',by simpa using h3⟩
theorem ind_eq {E : List S148} {v : List Int} (hE : E.Pairwise ltE) (hlt : ∀ e ∈ E,e.f0 < e.f1) (hv : v.Pairwise (· < ·)) : specI v E = implI E v 0:=by
  refine sorted_ext ltE_irr ltE_asy _ _ (specI_pw hv E hE) (implI_pw E v 0) (fun z=>?_)
  rw [mem_specI,mem_implI]
  have hv':=List.pairwise_iff_getElem.1 hv
  constructor
  · rintro ⟨e,he,h0,h1,rfl⟩
    obtain ⟨a,ha,ea,ea'⟩:=plF_spec e.f0 v 0 h0
    obtain ⟨b,hb,eb,eb'⟩:=plF_spec e.f1 v 0 h1
    have hl:=hlt e he
    have hab : a < b:=by
      have:=plF_lt hv h0 h1 hl
      omega
    have hx : isE v[a] v[b] e:=.inl ⟨ea'.symm,eb'.symm⟩
    have hat:=atE_ex (a:=v[a]) (b:=v[b]) E 0 ⟨e,he,hx⟩
    refine ⟨a,b,ha,hb,hab,hat,?_⟩
    obtain ⟨hm,hi⟩:=atE_get hat
    have : rd_T148 E (atE v[a] v[b] 0 E) = e:=by
      have hl':=hlt _ hm
      refine pw_uniq hE hm he ?_ ?_ <;> rcases hi with ⟨i0,i1⟩|⟨i0,i1⟩ <;> omega
    unfold mkI_
    rw [this,ea,eb]
  · rintro ⟨a,b,ha,hb,hab,hat,rfl⟩
    obtain ⟨hm,hi⟩:=atE_get hat
    have hl:=hlt _ hm
    have hv2:=hv' a b ha hb hab
    have e0 : (rd_T148 E (atE v[a] v[b] 0 E)).f0 = v[a]:=by rcases hi with ⟨i0,i1⟩|⟨i0,i1⟩ <;> omega
    have e1 : (rd_T148 E (atE v[a] v[b] 0 E)).f1 = v[b]:=by rcases hi with ⟨i0,i1⟩|⟨i0,i1⟩ <;> omega
    have p0:=plF_at v hv a ha 0
    have p1:=plF_at v hv b hb 0
    refine ⟨_,hm,?_,?_,?_⟩
    · rw [e0,p0];omega
    · rw [e1,p1];omega
    · unfold mkI_
      rw [e0,e1,p0,p1]

def prevLtI : Option Int → Int → Bool
  | none,_=>true
  | some p,x=>decide (p < x)
def vFrom (n : Int) : Option Int → List Int → Bool
  | _,[]=>true
  | p,x :: l=>decide (0 ≤ x ∧ x ≤ n - 1) && (prevLtI p x && vFrom n (some x) l)
def prevI (l : List Int) : Nat → Option Int
  | 0=>none
  | i + 1=>l[i]?
theorem prevI_succ {l : List Int} {i : Nat} (h : i < l.length) : prevI l (i + 1) = some l[i]:=List.getElem?_eq_getElem h
theorem vFrom_pw (n : Int) : ∀ (l : List Int) (p : Option Int),vFrom n p l = true → (∀ q,p = some q → ∀ x ∈ l,q < x) ∧ l.Pairwise (· < ·)
  | [],p,_=>⟨fun _ _ x hx=>by simp at hx,by simp⟩
  | y :: l,p,h=>by
    simp only [vFrom,Bool.and_eq_true] at h
    obtain ⟨_,h1,h2⟩:=h
    obtain ⟨i0,i1⟩:=vFrom_pw n l (some y) h2
    have hy:=i0 y rfl
    refine ⟨fun q hq x hx=>?_,List.pairwise_cons.2 ⟨hy,i1⟩⟩
    subst hq
    simp only [prevLtI,decide_eq_true_eq] at h1
    rcases List.mem_cons.1 hx with rfl|hx
    · exact h1
    · exact Int.lt_trans h1 (hy x hx)
theorem edgesOk_pw (n : Int) : ∀ (l : List S148) (p : Option S148),edgesOk n p l = true → (∀ q,p = some q → ∀ x ∈ l,ltE q x) ∧ l.Pairwise ltE
  | [],p,_=>⟨fun _ _ x hx=>by simp at hx,by simp⟩
  | y :: l,p,h=>by
    have h2 : edgesOk n (some y) l = true:=by
      cases p <;> simp only [edgesOk,Bool.and_eq_true] at h
      · exact h.2
      · exact h.2.2
    obtain ⟨i0,i1⟩:=edgesOk_pw n l (some y) h2
    have hy:=i0 y rfl
    refine ⟨fun q hq x hx=>?_,List.pairwise_cons.2 ⟨hy,i1⟩⟩
    subst hq
    simp only [edgesOk,edgeLt,Bool.and_eq_true,decide_eq_true_eq] at h
    have h1 : ltE q y:=h.2.1
    rcases List.mem_cons.1 hx with rfl|hx
    · exact h1
    · exact ltE_tr h1 (hy x hx)
def indOf (n : Int) (E : List S148) (v : List Int) : Int × List S148 × Bool :=
  if (gok n E && vFrom n none v) = true then ((v.length : Int),specI v E,true) else (0,[],false)
theorem indOf_impl {n : Int} {E : List S148} {v : List Int} (h : (gok n E && vFrom n none v) = true) : specI v E = implI E v 0:=by
  rw [Bool.and_eq_true] at h
  have hg:=h.1
  unfold gok at hg
  rw [Bool.and_eq_true] at hg
  exact ind_eq (edgesOk_pw n E none hg.2).2 (fun e he=>(gok_all h.1 e he).2.1) (vFrom_pw n v none h.2).2
theorem specI_len (v : List Int) : ∀ l : List S148,(specI v l).length ≤ l.length
  | []=>by simp [specI]
  | e :: l=>by
    have ih:=specI_len v l
    unfold specI
    by_cases h0 : 0 ≤ plF e.f0 v 0
    · by_cases h1 : 0 ≤ plF e.f1 v 0
      · rw [if_pos h0,if_pos h1];simp only [List.length_cons];omega
      · rw [if_pos h0,if_neg h1];simp only [List.length_cons];omega
    · rw [if_neg h0];simp only [List.length_cons];omega
theorem indOf_len (n : Int) (E : List S148) (v : List Int) (hE : E.length ≤ 1048576) : (indOf n E v).2.1.length ≤ 1048576:=by
  unfold indOf
  by_cases h : (gok n E && vFrom n none v) = true
  · rw [if_pos h];have:=specI_len v E;show (specI v E).length ≤ _;omega
  · rw [if_neg h];simp
theorem rowI_len (E : List S148) (i x : Int) : ∀ (l : List Int) (j : Nat),(rowI E i x l j).length ≤ l.length
  | [],j=>by simp [rowI]
  | y :: l,j=>by
    have:=rowI_len E i x l (j + 1)
    unfold rowI
    by_cases h0 : 0 ≤ atE x y 0 E
    · rw [if_pos h0];simp only [List.length_cons];omega
    · rw [if_neg h0];simp only [List.length_cons];omega

theorem s_in (a b c : Int) : spec_l01In.f a b c = some (decide (b ≤ a ∧ a ≤ c)):=by
  unfold spec_l01In.f
  by_cases h : a ≥ b
  · rw [if_pos h];simp [show b ≤ a from h]
  · rw [if_neg h];simp [show ¬ b ≤ a from h]
theorem s_in_t {a b c : Int} (h : b ≤ a ∧ a ≤ c) : spec_l01In.f a b c = some true:=by rw [s_in,decide_eq_true h]
theorem s_in_f {a b c : Int} (h : ¬ (b ≤ a ∧ a ≤ c)) : spec_l01In.f a b c = some false:=by rw [s_in,decide_eq_false h]

theorem s_worth (a : Int) : spec_l08Worth.f a = some (decide (0 ≤ a ∧ a ≤ 50)):=by unfold spec_l08Worth.f;rw [s_in];rfl
theorem sGO_go (n : Int) (l : List S148) (hl : l.length ≤ 1048576) : ∀ (d i : Nat),i + d = l.length → Ev (fun k=>spec_GraphOk.l0 k (i : Int) n l) (edgesOk n (prevE l i) (l.drop i))
  | 0,i,hi=>by
    rw [List.drop_of_length_le (by omega)]
    refine Ev.ofEq ((Ev.now true).to fun k=>?_) (by cases prevE l i <;> rfl)
    simp only [spec_GraphOk.l0]
    rw [if_neg (by omega)]
  | d + 1,i,hi=>by
    have hlt : i < l.length:=by omega
    have ih:=sGO_go n l hl d (i + 1) (by omega)
    rw [List.drop_eq_getElem_cons hlt]
    have step : ∀ k,spec_GraphOk.l0 (k + 1) (i : Int) n l = spec_GraphOk.j1 k (i : Int) (!edgeOk n l[i]) n l l[i].f0 l[i].f1 l[i].f2 l[i].f3 l[i].f4:=by
      intro k
      simp only [spec_GraphOk.l0,s_worth,Option.bind_some]
      rw [if_pos (by omega),if_pos (by omega),ri_Edge hlt]
      generalize l[i] = e
      unfold edgeOk
      repeat' split
      all_goals first
        | (congr 1;symm;rw [Bool.not_eq_true',decide_eq_false_iff_not];(try simp only [decide_eq_true_eq] at *);omega)
        | (congr 2;rw [decide_eq_decide];(try simp only [decide_eq_true_eq] at *);omega)
    refine Ev.to ?_ step
    have w2 : qn (wrap64 ((i : Int) + 1) = ((i + 1 : Nat) : Int)):=⟨by rw [wid (by omega) (by omega)];rfl⟩
    cases hb : edgeOk n l[i] with
    | false =>
      have e : edgesOk n (prevE l i) (l[i] :: l.drop (i + 1)) = false:=by cases prevE l i <;> simp [edgesOk,hb]
      rw [e]
      exact (Ev.now _).to fun k=>by simp only [spec_GraphOk.j1];rw [if_pos (by decide)]
    | true =>
      rcases i with _|i
      · have e : edgesOk n (prevE l 0) (l[0] :: l.drop (0 + 1)) = edgesOk n (prevE l (0 + 1)) (l.drop (0 + 1)):=by rw [prevE_succ hlt];simp [edgesOk,hb,prevE]
        rw [e]
        refine ih.to fun k=>?_
        simp only [spec_GraphOk.j1]
        rw [if_neg (by decide),if_neg (by decide),w2.out]
      · have hlt' : i < l.length:=by omega
        have e : edgesOk n (prevE l (i + 1)) (l[i + 1] :: l.drop (i + 1 + 1)) = (edgeLt l[i] l[i + 1] && edgesOk n (prevE l (i + 1 + 1)) (l.drop (i + 1 + 1))):=by rw [prevE_succ hlt',prevE_succ hlt];simp [edgesOk,hb]
        rw [e]
        have w1 : qn (wrap64 (((i + 1 : Nat) : Int) - 1) = (i : Int)):=⟨by rw [wid (by omega) (by omega)];omega⟩
        cases hlt2 : edgeLt l[i] l[i + 1] with
        | false =>
          rw [Bool.false_and]
          refine (Ev.now _).to fun k=>?_
          simp only [spec_GraphOk.j1]
          rw [if_neg (by decide),if_pos (by omega),w1.out,if_pos (by omega),if_pos (by omega),ri_Edge hlt']
          unfold edgeLt at hlt2
          rw [decide_eq_false_iff_not] at hlt2
          by_cases h1 : l[i].f0 > l[i + 1].f0
          · rw [if_pos h1]
          · rw [if_neg h1,if_pos (by omega),if_pos (by omega)]
        | true =>
          rw [Bool.true_and]
          refine ih.to fun k=>?_
          simp only [spec_GraphOk.j1]
          rw [if_neg (by decide),if_pos (by omega),w1.out,if_pos (by omega),if_pos (by omega),ri_Edge hlt',w2.out]
          unfold edgeLt at hlt2
          rw [decide_eq_true_eq] at hlt2
          rw [if_neg (by omega)]
          by_cases h1 : l[i].f0 = l[i + 1].f0
          · rw [if_pos h1,if_neg (by omega)]
          · rw [if_neg h1]
theorem sGraphOk (n : Int) (l : List S148) (hl : l.length ≤ 1048576) : Ev (fun k=>spec_GraphOk.f k n l) (gok n l):=by
  unfold spec_GraphOk.f gok
  by_cases h : 0 ≤ n ∧ n ≤ 9
  · rw [s_in_t h,decide_eq_true h,Bool.true_and]
    simp only [Option.bind_some,if_true]
    exact sGO_go n l hl l.length 0 (by omega)
  · rw [s_in_f h,decide_eq_false h,Bool.false_and]
    simp only [Option.bind_some,Bool.false_eq_true,if_false]
    exact Ev.now _

theorem sPlace_go (l : List Int) (x : Int) (hl : l.length ≤ 100000000) : ∀ (d i : Nat),i + d = l.length → Ev (fun k=>spec_l08Place.l0 k l x (i : Int)) (plF x (l.drop i) i)
  | 0,i,hi=>by
    rw [List.drop_of_length_le (by omega)]
    refine (Ev.now _).to fun k=>?_
    simp only [spec_l08Place.l0];rw [if_neg (by omega)];rfl
  | d + 1,i,hi=>by
    have hlt : i < l.length:=by omega
    have ih:=sPlace_go l x hl d (i + 1) (by omega)
    have w2 : wrap64 ((i : Int) + 1) = ((i + 1 : Nat) : Int):=by rw [wid (by omega) (by omega)];rfl
    rw [List.drop_eq_getElem_cons hlt,plF]
    by_cases h : l[i] = x
    · rw [if_pos h]
      refine (Ev.now _).to fun k=>?_
      simp only [spec_l08Place.l0]
      clear w2
      rw [if_pos (by omega),if_pos (by omega),rd_at hlt,if_pos h]
    · rw [if_neg h]
      refine ih.to fun k=>?_
      simp only [spec_l08Place.l0,w2]
      clear w2
      rw [if_pos (by omega),if_pos (by omega),rd_at hlt,if_neg h]
theorem sPlace (l : List Int) (x : Int) (hl : l.length ≤ 100000000) : Ev (fun k=>spec_l08Place.f k l x) (plF x l 0):=by
  unfold spec_l08Place.f
  exact sPlace_go l x hl l.length 0 (by omega)
theorem sI_l1 (n : Int) (v : List Int) (hv : v.length ≤ 1048576) (m : Int) (l : List S148) (hl : l.length ≤ 1048576) : ∀ (d i : Nat) (acc : List S148),i + d = l.length → acc.length ≤ i → Ev (fun k=>spec_Induced.l1 k v (i : Int) n l m acc) (m,acc ++ specI v (l.drop i),true)
  | 0,i,acc,hi,ha=>by
    rw [List.drop_of_length_le (by omega),specI,List.append_nil]
    refine (Ev.now _).to fun k=>?_
    simp only [spec_Induced.l1];rw [if_neg (by omega)]
  | d + 1,i,acc,hi,ha=>by
    have hlt : i < l.length:=by omega
    have w2 : wrap64 ((i : Int) + 1) = ((i + 1 : Nat) : Int):=by rw [wid (by omega) (by omega)];rfl
    have ihn:=sI_l1 n v hv m l hl d (i + 1) acc (by omega) (by omega)
    have ihy:=sI_l1 n v hv m l hl d (i + 1) (acc ++ [⟨plF l[i].f0 v 0,plF l[i].f1 v 0,l[i].f2,l[i].f3,l[i].f4⟩]) (by omega) (by simp;omega)
    rw [List.append_assoc,List.singleton_append] at ihy
    rw [List.drop_eq_getElem_cons hlt,specI]
    have hr:=ri_Edge hlt
    generalize l[i] = e at *
    refine Ev.to (f:=fun k=>(spec_l08Place.f k v e.f0).bind fun t152=>(spec_l08Place.f k v e.f1).bind fun t153=>if t152 ≥ 0 then (if t153 ≥ 0 then (if acc.length < 3518437208883 then spec_Induced.l1 k v ((i + 1 : Nat) : Int) n l m (acc ++ [⟨t152,t153,e.f2,e.f3,e.f4⟩]) else none) else spec_Induced.l1 k v ((i + 1 : Nat) : Int) n l m acc) else spec_Induced.l1 k v ((i + 1 : Nat) : Int) n l m acc) ((sPlace v e.f0 (by omega)).bind ((sPlace v e.f1 (by omega)).bind ?_)) fun k=>?_
    · by_cases h0 : 0 ≤ plF e.f0 v 0
      · by_cases h1 : 0 ≤ plF e.f1 v 0
        · rw [if_pos h0,if_pos h1]
          exact Ev.ifp h0 (Ev.ifp h1 (Ev.ifp (by omega) ihy))
        · rw [if_pos h0,if_neg h1]
          exact Ev.ifp h0 (Ev.ifn h1 ihn)
      · rw [if_neg h0]
        exact Ev.ifn h0 ihn
    · simp only [spec_Induced.l1,w2]
      clear w2 ihn ihy
      rw [if_pos (by omega),if_pos (by omega),hr]
theorem sI_false (n : Int) (E : List S148) (v : List Int) (i : Int) : Ev (fun k=>spec_Induced.l0 k v false i n E) (0,[],false):=by
  refine Ev.to (f:=fun k=>spec_Induced.j1 k v false n E) ((Ev.now _).to fun k=>by simp only [spec_Induced.j1,Bool.false_eq_true,if_false]) fun k=>?_
  simp only [spec_Induced.l0,Bool.false_eq_true,if_false]
  split <;> rfl
theorem sI_go (n : Int) (hn : 0 ≤ n ∧ n ≤ 9) (E : List S148) (hE : E.length ≤ 1048576) (v : List Int) (hv : v.length ≤ 1048576) : ∀ (d i : Nat),i + d = v.length → Ev (fun k=>spec_Induced.l0 k v true (i : Int) n E) (if vFrom n (prevI v i) (v.drop i) = true then ((v.length : Int),specI v E,true) else (0,[],false))
  | 0,i,hi=>by
    rw [List.drop_of_length_le (by omega),if_pos (by cases prevI v i <;> rfl)]
    refine Ev.to (f:=fun k=>spec_Induced.j1 k v true n E) (Ev.to (sI_l1 n v hv (v.length : Int) E hE E.length 0 [] (by omega) (by simp)) fun k=>by simp only [spec_Induced.j1,if_true];rfl) fun k=>?_
    simp only [spec_Induced.l0];rw [if_neg (by omega)]
  | d + 1,i,hi=>by
    have hlt : i < v.length:=by omega
    have ih:=sI_go n hn E hE v hv d (i + 1) (by omega)
    rw [prevI_succ hlt] at ih
    have w1 : wrap64 (n - 1) = n - 1:=wid (by omega) (by omega)
    have w2 : wrap64 ((i : Int) + 1) = ((i + 1 : Nat) : Int):=by rw [wid (by omega) (by omega)];rfl
    rw [List.drop_eq_getElem_cons hlt,vFrom]
    by_cases h1 : 0 ≤ v[i] ∧ v[i] ≤ n - 1
    · rw [decide_eq_true h1,Bool.true_and]
      rcases i with _|i
      · rw [show prevLtI (prevI v 0) v[0] = true from rfl,Bool.true_and]
        refine ih.to fun k=>?_
        simp only [spec_Induced.l0,w1,w2,if_true]
        clear w1 w2 ih
        rw [if_pos (by omega),if_pos (by omega),rd_at hlt,s_in_t h1]
        rfl
      · have hlt' : i < v.length:=by omega
        have w3 : wrap64 (((i + 1 : Nat) : Int) - 1) = (i : Int):=by rw [wid (by omega) (by omega)];omega
        rw [prevI_succ hlt',prevLtI]
        by_cases h2 : v[i] < v[i + 1]
        · rw [decide_eq_true h2,Bool.true_and]
          refine ih.to fun k=>?_
          simp only [spec_Induced.l0,w1,w2,w3,if_true]
          clear w1 w2 w3 ih
          rw [if_pos (by omega),if_pos (by omega),rd_at hlt,s_in_t h1]
          simp only [Option.bind_some,if_true]
          rw [if_neg (show ¬ (((i + 1 : Nat) : Int) = 0) by omega),if_pos (show (0 : Int) ≤ (i : Int) by omega),if_pos (show (i : Int) < (v.length : Int) by omega),rd_at hlt',decide_eq_true h2]
        · rw [decide_eq_false h2,Bool.false_and,if_neg (by decide)]
          refine (sI_false n E v ((i + 1 + 1 : Nat) : Int)).to fun k=>?_
          simp only [spec_Induced.l0,w1,w2,w3,if_true]
          clear w1 w2 w3 ih
          rw [if_pos (by omega),if_pos (by omega),rd_at hlt,s_in_t h1]
          simp only [Option.bind_some,if_true]
          rw [if_neg (show ¬ (((i + 1 : Nat) : Int) = 0) by omega),if_pos (show (0 : Int) ≤ (i : Int) by omega),if_pos (show (i : Int) < (v.length : Int) by omega),rd_at hlt',decide_eq_false h2]
    · rw [decide_eq_false h1,Bool.false_and,if_neg (by decide)]
      refine (sI_false n E v ((i + 1 : Nat) : Int)).to fun k=>?_
      simp only [spec_Induced.l0,w1,w2,if_true]
      clear w1 w2 ih
      rw [if_pos (by omega),if_pos (by omega),rd_at hlt,s_in_f h1]
      rfl
theorem sInduced (n : Int) (E : List S148) (v : List Int) (hE : E.length ≤ 1048576) (hv : v.length ≤ 1048576) : Ev (fun k=>spec_Induced.f k n E v) (indOf n E v):=by
  unfold spec_Induced.f indOf
  refine (sGraphOk n E hE).bind ?_
  by_cases h : gok n E = true
  · rw [h,Bool.true_and]
    exact sI_go n (gok_n h) E hE v hv v.length 0 (by omega)
  · rw [Bool.eq_false_iff.2 h,Bool.false_and,if_neg (by decide)]
    exact sI_false n E v 0

theorem i_in (a b c : Int) : impl_in.f a b c = some (decide (b ≤ a ∧ a ≤ c)):=by
  unfold impl_in.f
  by_cases h : a ≥ b
  · rw [if_pos h];simp [show b ≤ a from h]
  · rw [if_neg h];simp [show ¬ b ≤ a from h]
theorem i_in_t {a b c : Int} (h : b ≤ a ∧ a ≤ c) : impl_in.f a b c = some true:=by rw [i_in,decide_eq_true h]
theorem i_in_f {a b c : Int} (h : ¬ (b ≤ a ∧ a ≤ c)) : impl_in.f a b c = some false:=by rw [i_in,decide_eq_false h]

theorem iGO_go (n : Int) (hn : 0 ≤ n ∧ n ≤ 9) (l : List S148) (hl : l.length ≤ 1048576) : ∀ (d i : Nat),i + d = l.length → Ev (fun k=>impl_GraphOk.l0 k l (l.length : Int) (i : Int) n l) (edgesOk n (prevE l i) (l.drop i))
  | 0,i,hi=>by
    rw [List.drop_of_length_le (by omega)]
    refine Ev.ofEq ((Ev.now true).to fun k=>?_) (by cases prevE l i <;> rfl)
    simp only [impl_GraphOk.l0]
    rw [if_neg (by omega)]
  | d + 1,i,hi=>by
    have hlt : i < l.length:=by omega
    have ih:=iGO_go n hn l hl d (i + 1) (by omega)
    rw [List.drop_eq_getElem_cons hlt]
    have step : ∀ k,impl_GraphOk.l0 (k + 1) l (l.length : Int) (i : Int) n l = impl_GraphOk.j1 k (i : Int) l (l.length : Int) (i : Int) (!edgeOk n l[i]) n l l[i].f0 l[i].f1 l[i].f2 l[i].f3 l[i].f4:=by
      intro k
      have w : wrap64 (n - 1) = n - 1:=wid (by omega) (by omega)
      simp only [impl_GraphOk.l0,i_in,Option.bind_some,w]
      clear w
      rw [if_pos (by omega),if_pos (by omega),if_pos (by omega),ri_Edge hlt]
      generalize l[i] = e
      unfold edgeOk
      repeat' split
      all_goals first
        | (congr 1;symm;rw [Bool.not_eq_true',decide_eq_false_iff_not];(try simp only [decide_eq_true_eq] at *);omega)
        | (congr 2;rw [decide_eq_decide];(try simp only [decide_eq_true_eq] at *);omega)
    refine Ev.to ?_ step
    have w2 : qn (wrap64 ((i : Int) + 1) = ((i + 1 : Nat) : Int)):=⟨by rw [wid (by omega) (by omega)];rfl⟩
    cases hb : edgeOk n l[i] with
    | false =>
      have e : edgesOk n (prevE l i) (l[i] :: l.drop (i + 1)) = false:=by cases prevE l i <;> simp [edgesOk,hb]
      rw [e]
      exact (Ev.now _).to fun k=>by simp only [impl_GraphOk.j1];rw [if_pos (by decide)]
    | true =>
      rcases i with _|i
      · have e : edgesOk n (prevE l 0) (l[0] :: l.drop (0 + 1)) = edgesOk n (prevE l (0 + 1)) (l.drop (0 + 1)):=by rw [prevE_succ hlt];simp [edgesOk,hb,prevE]
        rw [e]
        refine ih.to fun k=>?_
        simp only [impl_GraphOk.j1]
        rw [if_neg (by decide),if_neg (by decide),w2.out]
      · have hlt' : i < l.length:=by omega
        have e : edgesOk n (prevE l (i + 1)) (l[i + 1] :: l.drop (i + 1 + 1)) = (edgeLt l[i] l[i + 1] && edgesOk n (prevE l (i + 1 + 1)) (l.drop (i + 1 + 1))):=by rw [prevE_succ hlt',prevE_succ hlt];simp [edgesOk,hb]
        rw [e]
        have w1 : qn (wrap64 (((i + 1 : Nat) : Int) - 1) = (i : Int)):=⟨by rw [wid (by omega) (by omega)];omega⟩
        cases hlt2 : edgeLt l[i] l[i + 1] with
        | false =>
          rw [Bool.false_and]
          refine (Ev.now _).to fun k=>?_
          simp only [impl_GraphOk.j1]
          rw [if_neg (by decide),if_pos (by omega),w1.out,if_pos (by omega),if_pos (by omega),ri_Edge hlt']
          unfold edgeLt at hlt2
          rw [decide_eq_false_iff_not] at hlt2
          by_cases h1 : l[i].f0 > l[i + 1].f0
          · rw [if_pos h1]
          · rw [if_neg h1,if_pos (by omega),if_pos (by omega)]
        | true =>
          rw [Bool.true_and]
          refine ih.to fun k=>?_
          simp only [impl_GraphOk.j1]
          rw [if_neg (by decide),if_pos (by omega),w1.out,if_pos (by omega),if_pos (by omega),ri_Edge hlt',w2.out]
          unfold edgeLt at hlt2
          rw [decide_eq_true_eq] at hlt2
          rw [if_neg (by omega)]
          by_cases h1 : l[i].f0 = l[i + 1].f0
          · rw [if_pos h1,if_neg (by omega)]
          · rw [if_neg h1]
theorem iGraphOk (n : Int) (l : List S148) (hl : l.length ≤ 1048576) : Ev (fun k=>impl_GraphOk.f k n l) (gok n l):=by
  unfold impl_GraphOk.f gok
  by_cases h : 0 ≤ n ∧ n ≤ 9
  · rw [i_in_t h,decide_eq_true h,Bool.true_and]
    simp only [Option.bind_some,if_true]
    exact iGO_go n h l hl l.length 0 (by omega)
  · rw [i_in_f h,decide_eq_false h,Bool.false_and]
    simp only [Option.bind_some,Bool.false_eq_true,if_false]
    exact Ev.now _

theorem iAt_go (a b : Int) (l : List S148) (hl : l.length ≤ 1048576) : ∀ (d i : Nat),i + d = l.length → Ev (fun k=>impl_edgeAt.l0 k a b l (l.length : Int) (i : Int)) (atE a b i (l.drop i))
  | 0,i,hi=>by
    rw [List.drop_of_length_le (by omega)]
    exact (Ev.now _).to fun k=>by simp only [impl_edgeAt.l0];rw [if_neg (by omega)];rfl
  | d + 1,i,hi=>by
    have hlt : i < l.length:=by omega
    have ih:=iAt_go a b l hl d (i + 1) (by omega)
    rw [List.drop_eq_getElem_cons hlt]
    have w2 : qn (wrap64 ((i : Int) + 1) = ((i + 1 : Nat) : Int)):=⟨by rw [wid (by omega) (by omega)];rfl⟩
    unfold atE
    by_cases hc : isE a b l[i]
    · rw [if_pos hc]
      refine (Ev.now _).to fun k=>?_
      simp only [impl_edgeAt.l0]
      rw [if_pos (by omega),if_pos (by omega),if_pos (by omega),ri_Edge hlt]
      unfold isE at hc
      repeat' split
      all_goals first|rfl|omega
    · rw [if_neg hc]
      refine ih.to fun k=>?_
      simp only [impl_edgeAt.l0]
      rw [if_pos (by omega),if_pos (by omega),if_pos (by omega),ri_Edge hlt,w2.out]
      unfold isE at hc
      repeat' split
      all_goals first|rfl|omega
theorem iAt (n a b : Int) (l : List S148) (hl : l.length ≤ 1048576) : Ev (fun k=>impl_edgeAt.f k n l a b) (atE a b 0 l):=by
  unfold impl_edgeAt.f
  exact iAt_go a b l hl l.length 0 (by omega)

theorem iI_l2 (n m : Int) (E : List S148) (hE : E.length ≤ 1048576) (v : List Int) (hv : v.length ≤ 1048576) (i : Int) (x : Int) (r : Int × List S148 × Bool) : ∀ (d j : Nat) (acc : List S148),j + d = v.length → acc.length + d < 3518437208883 → Ev (fun k=>impl_Induced.l1 k v v (v.length : Int) (wrap64 (i + 1)) n E m (acc ++ rowI E i x (v.drop j) j)) r → Ev (fun k=>impl_Induced.l2 k v i x (j : Int) v (v.length : Int) i n E m acc) r
  | 0,j,acc,hi,ha,h=>by
    rw [List.drop_of_length_le (by omega),rowI,List.append_nil] at h
    refine h.to fun k=>?_
    simp only [impl_Induced.l2];rw [if_neg (by omega)]
  | d + 1,j,acc,hi,ha,h=>by
    have hlt : j < v.length:=by omega
    have w2 : wrap64 ((j : Int) + 1) = ((j + 1 : Nat) : Int):=by rw [wid (by omega) (by omega)];rfl
    rw [List.drop_eq_getElem_cons hlt,rowI] at h
    have hr:=rd_at hlt
    generalize v[j] = y at *
    refine Ev.to (f:=fun k=>(impl_edgeAt.f k n E x y).bind fun t=>if t ≥ 0 then (if 0 ≤ t then (if t < (E.length : Int) then (if acc.length < 3518437208883 then impl_Induced.l2 k v i x ((j + 1 : Nat) : Int) v (v.length : Int) i n E m (acc ++ [⟨i,(j : Int),(rd_T148 E t).f2,(rd_T148 E t).f3,(rd_T148 E t).f4⟩]) else none) else none) else none) else impl_Induced.l2 k v i x ((j + 1 : Nat) : Int) v (v.length : Int) i n E m acc) ((iAt n x y E hE).bind ?_) fun k=>?_
    · by_cases h0 : 0 ≤ atE x y 0 E
      · rw [if_pos h0] at h
        obtain ⟨q,_,_⟩:=atE_some x y E 0 h0
        refine Ev.ifp h0 (Ev.ifp h0 (Ev.ifp (by omega) (Ev.ifp (by omega) (iI_l2 n m E hE v hv i x r d (j + 1) _ (by omega) (by simp;omega) ?_))))
        rw [List.append_assoc,List.singleton_append]
        exact h
      · rw [if_neg h0] at h
        exact Ev.ifn h0 (iI_l2 n m E hE v hv i x r d (j + 1) acc (by omega) (by omega) h)
    · simp only [impl_Induced.l2,w2]
      clear w2 h
      rw [if_pos (by omega),if_pos (by omega),hr]
theorem iI_l1 (n m : Int) (E : List S148) (hE : E.length ≤ 1048576) (v : List Int) (hv : v.length ≤ 1048576) : ∀ (d i : Nat) (acc : List S148),i + d = v.length → acc.length + d * 1048576 ≤ 1099511627776 → Ev (fun k=>impl_Induced.l1 k v v (v.length : Int) (i : Int) n E m acc) (m,acc ++ implI E (v.drop i) i,true)
  | 0,i,acc,hi,ha=>by
    rw [List.drop_of_length_le (by omega),implI,List.append_nil]
    refine (Ev.now _).to fun k=>?_
    simp only [impl_Induced.l1];rw [if_neg (by omega)]
  | d + 1,i,acc,hi,ha=>by
    have hlt : i < v.length:=by omega
    have w2 : wrap64 ((i : Int) + 1) = ((i + 1 : Nat) : Int):=by rw [wid (by omega) (by omega)];rfl
    have hrl:=rowI_len E (i : Int) v[i] (v.drop (i + 1)) (i + 1)
    rw [List.length_drop] at hrl
    have ih:=iI_l1 n m E hE v hv d (i + 1) (acc ++ rowI E (i : Int) v[i] (v.drop (i + 1)) (i + 1)) (by omega) (by rw [List.length_append];omega)
    rw [List.append_assoc] at ih
    rw [List.drop_eq_getElem_cons hlt,implI]
    have h2:=iI_l2 n m E hE v hv (i : Int) v[i] _ d (i + 1) acc (by omega) (by omega) (by rw [w2];exact ih)
    refine h2.to fun k=>?_
    simp only [impl_Induced.l1,w2]
    clear w2 ih h2
    rw [if_pos (by omega),if_pos (by omega),if_pos (by omega),rd_at hlt]
theorem iI_go (n : Int) (hn : 0 ≤ n ∧ n ≤ 9) (E : List S148) (hE : E.length ≤ 1048576) (v : List Int) (hv : v.length ≤ 1048576) : ∀ (d i : Nat),i + d = v.length → Ev (fun k=>impl_Induced.l0 k v v (v.length : Int) (i : Int) n E) (if vFrom n (prevI v i) (v.drop i) = true then ((v.length : Int),implI E v 0,true) else (0,[],false))
  | 0,i,hi=>by
    rw [List.drop_of_length_le (by omega),if_pos (by cases prevI v i <;> rfl)]
    refine (iI_l1 n (v.length : Int) E hE v hv v.length 0 [] (by omega) (by simp;omega)).to fun k=>?_
    simp only [impl_Induced.l0];rw [if_neg (by omega)];rfl
  | d + 1,i,hi=>by
    have hlt : i < v.length:=by omega
    have ih:=iI_go n hn E hE v hv d (i + 1) (by omega)
    rw [prevI_succ hlt] at ih
    have w1 : wrap64 (n - 1) = n - 1:=wid (by omega) (by omega)
    have w2 : wrap64 ((i : Int) + 1) = ((i + 1 : Nat) : Int):=by rw [wid (by omega) (by omega)];rfl
    rw [List.drop_eq_getElem_cons hlt,vFrom]
    by_cases h1 : 0 ≤ v[i] ∧ v[i] ≤ n - 1
    · rw [decide_eq_true h1,Bool.true_and]
      rcases i with _|i
      · rw [show prevLtI (prevI v 0) v[0] = true from rfl,Bool.true_and]
        refine ih.to fun k=>?_
        simp only [impl_Induced.l0,w1,w2]
        clear w1 w2 ih
        rw [if_pos (by omega),if_pos (by omega),if_pos (by omega),rd_at hlt,i_in_t h1]
        simp only [Option.bind_some,if_true]
        rw [if_neg (show ¬ ((0 : Nat) : Int) > 0 by omega)]
      · have hlt' : i < v.length:=by omega
        have w3 : wrap64 (((i + 1 : Nat) : Int) - 1) = (i : Int):=by rw [wid (by omega) (by omega)];omega
        rw [prevI_succ hlt',prevLtI]
        by_cases h2 : v[i] < v[i + 1]
        · rw [decide_eq_true h2,Bool.true_and]
          refine ih.to fun k=>?_
          simp only [impl_Induced.l0,w1,w2,w3]
          clear w1 w2 w3 ih
          rw [if_pos (by omega),if_pos (by omega),if_pos (by omega),rd_at hlt,i_in_t h1]
          simp only [Option.bind_some,if_true]
          rw [if_pos (show ((i + 1 : Nat) : Int) > 0 by omega),if_pos (show (0 : Int) ≤ (i : Int) by omega),if_pos (show (i : Int) < (v.length : Int) by omega),rd_at hlt',if_neg (show ¬ v[i] ≥ v[i + 1] by omega)]
        · rw [decide_eq_false h2,Bool.false_and,if_neg (by decide)]
          refine (Ev.now _).to fun k=>?_
          simp only [impl_Induced.l0,w1,w2,w3]
          clear w1 w2 w3 ih
          rw [if_pos (by omega),if_pos (by omega),if_pos (by omega),rd_at hlt,i_in_t h1]
          simp only [Option.bind_some,if_true]
          rw [if_pos (show ((i + 1 : Nat) : Int) > 0 by omega),if_pos (show (0 : Int) ≤ (i : Int) by omega),if_pos (show (i : Int) < (v.length : Int) by omega),rd_at hlt',if_pos (show v[i] ≥ v[i + 1] by omega)]
    · rw [decide_eq_false h1,Bool.false_and,if_neg (by decide)]
      refine (Ev.now _).to fun k=>?_
      simp only [impl_Induced.l0,w1,w2]
      clear w1 w2 ih
      rw [if_pos (by omega),if_pos (by omega),if_pos (by omega),rd_at hlt,i_in_f h1]
      rfl
theorem iInduced (n : Int) (E : List S148) (v : List Int) (hE : E.length ≤ 1048576) (hv : v.length ≤ 1048576) : Ev (fun k=>impl_Induced.f k n E v) (indOf n E v):=by
  unfold impl_Induced.f
  refine (iGraphOk n E hE).bind ?_
  by_cases h : gok n E = true
  · refine Ev.ifp h ?_
    have hh:=iI_go n (gok_n h) E hE v hv v.length 0 (by omega)
    rw [List.drop_zero] at hh
    refine Ev.ofEq hh ?_
    unfold indOf
    by_cases hv' : vFrom n none v = true
    · have hb : (gok n E && vFrom n none v) = true:=by rw [h,hv'];rfl
      rw [if_pos hb,if_pos (show vFrom n (prevI v 0) v = true from hv'),indOf_impl hb]
    · rw [if_neg (show ¬ vFrom n (prevI v 0) v = true from hv'),if_neg (by rw [h,Bool.true_and];exact hv')]
  · have hb : indOf n E v = (0,[],false):=by unfold indOf;rw [Bool.eq_false_iff.2 h,Bool.false_and,if_neg (by decide)]
    rw [hb]
    exact Ev.ifn h (Ev.now _)

theorem FnExactInduced : laws_FnExactInduced.Pure:=by
  intro n E0 v _ hE hv
  refine Ev.rounds (g:=fun k=>laws_FnExactInduced.f k n E0 v) ?_
  unfold laws_FnExactInduced.f
  by_cases hb : (v.length : Int) > 1048576
  · exact Ev.ifp hb (Ev.now _)
  refine Ev.ifn hb ?_
  have hvl : v.length ≤ 1048576:=by omega
  obtain ⟨r,hr,hc⟩:=szGraph n E0 hE.1 1048576 (by decide) (by decide)
  rw [hr]
  simp only [Option.bind_some]
  by_cases h : r < 0
  · exact Ev.ifp h (Ev.now _)
  refine Ev.ifn h ?_
  have hc:=hc.resolve_left h
  have hEm : (E0.map cvEdge).length ≤ 1048576:=by rw [List.length_map];exact hc.2
  have tG:=toGraph n E0 hc.2
  have tV:=toIntS v hvl
  have hS:=sInduced n (E0.map cvEdge) v hEm hvl
  have hI:=iInduced n (E0.map cvEdge) v hEm hvl
  have hl:=indOf_len n (E0.map cvEdge) v hEm
  have hEG:=eqGraph n (E0.map cvEdge) (by omega)
  have hEV:=eqIntS v (by omega)
  have hMG:=markGraph n (E0.map cvEdge) hEm
  have hMV:=markIntS v (1 + 5 * (E0.map cvEdge).length) (by omega) (by omega) (by omega)
  generalize indOf n (E0.map cvEdge) v = z at *
  obtain ⟨z0,z1,b⟩:=z
  have hEZ:=eqGraph z0 z1 (by simp only at hl;omega)
  have hMZ:=markGraph z0 z1 hl
  have hHZ:=heldGraph z0 z1 hl
  refine tG.bind (tV.bind (hS.bind (tG.bind (tV.bind (hI.bind (hEZ.bind (Ev.ifp rfl ?_)))))))
  simp only [bne_rfl_bool]
  generalize E0.map cvEdge = E at *
  refine Ev.to (f:=fun k=>(laws_toGraph.f k n E0).bind fun bt240=>(laws_eqGraph.f k n E bt240.1 bt240.2).bind fun t244=>if t244 = true then (laws_toIntS.f k v).bind fun t245=>(laws_eqIntS.f k v t245).bind fun t248=>if t248 = true then (laws_markGraph.f k n E 1).bind fun bt249=>(laws_markIntS.f k v bt249.1).bind fun bt251=>if bt251.1 < 0 then laws_FnExactInduced.j1 k v b true n E0 z0 z1 z0 z1 else (laws_eqGraph.f k z0 z1 z0 z1).bind fun t253=>if t253 = true then laws_FnExactInduced.j1 k v b (b != b) n E0 z0 z1 z0 z1 else laws_FnExactInduced.j1 k v b true n E0 z0 z1 z0 z1 else some false else some false) (r:=true) ?_ fun k=>by simp only [laws_FnExactInduced.j0];rw [if_neg (by decide)]
  refine tG.bind (hEG.bind (Ev.ifp rfl (tV.bind (hEV.bind (Ev.ifp rfl (hMG.bind (hMV.bind (Ev.ifn ?_ (hEZ.bind (Ev.ifp rfl ?_))))))))))
  · simp only;omega
  simp only [bne_rfl_bool]
  refine Ev.to (f:=fun k=>(laws_markGraph.f k z0 z1 1).bind fun bt254=>(laws_heldGraph.f k z0 bt254.2 1).bind fun t256=>if t256 < 0 then some false else if t256 = bt254.1 then (laws_toGraph.f k n E0).bind fun bt257=>(laws_toIntS.f k v).bind fun t261=>(impl_Induced.f k bt257.1 bt257.2 t261).bind fun bt264=>(laws_eqGraph.f k bt264.1 bt264.2.1 z0 z1).bind fun t270=>if t270 = true then laws_FnExactInduced.j2 k bt254.1 (bt264.2.2 != b) z0 bt254.2 else laws_FnExactInduced.j2 k bt254.1 true z0 bt254.2 else some false) (r:=true) ?_ fun k=>by simp only [laws_FnExactInduced.j1];rw [if_neg (by decide)]
  refine hMZ.bind (hHZ.bind (Ev.ifn (by omega) (Ev.ifp rfl (tG.bind (tV.bind (hI.bind (hEZ.bind (Ev.ifp rfl ?_))))))))
  simp only [bne_rfl_bool]
  refine Ev.to (f:=fun k=>(laws_heldGraph.f k z0 (mkEdge 1 z1) 1).bind fun t271=>if t271 < 0 then some false else if t271 = 1 + 5 * (z1.length : Int) then some true else some false) (r:=true) ?_ fun k=>by simp only [laws_FnExactInduced.j2];rw [if_neg (by decide)]
  exact hHZ.bind (Ev.ifn (by omega) (Ev.ifp rfl (Ev.now _)))

end Go.Proofs.Ytbonjmnpcklciaa.Pure
