/- The program's SumsOf and the reference's SumsOf return the same sums and the same flag, for every graph and all couples, and leave them as they were. -/
import Derived.Test.YtbonjmnpcklciaaZFnExactSumsOfx11
import Derived.Laws.BitsAllLaws
namespace Go.Proofs.Ytbonjmnpcklciaa.Pure
open Go.RowKit Go.Proofs.Ytbonjmnpcklciaa.QFnExactSumsOf Go.Proofs.YtbonjmnpcklciaaW.PrintWords Go.Proofs.YtbonjmnpcklciaaW.PrintLast
set_option linter.unusedVariables false
set_option linter.unusedSimpArgs false
set_option maxHeartbeats 4000000

def laws_FnExactSumsOf.Pure : Prop:=∀ (a0_0 : Int) (l0_1 : List (S187)) (l1 : List (S139)),((Lit.int .i64 a0_0).wf = true) → (l0_1.length ≤ 9223372036854775807 ∧ ∀ x1 ∈ l0_1,((Lit.int .i64 x1.f0).wf = true) ∧ ((Lit.int .i64 x1.f1).wf = true) ∧ ((Lit.int .i64 x1.f2).wf = true) ∧ ((Lit.int .i64 x1.f3).wf = true) ∧ ((Lit.int .i64 x1.f4).wf = true)) → (l1.length ≤ 9223372036854775807 ∧ ∀ x1 ∈ l1,((Lit.int .i64 x1.f0).wf = true) ∧ ((Lit.int .i64 x1.f1).wf = true)) → ∃ k,laws_FnExactSumsOf.f k a0_0 l0_1 l1 = some true

theorem wid {n : Int} (h0 : -9223372036854775808 ≤ n) (h1 : n < 9223372036854775808) : wrap64 n = n:=by unfold wrap64;omega
theorem _root_.Go.Proofs.YtbonjmnpcklciaaW.PrintWords.Ev.ofEq {α : Type} {g : Nat → Option α} {r q : α} (h : Ev g r) (e : r = q) : Ev g q:=e ▸ h
theorem _root_.Go.Proofs.YtbonjmnpcklciaaW.PrintWords.Ev.same {α : Type} {o : Option α} {r : α} (h : o = some r) : Ev (fun _=>o) r:=⟨0,fun _ _=>h⟩
theorem _root_.Go.Proofs.YtbonjmnpcklciaaW.PrintWords.Ev.to {α : Type} {g f : Nat → Option α} {r : α} (k : Ev f r) (h : ∀ k,g (k + 1) = f k) : Ev g r:=Ev.step h k
theorem _root_.Go.Proofs.YtbonjmnpcklciaaW.PrintWords.Ev.ifp {α : Type} {c : Prop} [Decidable c] {g f : Nat → Option α} {r : α} (h : c) (e : Ev g r) : Ev (fun k=>if c then g k else f k) r:=by simp only [if_pos h];exact e
theorem _root_.Go.Proofs.YtbonjmnpcklciaaW.PrintWords.Ev.ifn {α : Type} {c : Prop} [Decidable c] {g f : Nat → Option α} {r : α} (h : ¬ c) (e : Ev f r) : Ev (fun k=>if c then g k else f k) r:=by simp only [if_neg h];exact e
def Byt (xs : List Int) : Prop:=∀ x ∈ xs,0 ≤ x ∧ x < 256
theorem Byt.nil : Byt []:=fun _ h=>by simp at h
theorem Byt.cons {x : Int} {xs : List Int} (h : 0 ≤ x ∧ x < 256) (h' : Byt xs) : Byt (x :: xs):=fun y hy=>by
  rcases List.mem_cons.1 hy with rfl|hy
  · exact h
  · exact h' y hy
theorem Byt.left {xs ys : List Int} (h : Byt (xs ++ ys)) : Byt xs:=fun y hy=>h y (List.mem_append_left _ hy)
theorem Byt.drop {xs : List Int} (h : Byt xs) (n : Nat) : Byt (xs.drop n):=fun y hy=>h y (List.mem_of_mem_drop hy)
theorem Byt.take {xs : List Int} (h : Byt xs) (n : Nat) : Byt (xs.take n):=fun y hy=>h y (List.mem_of_mem_take hy)
theorem bne_rfl_bool (b : Bool) : (b != b) = false:=by cases b <;> rfl
theorem Byt.one {x : Int} (h : 0 ≤ x ∧ x < 256) : Byt [x]:=Byt.nil.cons h
theorem set_take {α : Type} (xs : List α) {i : Nat} (v : α) (h : i < xs.length) : (xs.set i v).take (i + 1) = xs.take i ++ [v]:=by
  rw [List.take_succ_eq_append_getElem (by rw [List.length_set];exact h),List.getElem_set_self,List.take_set_of_le (Nat.le_refl _)]
theorem getD_at {α : Type} {xs : List α} {i : Nat} (z : α) (h : i < xs.length) : xs.getD ((i : Int)).toNat z = xs[i]:=by
  rw [Int.toNat_natCast,List.getD_eq_getElem?_getD,List.getElem?_eq_getElem h];rfl
theorem rd_at {xs : List Int} {i : Nat} (h : i < xs.length) : rd xs (i : Int) = xs[i]:=getD_at 0 h
theorem rl_Edge {xs : List S187} {i : Nat} (h : i < xs.length) : rd_T187 xs (i : Int) = xs[i]:=getD_at _ h

def cvEdge (x : S187) : S148:=⟨x.f0,x.f1,x.f2,x.f3,x.f4⟩
theorem toEdgeS_go (x0 : List S187) (hl : x0.length ≤ 1048576) : ∀ (d i : Nat) (x3 : List S148),i + d = x0.length → x3.length = x0.length → Ev (fun k=>laws_toEdgeS.l0 k x0 x3 (i : Int)) (x3.take i ++ (x0.drop i).map cvEdge)
  | 0,i,x3,hi,h3=>by
    rw [List.drop_of_length_le (by omega),List.take_of_length_le (by omega),List.map_nil,List.append_nil]
    refine (Ev.now _).to fun k=>?_
    simp only [laws_toEdgeS.l0]
    rw [if_neg (by omega)]
  | d + 1,i,x3,hi,h3=>by
    have hlt : i < x0.length:=by omega
    have ih:=toEdgeS_go x0 hl d (i + 1) (x3.set i (cvEdge x0[i])) (by omega) (by rw [List.length_set];omega)
    rw [set_take _ _ (by omega),List.append_assoc] at ih
    rw [List.drop_eq_getElem_cons hlt,List.map_cons]
    refine ih.to fun k=>?_
    simp only [laws_toEdgeS.l0]
    rw [if_pos (by omega),if_pos (by omega),rl_Edge hlt]
    simp only [laws_toEdge.f,Option.bind_some]
    rw [if_pos (by omega),wid (by omega) (by omega)]
    rfl
theorem toEdgeS (x0 : List S187) (hl : x0.length ≤ 1048576) : Ev (fun k=>laws_toEdgeS.f k x0) (x0.map cvEdge):=by
  unfold laws_toEdgeS.f
  refine Ev.ifp (by omega) (Ev.ifp (by rw [Int.toNat_natCast];omega) ?_)
  have:=toEdgeS_go x0 hl x0.length 0 (List.replicate ((x0.length : Int) : Int).toNat z148) (by omega) (by rw [List.length_replicate,Int.toNat_natCast])
  simpa using this

theorem ri_Edge {xs : List S148} {i : Nat} (h : i < xs.length) : rd_T148 xs (i : Int) = xs[i]:=getD_at _ h

theorem eqEdge_self (x : S148) : laws_eqEdge.f x.f0 x.f1 x.f2 x.f3 x.f4 x.f0 x.f1 x.f2 x.f3 x.f4 = some true:=by unfold laws_eqEdge.f;simp
theorem eqEdgeS_go (x0 : List S148) (hl : x0.length ≤ 100000000) : ∀ (d i : Nat),i + d = x0.length → Ev (fun k=>laws_eqEdgeS.l0 k x0 x0 (i : Int)) true
  | 0,i,hi=>(Ev.now _).to fun k=>by simp only [laws_eqEdgeS.l0];rw [if_neg (by omega)]
  | d + 1,i,hi=>by
    refine (eqEdgeS_go x0 hl d (i + 1) (by omega)).to fun k=>?_
    simp only [laws_eqEdgeS.l0]
    rw [if_pos (by omega),if_pos (by omega),if_pos (by omega),eqEdge_self]
    simp only [Option.bind_some,if_true]
    rw [wid (by omega) (by omega)]
    rfl
theorem eqEdgeS (x0 : List S148) (hl : x0.length ≤ 100000000) : Ev (fun k=>laws_eqEdgeS.f k x0 x0) true:=by
  unfold laws_eqEdgeS.f
  exact Ev.ifp rfl (eqEdgeS_go x0 hl x0.length 0 (by omega))

theorem szEdgeS (x0 : List S187) (hl : x0.length ≤ 9223372036854775807) (m : Int) (h0 : 0 ≤ m) (h1 : m ≤ 1048576) : ∃ r,laws_szEdgeS.f x0 m = some r ∧ (r < 0 ∨ (r ≤ m ∧ x0.length ≤ 1048576)):=by
  unfold laws_szEdgeS.f
  have w : wrap64 (m - (x0.length : Int)) = m - x0.length:=wid (by omega) (by omega)
  rw [w];clear w
  by_cases hn : m - (x0.length : Int) < 0
  · exact ⟨-1,by rw [if_pos hn],.inl (by omega)⟩
  · exact ⟨_,by rw [if_neg hn],.inr ⟨by omega,by omega⟩⟩

theorem szGraph (n : Int) (l : List S187) (hl : l.length ≤ 9223372036854775807) (m : Int) (h0 : 0 ≤ m) (h1 : m ≤ 1048576) : ∃ r,laws_szGraph.f n l m = some r ∧ (r < 0 ∨ (r ≤ m ∧ l.length ≤ 1048576)):=by
  unfold laws_szGraph.f
  obtain ⟨r,hr,hc⟩:=szEdgeS l hl m h0 h1
  rw [hr]
  simp only [Option.bind_some]
  by_cases h : r < 0
  · exact ⟨-1,by rw [if_pos h],.inl (by omega)⟩
  · exact ⟨r,by rw [if_neg h],hc⟩
theorem toGraph (n : Int) (l : List S187) (hl : l.length ≤ 1048576) : Ev (fun k=>laws_toGraph.f k n l) (n,l.map cvEdge):=by
  unfold laws_toGraph.f
  exact (toEdgeS l hl).bind (Ev.now _)
theorem eqGraph (n : Int) (l : List S148) (hl : l.length ≤ 100000000) : Ev (fun k=>laws_eqGraph.f k n l n l) true:=by
  unfold laws_eqGraph.f
  refine Ev.ifp rfl ((eqEdgeS l hl).bind ?_)
  simp only [if_true]
  exact Ev.now _

theorem rl_Couple {xs : List S139} {i : Nat} (h : i < xs.length) : rd_T139 xs (i : Int) = xs[i]:=getD_at _ h

def cvCouple (x : S139) : S134:=⟨x.f0,x.f1⟩
theorem toCoupleS_go (x0 : List S139) (hl : x0.length ≤ 1048576) : ∀ (d i : Nat) (x3 : List S134),i + d = x0.length → x3.length = x0.length → Ev (fun k=>laws_toCoupleS.l0 k x0 x3 (i : Int)) (x3.take i ++ (x0.drop i).map cvCouple)
  | 0,i,x3,hi,h3=>by
    rw [List.drop_of_length_le (by omega),List.take_of_length_le (by omega),List.map_nil,List.append_nil]
    refine (Ev.now _).to fun k=>?_
    simp only [laws_toCoupleS.l0]
    rw [if_neg (by omega)]
  | d + 1,i,x3,hi,h3=>by
    have hlt : i < x0.length:=by omega
    have ih:=toCoupleS_go x0 hl d (i + 1) (x3.set i (cvCouple x0[i])) (by omega) (by rw [List.length_set];omega)
    rw [set_take _ _ (by omega),List.append_assoc] at ih
    rw [List.drop_eq_getElem_cons hlt,List.map_cons]
    refine ih.to fun k=>?_
    simp only [laws_toCoupleS.l0]
    rw [if_pos (by omega),if_pos (by omega),rl_Couple hlt]
    simp only [laws_toCouple.f,Option.bind_some]
    rw [if_pos (by omega),wid (by omega) (by omega)]
    rfl
theorem toCoupleS (x0 : List S139) (hl : x0.length ≤ 1048576) : Ev (fun k=>laws_toCoupleS.f k x0) (x0.map cvCouple):=by
  unfold laws_toCoupleS.f
  refine Ev.ifp (by omega) (Ev.ifp (by rw [Int.toNat_natCast];omega) ?_)
  have:=toCoupleS_go x0 hl x0.length 0 (List.replicate ((x0.length : Int) : Int).toNat z134) (by omega) (by rw [List.length_replicate,Int.toNat_natCast])
  simpa using this

theorem ri_Couple {xs : List S134} {i : Nat} (h : i < xs.length) : rd_T134 xs (i : Int) = xs[i]:=getD_at _ h

theorem eqCouple_self (x : S134) : laws_eqCouple.f x.f0 x.f1 x.f0 x.f1 = some true:=by unfold laws_eqCouple.f;simp
theorem eqCoupleS_go (x0 : List S134) (hl : x0.length ≤ 100000000) : ∀ (d i : Nat),i + d = x0.length → Ev (fun k=>laws_eqCoupleS.l0 k x0 x0 (i : Int)) true
  | 0,i,hi=>(Ev.now _).to fun k=>by simp only [laws_eqCoupleS.l0];rw [if_neg (by omega)]
  | d + 1,i,hi=>by
    refine (eqCoupleS_go x0 hl d (i + 1) (by omega)).to fun k=>?_
    simp only [laws_eqCoupleS.l0]
    rw [if_pos (by omega),if_pos (by omega),if_pos (by omega),eqCouple_self]
    simp only [Option.bind_some,if_true]
    rw [wid (by omega) (by omega)]
    rfl
theorem eqCoupleS (x0 : List S134) (hl : x0.length ≤ 100000000) : Ev (fun k=>laws_eqCoupleS.f k x0 x0) true:=by
  unfold laws_eqCoupleS.f
  exact Ev.ifp rfl (eqCoupleS_go x0 hl x0.length 0 (by omega))

theorem szCoupleS (x0 : List S139) (hl : x0.length ≤ 9223372036854775807) (m : Int) (h0 : 0 ≤ m) (h1 : m ≤ 1048576) : ∃ r,laws_szCoupleS.f x0 m = some r ∧ (r < 0 ∨ (r ≤ m ∧ x0.length ≤ 1048576)):=by
  unfold laws_szCoupleS.f
  have w : wrap64 (m - (x0.length : Int)) = m - x0.length:=wid (by omega) (by omega)
  rw [w];clear w
  by_cases hn : m - (x0.length : Int) < 0
  · exact ⟨-1,by rw [if_pos hn],.inl (by omega)⟩
  · exact ⟨_,by rw [if_neg hn],.inr ⟨by omega,by omega⟩⟩

/-! Right graphs -/
def edgeOk (n : Int) (e : S148) : Bool:=decide (0 ≤ e.f0 ∧ e.f0 < e.f1 ∧ e.f1 < n ∧ (0 ≤ e.f2 ∧ e.f2 ≤ 50) ∧ (0 ≤ e.f3 ∧ e.f3 ≤ 50) ∧ (0 ≤ e.f4 ∧ e.f4 ≤ 50))
def edgeLt (p e : S148) : Bool:=decide (p.f0 < e.f0 ∨ p.f0 = e.f0 ∧ p.f1 < e.f1)
def edgesOk (n : Int) : Option S148 → List S148 → Bool
  | _,[]=>true
  | none,e :: l=>edgeOk n e && edgesOk n (some e) l
  | some p,e :: l=>edgeOk n e && (edgeLt p e && edgesOk n (some e) l)
def gok (n : Int) (l : List S148) : Bool:=decide (0 ≤ n ∧ n ≤ 9) && edgesOk n none l
def prevE (l : List S148) : Nat → Option S148
  | 0=>none
  | i + 1=>l[i]?
theorem prevE_succ {l : List S148} {i : Nat} (h : i < l.length) : prevE l (i + 1) = some l[i]:=List.getElem?_eq_getElem h

def isE (a b : Int) (e : S148) : Prop:=e.f0 = a ∧ e.f1 = b ∨ e.f0 = b ∧ e.f1 = a
instance (a b : Int) (e : S148) : Decidable (isE a b e):=inferInstanceAs (Decidable (_ ∨ _))
def atE (a b : Int) : Nat → List S148 → Int
  | _,[]=>-1
  | i,e :: l=>if isE a b e then (i : Int) else atE a b (i + 1) l

def inL (l : List Int) (x : Int) : Bool:=decide (x ∈ l)
theorem inL_cons (y : Int) (l : List Int) (x : Int) : inL (y :: l) x = if y = x then true else inL l x:=by
  unfold inL
  by_cases h : y = x
  · rw [if_pos h];simp [h]
  · rw [if_neg h,decide_eq_decide];simp [show ¬ x = y from fun e=>h e.symm]

/-! Pairings -/
def capOk (E : List S148) (u : List Int) (a b : Int) : Bool:=decide (0 ≤ atE a b 0 E) && (!inL u a && !inL u b)
def prevLt : Option S134 → S134 → Bool
  | none,_=>true
  | some p,c=>decide (p.f0 < c.f0)
def mFrom (E : List S148) : List Int → Option S134 → List S134 → Bool
  | _,_,[]=>true
  | u,p,c :: l=>(decide (c.f0 < c.f1) && prevLt p c) && (capOk E u c.f0 c.f1 && mFrom E (u ++ [c.f0,c.f1]) (some c) l)
def mOk (n : Int) (E : List S148) (m : List S134) : Bool:=gok n E && mFrom E [] none m
def prevC (l : List S134) : Nat → Option S134
  | 0=>none
  | i + 1=>l[i]?
theorem prevC_succ {l : List S134} {i : Nat} (h : i < l.length) : prevC l (i + 1) = some l[i]:=List.getElem?_eq_getElem h
theorem edgesOk_all (n : Int) : ∀ (l : List S148) (p : Option S148),edgesOk n p l = true → ∀ e ∈ l,edgeOk n e = true
  | [],_,_,e,h=>by simp at h
  | x :: l,p,h,e,he=>by
    have hx : edgeOk n x = true ∧ edgesOk n (some x) l = true:=by
      cases p <;> simp only [edgesOk,Bool.and_eq_true] at h
      · exact h
      · exact ⟨h.1,h.2.2⟩
    rcases List.mem_cons.1 he with rfl|he
    · exact hx.1
    · exact edgesOk_all n l _ hx.2 e he
theorem gok_n {n : Int} {l : List S148} (h : gok n l = true) : 0 ≤ n ∧ n ≤ 9:=by
  unfold gok at h
  rw [Bool.and_eq_true,decide_eq_true_eq] at h
  exact h.1
theorem gok_all {n : Int} {l : List S148} (h : gok n l = true) : ∀ e ∈ l,0 ≤ e.f0 ∧ e.f0 < e.f1 ∧ e.f1 < n ∧ (0 ≤ e.f2 ∧ e.f2 ≤ 50) ∧ (0 ≤ e.f3 ∧ e.f3 ≤ 50) ∧ (0 ≤ e.f4 ∧ e.f4 ≤ 50):=by
  unfold gok at h
  rw [Bool.and_eq_true] at h
  intro e he
  have:=edgesOk_all n l none h.2 e he
  unfold edgeOk at this
  rwa [decide_eq_true_eq] at this
theorem atE_some (a b : Int) : ∀ (l : List S148) (i : Nat),0 ≤ atE a b i l → ∃ (h : ((atE a b i l).toNat - i) < l.length),(i : Int) ≤ atE a b i l ∧ isE a b l[(atE a b i l).toNat - i]
  | [],i,h=>by simp [atE] at h
  | e :: l,i,h=>by
    unfold atE at h ⊢
    by_cases hc : isE a b e
    · simp only [if_pos hc]
      have e0 : ((i : Int)).toNat - i = 0:=by omega
      refine ⟨by rw [e0];simp,by omega,?_⟩
      simp only [e0,List.getElem_cons_zero]
      exact hc
    · simp only [if_neg hc] at h ⊢
      obtain ⟨h1,h2,h3⟩:=atE_some a b l (i + 1) h
      have e1 : (atE a b (i + 1) l).toNat - i = ((atE a b (i + 1) l).toNat - (i + 1)) + 1:=by omega
      refine ⟨by rw [e1];simp;exact h1,by omega,?_⟩
      simp only [e1,List.getElem_cons_succ]
      exact h3
theorem atE_mem {a b : Int} {l : List S148} (h : 0 ≤ atE a b 0 l) : ∃ e ∈ l,isE a b e:=by
  obtain ⟨h1,_,h3⟩:=atE_some a b l 0 h
  exact ⟨_,List.getElem_mem h1,h3⟩
def lowC : Option S134 → Int
  | none=>0
  | some q=>q.f0 + 1
theorem mFrom_len {n : Int} {E : List S148} (hg : gok n E = true) : ∀ (m : List S134) (u : List Int) (p : Option S134),mFrom E u p m = true → (∀ q,p = some q → 0 ≤ q.f0) → (m.length : Int) ≤ 8 - lowC p ∨ m = []
  | [],_,_,_,_=>.inr rfl
  | c :: m,u,p,h,hp=>by
    left
    simp only [mFrom,capOk,Bool.and_eq_true,decide_eq_true_eq] at h
    obtain ⟨⟨h1,h2⟩,⟨h3,_⟩,h5⟩:=h
    obtain ⟨e,he,hi⟩:=atE_mem h3
    obtain ⟨e1,e2,e3,_⟩:=gok_all hg e he
    have hn:=gok_n hg
    have hc : 0 ≤ c.f0 ∧ c.f1 ≤ 8:=by
      rcases hi with ⟨g1,g2⟩|⟨g1,g2⟩
      · omega
      · omega
    have ih:=mFrom_len hg m _ (some c) h5 (fun q hq=>by injection hq with hq;rw [← hq];exact hc.1)
    have hpc : lowC p ≤ c.f0:=by
      cases p with
      | none=>exact hc.1
      | some q=>simp only [prevLt,decide_eq_true_eq] at h2;show q.f0 + 1 ≤ c.f0;omega
    simp only [List.length_cons]
    rcases ih with ih|rfl
    · have e : lowC (some c) = c.f0 + 1:=rfl
      omega
    · simp only [List.length_nil]
      omega
theorem mOk_len {n : Int} {E : List S148} {m : List S134} (h : mOk n E m = true) : m.length ≤ 8:=by
  unfold mOk at h
  rw [Bool.and_eq_true] at h
  rcases mFrom_len h.1 m [] none h.2 (fun q hq=>by cases hq) with h1|rfl
  · have e : lowC none = 0:=rfl
    omega
  · simp

/-! Sums -/
def sumsG (E : List S148) : List S134 → Int → Int → Int → Int × Int × Int
  | [],a,b,d=>(a,b,d)
  | c :: l,a,b,d=>sumsG E l (wrap64 (a + (rd_T148 E (atE c.f0 c.f1 0 E)).f2)) (wrap64 (b + (rd_T148 E (atE c.f0 c.f1 0 E)).f3)) (wrap64 (d + (rd_T148 E (atE c.f0 c.f1 0 E)).f4))
def sumsOf (n : Int) (E : List S148) (m : List S134) : Int × Int × Int × Bool :=
  if mOk n E m = true then ((sumsG E m 0 0 0).1,(sumsG E m 0 0 0).2.1,(sumsG E m 0 0 0).2.2,true) else (0,0,0,false)
theorem mFrom_at {E : List S148} : ∀ (m : List S134) (u : List Int) (p : Option S134),mFrom E u p m = true → ∀ c ∈ m,0 ≤ atE c.f0 c.f1 0 E
  | [],_,_,_,c,hc=>by simp at hc
  | x :: m,u,p,h,c,hc=>by
    simp only [mFrom,capOk,Bool.and_eq_true,decide_eq_true_eq] at h
    obtain ⟨_,⟨h3,_⟩,h5⟩:=h
    rcases List.mem_cons.1 hc with rfl|hc
    · exact h3
    · exact mFrom_at m _ _ h5 c hc
theorem mOk_at {n : Int} {E : List S148} {m : List S134} (h : mOk n E m = true) : ∀ c ∈ m,0 ≤ atE c.f0 c.f1 0 E:=by
  unfold mOk at h
  rw [Bool.and_eq_true] at h
  exact mFrom_at m [] none h.2
theorem atE_lt {a b : Int} {l : List S148} (h : 0 ≤ atE a b 0 l) : atE a b 0 l < (l.length : Int):=by
  obtain ⟨h1,_,_⟩:=atE_some a b l 0 h
  omega

theorem s_in (a b c : Int) : spec_l01In.f a b c = some (decide (b ≤ a ∧ a ≤ c)):=by
  unfold spec_l01In.f
  by_cases h : a ≥ b
  · rw [if_pos h];simp [show b ≤ a from h]
  · rw [if_neg h];simp [show ¬ b ≤ a from h]
theorem s_in_t {a b c : Int} (h : b ≤ a ∧ a ≤ c) : spec_l01In.f a b c = some true:=by rw [s_in,decide_eq_true h]
theorem s_in_f {a b c : Int} (h : ¬ (b ≤ a ∧ a ≤ c)) : spec_l01In.f a b c = some false:=by rw [s_in,decide_eq_false h]

theorem s_worth (a : Int) : spec_l08Worth.f a = some (decide (0 ≤ a ∧ a ≤ 50)):=by unfold spec_l08Worth.f;rw [s_in];rfl
theorem sGO_go (n : Int) (l : List S148) (hl : l.length ≤ 1048576) : ∀ (d i : Nat),i + d = l.length → Ev (fun k=>spec_GraphOk.l0 k (i : Int) n l) (edgesOk n (prevE l i) (l.drop i))
  | 0,i,hi=>by
    rw [List.drop_of_length_le (by omega)]
    refine Ev.ofEq ((Ev.now true).to fun k=>?_) (by cases prevE l i <;> rfl)
    simp only [spec_GraphOk.l0]
    rw [if_neg (by omega)]
  | d + 1,i,hi=>by
    have hlt : i < l.length:=by omega
    have ih:=sGO_go n l hl d (i + 1) (by omega)
    rw [List.drop_eq_getElem_cons hlt]
    have step : ∀ k,spec_GraphOk.l0 (k + 1) (i : Int) n l = spec_GraphOk.j1 k (i : Int) (!edgeOk n l[i]) n l l[i].f0 l[i].f1 l[i].f2 l[i].f3 l[i].f4:=by
      intro k
      simp only [spec_GraphOk.l0,s_worth,Option.bind_some]
      rw [if_pos (by omega),if_pos (by omega),ri_Edge hlt]
      generalize l[i] = e
      unfold edgeOk
      repeat' split
      all_goals first
        | (congr 1;symm;rw [Bool.not_eq_true',decide_eq_false_iff_not];(try simp only [decide_eq_true_eq] at *);omega)
        | (congr 2;rw [decide_eq_decide];(try simp only [decide_eq_true_eq] at *);omega)
    refine Ev.to ?_ step
    have w2 : qn (wrap64 ((i : Int) + 1) = ((i + 1 : Nat) : Int)):=⟨by rw [wid (by omega) (by omega)];rfl⟩
    cases hb : edgeOk n l[i] with
    | false =>
      have e : edgesOk n (prevE l i) (l[i] :: l.drop (i + 1)) = false:=by cases prevE l i <;> simp [edgesOk,hb]
      rw [e]
      exact (Ev.now _).to fun k=>by simp only [spec_GraphOk.j1];rw [if_pos (by decide)]
    | true =>
      rcases i with _|i
      · have e : edgesOk n (prevE l 0) (l[0] :: l.drop (0 + 1)) = edgesOk n (prevE l (0 + 1)) (l.drop (0 + 1)):=by rw [prevE_succ hlt];simp [edgesOk,hb,prevE]
        rw [e]
        refine ih.to fun k=>?_
        simp only [spec_GraphOk.j1]
        rw [if_neg (by decide),if_neg (by decide),w2.out]
      · have hlt' : i < l.length:=by omega
        have e : edgesOk n (prevE l (i + 1)) (l[i + 1] :: l.drop (i + 1 + 1)) = (edgeLt l[i] l[i + 1] && edgesOk n (prevE l (i + 1 + 1)) (l.drop (i + 1 + 1))):=by rw [prevE_succ hlt',prevE_succ hlt];simp [edgesOk,hb]
        rw [e]
        have w1 : qn (wrap64 (((i + 1 : Nat) : Int) - 1) = (i : Int)):=⟨by rw [wid (by omega) (by omega)];omega⟩
        cases hlt2 : edgeLt l[i] l[i + 1] with
        | false =>
          rw [Bool.false_and]
          refine (Ev.now _).to fun k=>?_
          simp only [spec_GraphOk.j1]
          rw [if_neg (by decide),if_pos (by omega),w1.out,if_pos (by omega),if_pos (by omega),ri_Edge hlt']
          unfold edgeLt at hlt2
          rw [decide_eq_false_iff_not] at hlt2
          by_cases h1 : l[i].f0 > l[i + 1].f0
          · rw [if_pos h1]
          · rw [if_neg h1,if_pos (by omega),if_pos (by omega)]
        | true =>
          rw [Bool.true_and]
          refine ih.to fun k=>?_
          simp only [spec_GraphOk.j1]
          rw [if_neg (by decide),if_pos (by omega),w1.out,if_pos (by omega),if_pos (by omega),ri_Edge hlt',w2.out]
          unfold edgeLt at hlt2
          rw [decide_eq_true_eq] at hlt2
          rw [if_neg (by omega)]
          by_cases h1 : l[i].f0 = l[i + 1].f0
          · rw [if_pos h1,if_neg (by omega)]
          · rw [if_neg h1]
theorem sGraphOk (n : Int) (l : List S148) (hl : l.length ≤ 1048576) : Ev (fun k=>spec_GraphOk.f k n l) (gok n l):=by
  unfold spec_GraphOk.f gok
  by_cases h : 0 ≤ n ∧ n ≤ 9
  · rw [s_in_t h,decide_eq_true h,Bool.true_and]
    simp only [Option.bind_some,if_true]
    exact sGO_go n l hl l.length 0 (by omega)
  · rw [s_in_f h,decide_eq_false h,Bool.false_and]
    simp only [Option.bind_some,Bool.false_eq_true,if_false]
    exact Ev.now _

theorem sAt_go (n a b : Int) (l : List S148) (hl : l.length ≤ 1048576) : ∀ (d i : Nat),i + d = l.length → Ev (fun k=>spec_l08At.l0 k a b (i : Int) n l) (atE a b i (l.drop i))
  | 0,i,hi=>by
    rw [List.drop_of_length_le (by omega)]
    exact (Ev.now _).to fun k=>by simp only [spec_l08At.l0];rw [if_neg (by omega)];rfl
  | d + 1,i,hi=>by
    have hlt : i < l.length:=by omega
    have ih:=sAt_go n a b l hl d (i + 1) (by omega)
    rw [List.drop_eq_getElem_cons hlt]
    have w2 : qn (wrap64 ((i : Int) + 1) = ((i + 1 : Nat) : Int)):=⟨by rw [wid (by omega) (by omega)];rfl⟩
    unfold atE
    by_cases hc : isE a b l[i]
    · rw [if_pos hc]
      refine (Ev.now _).to fun k=>?_
      simp only [spec_l08At.l0]
      rw [if_pos (by omega),if_pos (by omega),ri_Edge hlt]
      unfold isE at hc
      repeat' split
      all_goals first|rfl|omega
    · rw [if_neg hc]
      refine ih.to fun k=>?_
      simp only [spec_l08At.l0]
      rw [if_pos (by omega),if_pos (by omega),ri_Edge hlt,w2.out]
      unfold isE at hc
      repeat' split
      all_goals first|rfl|omega
theorem sAt (n a b : Int) (l : List S148) (hl : l.length ≤ 1048576) : Ev (fun k=>spec_l08At.f k n l a b) (atE a b 0 l):=by
  unfold spec_l08At.f
  exact sAt_go n a b l hl l.length 0 (by omega)

theorem sl03In_go (l : List Int) (x : Int) (hl : l.length ≤ 100000000) : ∀ (d i : Nat),i + d = l.length → Ev (fun k=>spec_l03In.l0 k l x (i : Int)) (inL (l.drop i) x)
  | 0,i,hi=>by
    rw [List.drop_of_length_le (by omega)]
    exact (Ev.now _).to fun k=>by simp only [spec_l03In.l0];rw [if_neg (by omega)];rfl
  | d + 1,i,hi=>by
    have hlt : i < l.length:=by omega
    have w2 : qn (wrap64 ((i : Int) + 1) = ((i + 1 : Nat) : Int)):=⟨by rw [wid (by omega) (by omega)];rfl⟩
    rw [List.drop_eq_getElem_cons hlt,inL_cons]
    by_cases h : l[i] = x
    · rw [if_pos h]
      refine (Ev.now _).to fun k=>?_
      simp only [spec_l03In.l0]
      rw [if_pos (by omega),if_pos (by omega),rd_at hlt,if_pos h]
    · rw [if_neg h]
      refine (sl03In_go l x hl d (i + 1) (by omega)).to fun k=>?_
      simp only [spec_l03In.l0]
      rw [if_pos (by omega),if_pos (by omega),rd_at hlt,if_neg h,w2.out]
theorem sl03In (l : List Int) (x : Int) (hl : l.length ≤ 100000000) : Ev (fun k=>spec_l03In.f k l x) (inL l x):=by
  unfold spec_l03In.f
  exact sl03In_go l x hl l.length 0 (by omega)

theorem sM_tail {n a b : Int} {E : List S148} {u : List Int} (hE : E.length ≤ 1048576) (hu : u.length ≤ 10000000) {L : Nat → List Int → Option Bool} {r : Bool} (hL : Ev (fun k=>L k (u ++ [a,b])) r) :
    Ev (fun k=>(spec_l08At.f k n E a b).bind fun t=>if t < 0 then some false else (spec_l03In.f k u a).bind fun t1=>if t1 = true then some false else (spec_l03In.f k u b).bind fun t2=>if t2 = true then some false else (some ([a,b] : List Int)).bind fun y=>if u.length + y.length < 17592186044416 then L k (u ++ y) else none) (capOk E u a b && r):=by
  unfold capOk
  refine (sAt n a b E hE).bind ?_
  by_cases h1 : atE a b 0 E < 0
  · rw [decide_eq_false (by omega),Bool.false_and,Bool.false_and]
    exact Ev.ifp h1 (Ev.now _)
  · rw [decide_eq_true (by omega),Bool.true_and]
    refine Ev.ifn h1 ((sl03In u a (by omega)).bind ?_)
    cases hA : inL u a with
    | true=>exact Ev.ifp rfl (Ev.now _)
    | false =>
      refine Ev.ifn (by decide) ((sl03In u b (by omega)).bind ?_)
      cases hB : inL u b with
      | true=>exact Ev.ifp rfl (Ev.now _)
      | false =>
        refine Ev.ifn (by decide) ?_
        simp only [Option.bind_some,Bool.not_false,Bool.true_and]
        exact Ev.ifp (by simp;omega) hL
theorem sMat_go (n : Int) (E : List S148) (hE : E.length ≤ 1048576) (l : List S134) (hl : l.length ≤ 1048576) : ∀ (d i : Nat) (u : List Int),i + d = l.length → u.length ≤ 2 * i → Ev (fun k=>spec_MatchOk.l0 k l u (i : Int) n E) (mFrom E u (prevC l i) (l.drop i))
  | 0,i,u,hi,hu=>by
    rw [List.drop_of_length_le (by omega)]
    refine Ev.ofEq ((Ev.now true).to fun k=>?_) (by cases prevC l i <;> rfl)
    simp only [spec_MatchOk.l0]
    rw [if_neg (by omega)]
  | d + 1,i,u,hi,hu=>by
    have hlt : i < l.length:=by omega
    have ih:=sMat_go n E hE l hl d (i + 1) (u ++ [l[i].f0,l[i].f1]) (by omega) (by simp;omega)
    rw [prevC_succ hlt] at ih
    have w2 : wrap64 ((i : Int) + 1) = ((i + 1 : Nat) : Int):=by rw [wid (by omega) (by omega)];rfl
    have tl:=sM_tail (n:=n) (a:=l[i].f0) (b:=l[i].f1) (E:=E) (u:=u) hE (by omega) (L:=fun k z=>spec_MatchOk.l0 k l z ((i + 1 : Nat) : Int) n E) ih
    rw [List.drop_eq_getElem_cons hlt,mFrom]
    by_cases h1 : l[i].f0 < l[i].f1
    · rw [decide_eq_true h1,Bool.true_and]
      rcases i with _|i
      · rw [show prevLt (prevC l 0) l[0] = true from rfl,Bool.true_and]
        refine tl.to fun k=>?_
        simp only [spec_MatchOk.l0,w2]
        clear w2
        rw [if_pos (by omega),if_pos (by omega),ri_Couple hlt,if_neg (by omega),if_neg (by omega)]
      · have hlt' : i < l.length:=by omega
        have w1 : wrap64 (((i + 1 : Nat) : Int) - 1) = (i : Int):=by rw [wid (by omega) (by omega)];omega
        rw [prevC_succ hlt',prevLt]
        by_cases h2 : l[i].f0 < l[i + 1].f0
        · rw [decide_eq_true h2,Bool.true_and]
          refine tl.to fun k=>?_
          simp only [spec_MatchOk.l0,w1,w2]
          clear w1 w2
          rw [if_pos (by omega),if_pos (by omega),ri_Couple hlt,if_neg (by omega),if_pos (by omega),if_pos (by omega),if_pos (by omega),ri_Couple hlt',if_neg (by omega)]
        · rw [decide_eq_false h2,Bool.false_and]
          refine (Ev.now _).to fun k=>?_
          simp only [spec_MatchOk.l0,w1,w2]
          clear w1 w2
          rw [if_pos (by omega),if_pos (by omega),ri_Couple hlt,if_neg (by omega),if_pos (by omega),if_pos (by omega),if_pos (by omega),ri_Couple hlt',if_pos (by omega)]
    · rw [decide_eq_false h1,Bool.false_and,Bool.false_and]
      refine (Ev.now _).to fun k=>?_
      simp only [spec_MatchOk.l0]
      clear w2
      rw [if_pos (by omega),if_pos (by omega),ri_Couple hlt,if_pos (by omega)]
theorem sMatchOk (n : Int) (E : List S148) (m : List S134) (hE : E.length ≤ 1048576) (hm : m.length ≤ 1048576) : Ev (fun k=>spec_MatchOk.f k n E m) (mOk n E m):=by
  unfold spec_MatchOk.f
  refine (sGraphOk n E hE).bind ?_
  by_cases h : gok n E = true
  · refine Ev.ifp h ?_
    by_cases h9 : m.length > 9
    · have : mOk n E m = false:=by
        cases hm : mOk n E m with
        | false=>rfl
        | true=>have:=mOk_len hm;omega
      rw [this,decide_eq_true (by omega)]
      exact (Ev.now _).to fun k=>by simp only [spec_MatchOk.j0,if_true]
    · unfold mOk
      rw [h,Bool.true_and,decide_eq_false (by omega)]
      refine Ev.to (sMat_go n E hE m hm m.length 0 [] (by omega) (by simp)) fun k=>?_
      simp only [spec_MatchOk.j0,Bool.false_eq_true,if_false]
      rfl
  · have : mOk n E m = false:=by unfold mOk;rw [Bool.eq_false_iff.2 h,Bool.false_and]
    rw [this]
    refine Ev.ifn h ?_
    exact (Ev.now _).to fun k=>by simp only [spec_MatchOk.j0,if_true]

theorem sSums_go (n : Int) (E : List S148) (hE : E.length ≤ 1048576) (l : List S134) (hl : l.length ≤ 1048576) (hA : ∀ c ∈ l,0 ≤ atE c.f0 c.f1 0 E) : ∀ (d i : Nat) (a b e : Int),i + d = l.length → Ev (fun k=>spec_l09Sums.l0 k l (i : Int) n E a b e) (sumsG E (l.drop i) a b e)
  | 0,i,a,b,e,hi=>by
    rw [List.drop_of_length_le (by omega)]
    refine (Ev.now _).to fun k=>?_
    simp only [spec_l09Sums.l0]
    rw [if_neg (by omega)]
    rfl
  | d + 1,i,a,b,e,hi=>by
    have hlt : i < l.length:=by omega
    have h0:=hA l[i] (List.getElem_mem hlt)
    have h1:=atE_lt h0
    have w2 : wrap64 ((i : Int) + 1) = ((i + 1 : Nat) : Int):=by rw [wid (by omega) (by omega)];rfl
    have ih:=sSums_go n E hE l hl hA d (i + 1) (wrap64 (a + (rd_T148 E (atE l[i].f0 l[i].f1 0 E)).f2)) (wrap64 (b + (rd_T148 E (atE l[i].f0 l[i].f1 0 E)).f3)) (wrap64 (e + (rd_T148 E (atE l[i].f0 l[i].f1 0 E)).f4)) (by omega)
    rw [List.drop_eq_getElem_cons hlt,sumsG]
    refine Ev.to ((sAt n l[i].f0 l[i].f1 E hE).bind (f:=fun k t=>if 0 ≤ t then (if t < (E.length : Int) then spec_l09Sums.l0 k l ((i + 1 : Nat) : Int) n E (wrap64 (a + (rd_T148 E t).f2)) (wrap64 (b + (rd_T148 E t).f3)) (wrap64 (e + (rd_T148 E t).f4)) else none) else none) (Ev.ifp h0 (Ev.ifp h1 ih))) fun k=>?_
    simp only [spec_l09Sums.l0,w2]
    clear w2 ih
    rw [if_pos (by omega),if_pos (by omega),ri_Couple hlt]
theorem sSumsOf (n : Int) (E : List S148) (m : List S134) (hE : E.length ≤ 1048576) (hm : m.length ≤ 1048576) : Ev (fun k=>spec_SumsOf.f k n E m) (sumsOf n E m):=by
  unfold spec_SumsOf.f sumsOf
  refine (sMatchOk n E m hE hm).bind ?_
  by_cases h : mOk n E m = true
  · rw [if_pos h]
    refine Ev.ifp h ?_
    have:=sSums_go n E hE m hm (mOk_at h) m.length 0 0 0 0 (by omega)
    rw [List.drop_zero] at this
    unfold spec_l09Sums.f
    exact Ev.bind this (Ev.now _)
  · rw [if_neg h]
    exact Ev.ifn h (Ev.now _)

theorem i_in (a b c : Int) : impl_in.f a b c = some (decide (b ≤ a ∧ a ≤ c)):=by
  unfold impl_in.f
  by_cases h : a ≥ b
  · rw [if_pos h];simp [show b ≤ a from h]
  · rw [if_neg h];simp [show ¬ b ≤ a from h]
theorem i_in_t {a b c : Int} (h : b ≤ a ∧ a ≤ c) : impl_in.f a b c = some true:=by rw [i_in,decide_eq_true h]
theorem i_in_f {a b c : Int} (h : ¬ (b ≤ a ∧ a ≤ c)) : impl_in.f a b c = some false:=by rw [i_in,decide_eq_false h]

theorem iGO_go (n : Int) (hn : 0 ≤ n ∧ n ≤ 9) (l : List S148) (hl : l.length ≤ 1048576) : ∀ (d i : Nat),i + d = l.length → Ev (fun k=>impl_GraphOk.l0 k l (l.length : Int) (i : Int) n l) (edgesOk n (prevE l i) (l.drop i))
  | 0,i,hi=>by
    rw [List.drop_of_length_le (by omega)]
    refine Ev.ofEq ((Ev.now true).to fun k=>?_) (by cases prevE l i <;> rfl)
    simp only [impl_GraphOk.l0]
    rw [if_neg (by omega)]
  | d + 1,i,hi=>by
    have hlt : i < l.length:=by omega
    have ih:=iGO_go n hn l hl d (i + 1) (by omega)
    rw [List.drop_eq_getElem_cons hlt]
    have step : ∀ k,impl_GraphOk.l0 (k + 1) l (l.length : Int) (i : Int) n l = impl_GraphOk.j1 k (i : Int) l (l.length : Int) (i : Int) (!edgeOk n l[i]) n l l[i].f0 l[i].f1 l[i].f2 l[i].f3 l[i].f4:=by
      intro k
      have w : wrap64 (n - 1) = n - 1:=wid (by omega) (by omega)
      simp only [impl_GraphOk.l0,i_in,Option.bind_some,w]
      clear w
      rw [if_pos (by omega),if_pos (by omega),if_pos (by omega),ri_Edge hlt]
      generalize l[i] = e
      unfold edgeOk
      repeat' split
      all_goals first
        | (congr 1;symm;rw [Bool.not_eq_true',decide_eq_false_iff_not];(try simp only [decide_eq_true_eq] at *);omega)
        | (congr 2;rw [decide_eq_decide];(try simp only [decide_eq_true_eq] at *);omega)
    refine Ev.to ?_ step
    have w2 : qn (wrap64 ((i : Int) + 1) = ((i + 1 : Nat) : Int)):=⟨by rw [wid (by omega) (by omega)];rfl⟩
    cases hb : edgeOk n l[i] with
    | false =>
      have e : edgesOk n (prevE l i) (l[i] :: l.drop (i + 1)) = false:=by cases prevE l i <;> simp [edgesOk,hb]
      rw [e]
      exact (Ev.now _).to fun k=>by simp only [impl_GraphOk.j1];rw [if_pos (by decide)]
    | true =>
      rcases i with _|i
      · have e : edgesOk n (prevE l 0) (l[0] :: l.drop (0 + 1)) = edgesOk n (prevE l (0 + 1)) (l.drop (0 + 1)):=by rw [prevE_succ hlt];simp [edgesOk,hb,prevE]
        rw [e]
        refine ih.to fun k=>?_
        simp only [impl_GraphOk.j1]
        rw [if_neg (by decide),if_neg (by decide),w2.out]
      · have hlt' : i < l.length:=by omega
        have e : edgesOk n (prevE l (i + 1)) (l[i + 1] :: l.drop (i + 1 + 1)) = (edgeLt l[i] l[i + 1] && edgesOk n (prevE l (i + 1 + 1)) (l.drop (i + 1 + 1))):=by rw [prevE_succ hlt',prevE_succ hlt];simp [edgesOk,hb]
        rw [e]
        have w1 : qn (wrap64 (((i + 1 : Nat) : Int) - 1) = (i : Int)):=⟨by rw [wid (by omega) (by omega)];omega⟩
        cases hlt2 : edgeLt l[i] l[i + 1] with
        | false =>
          rw [Bool.false_and]
          refine (Ev.now _).to fun k=>?_
          simp only [impl_GraphOk.j1]
          rw [if_neg (by decide),if_pos (by omega),w1.out,if_pos (by omega),if_pos (by omega),ri_Edge hlt']
          unfold edgeLt at hlt2
          rw [decide_eq_false_iff_not] at hlt2
          by_cases h1 : l[i].f0 > l[i + 1].f0
          · rw [if_pos h1]
          · rw [if_neg h1,if_pos (by omega),if_pos (by omega)]
        | true =>
          rw [Bool.true_and]
          refine ih.to fun k=>?_
          simp only [impl_GraphOk.j1]
          rw [if_neg (by decide),if_pos (by omega),w1.out,if_pos (by omega),if_pos (by omega),ri_Edge hlt',w2.out]
          unfold edgeLt at hlt2
          rw [decide_eq_true_eq] at hlt2
          rw [if_neg (by omega)]
          by_cases h1 : l[i].f0 = l[i + 1].f0
          · rw [if_pos h1,if_neg (by omega)]
          · rw [if_neg h1]
theorem iGraphOk (n : Int) (l : List S148) (hl : l.length ≤ 1048576) : Ev (fun k=>impl_GraphOk.f k n l) (gok n l):=by
  unfold impl_GraphOk.f gok
  by_cases h : 0 ≤ n ∧ n ≤ 9
  · rw [i_in_t h,decide_eq_true h,Bool.true_and]
    simp only [Option.bind_some,if_true]
    exact iGO_go n h l hl l.length 0 (by omega)
  · rw [i_in_f h,decide_eq_false h,Bool.false_and]
    simp only [Option.bind_some,Bool.false_eq_true,if_false]
    exact Ev.now _

theorem iAt_go (a b : Int) (l : List S148) (hl : l.length ≤ 1048576) : ∀ (d i : Nat),i + d = l.length → Ev (fun k=>impl_edgeAt.l0 k a b l (l.length : Int) (i : Int)) (atE a b i (l.drop i))
  | 0,i,hi=>by
    rw [List.drop_of_length_le (by omega)]
    exact (Ev.now _).to fun k=>by simp only [impl_edgeAt.l0];rw [if_neg (by omega)];rfl
  | d + 1,i,hi=>by
    have hlt : i < l.length:=by omega
    have ih:=iAt_go a b l hl d (i + 1) (by omega)
    rw [List.drop_eq_getElem_cons hlt]
    have w2 : qn (wrap64 ((i : Int) + 1) = ((i + 1 : Nat) : Int)):=⟨by rw [wid (by omega) (by omega)];rfl⟩
    unfold atE
    by_cases hc : isE a b l[i]
    · rw [if_pos hc]
      refine (Ev.now _).to fun k=>?_
      simp only [impl_edgeAt.l0]
      rw [if_pos (by omega),if_pos (by omega),if_pos (by omega),ri_Edge hlt]
      unfold isE at hc
      repeat' split
      all_goals first|rfl|omega
    · rw [if_neg hc]
      refine ih.to fun k=>?_
      simp only [impl_edgeAt.l0]
      rw [if_pos (by omega),if_pos (by omega),if_pos (by omega),ri_Edge hlt,w2.out]
      unfold isE at hc
      repeat' split
      all_goals first|rfl|omega
theorem iAt (n a b : Int) (l : List S148) (hl : l.length ≤ 1048576) : Ev (fun k=>impl_edgeAt.f k n l a b) (atE a b 0 l):=by
  unfold impl_edgeAt.f
  exact iAt_go a b l hl l.length 0 (by omega)

theorem ihasInt_go (l : List Int) (x : Int) (hl : l.length ≤ 100000000) : ∀ (d i : Nat),i + d = l.length → Ev (fun k=>impl_hasInt.l0 k x l (l.length : Int) (i : Int)) (inL (l.drop i) x)
  | 0,i,hi=>by
    rw [List.drop_of_length_le (by omega)]
    exact (Ev.now _).to fun k=>by simp only [impl_hasInt.l0];rw [if_neg (by omega)];rfl
  | d + 1,i,hi=>by
    have hlt : i < l.length:=by omega
    have w2 : qn (wrap64 ((i : Int) + 1) = ((i + 1 : Nat) : Int)):=⟨by rw [wid (by omega) (by omega)];rfl⟩
    rw [List.drop_eq_getElem_cons hlt,inL_cons]
    by_cases h : l[i] = x
    · rw [if_pos h]
      refine (Ev.now _).to fun k=>?_
      simp only [impl_hasInt.l0]
      rw [if_pos (by omega),if_pos (by omega),if_pos (by omega),rd_at hlt,if_pos h]
    · rw [if_neg h]
      refine (ihasInt_go l x hl d (i + 1) (by omega)).to fun k=>?_
      simp only [impl_hasInt.l0]
      rw [if_pos (by omega),if_pos (by omega),if_pos (by omega),rd_at hlt,if_neg h,w2.out]
theorem ihasInt (l : List Int) (x : Int) (hl : l.length ≤ 100000000) : Ev (fun k=>impl_hasInt.f k l x) (inL l x):=by
  unfold impl_hasInt.f
  exact ihasInt_go l x hl l.length 0 (by omega)

theorem iM_tail {a b : Int} {E : List S148} {u : List Int} (hu : u.length ≤ 10000000) {L : Nat → List Int → Option Bool} {r : Bool} (hL : Ev (fun k=>L k (u ++ [a,b])) r) :
    Ev (fun k=>(impl_hasInt.f k u a).bind fun t1=>if t1 = true then some false else (impl_hasInt.f k u b).bind fun t2=>if t2 = true then some false else (some ([a,b] : List Int)).bind fun y=>if u.length + y.length < 17592186044416 then L k (u ++ y) else none) ((!inL u a && !inL u b) && r):=by
  refine (ihasInt u a (by omega)).bind ?_
  cases hA : inL u a with
  | true=>exact Ev.ifp rfl (Ev.now _)
  | false =>
    refine Ev.ifn (by decide) ((ihasInt u b (by omega)).bind ?_)
    cases hB : inL u b with
    | true=>exact Ev.ifp rfl (Ev.now _)
    | false =>
      refine Ev.ifn (by decide) ?_
      simp only [Option.bind_some,Bool.not_false,Bool.true_and]
      exact Ev.ifp (by simp;omega) hL
theorem iMat_go (n : Int) (E : List S148) (hE : E.length ≤ 1048576) (l : List S134) (hl : l.length ≤ 1048576) : ∀ (d i : Nat) (u : List Int),i + d = l.length → u.length ≤ 2 * i → Ev (fun k=>impl_MatchOk.l0 k l u l (l.length : Int) (i : Int) n E) (mFrom E u (prevC l i) (l.drop i))
  | 0,i,u,hi,hu=>by
    rw [List.drop_of_length_le (by omega)]
    refine Ev.ofEq ((Ev.now true).to fun k=>?_) (by cases prevC l i <;> rfl)
    simp only [impl_MatchOk.l0]
    rw [if_neg (by omega)]
  | d + 1,i,u,hi,hu=>by
    have hlt : i < l.length:=by omega
    have ih:=iMat_go n E hE l hl d (i + 1) (u ++ [l[i].f0,l[i].f1]) (by omega) (by simp;omega)
    rw [prevC_succ hlt] at ih
    have w2 : wrap64 ((i : Int) + 1) = ((i + 1 : Nat) : Int):=by rw [wid (by omega) (by omega)];rfl
    have tl:=iM_tail (a:=l[i].f0) (b:=l[i].f1) (E:=E) (u:=u) (by omega) (L:=fun k z=>impl_MatchOk.l0 k l z l (l.length : Int) ((i + 1 : Nat) : Int) n E) ih
    rw [List.drop_eq_getElem_cons hlt,mFrom]
    unfold capOk
    by_cases h1 : l[i].f0 < l[i].f1
    · rw [decide_eq_true h1,Bool.true_and]
      by_cases h3 : atE l[i].f0 l[i].f1 0 E < 0
      · rw [decide_eq_false (show ¬ 0 ≤ atE l[i].f0 l[i].f1 0 E by omega),Bool.false_and,Bool.false_and,Bool.and_false]
        refine Ev.to (f:=fun k=>(impl_edgeAt.f k n E l[i].f0 l[i].f1).bind fun t197=>if t197 < 0 then some false else if (i : Int) > 0 then (if 0 ≤ wrap64 ((i : Int) - 1) then (if wrap64 ((i : Int) - 1) < (l.length : Int) then (if (rd_T134 l (wrap64 ((i : Int) - 1))).f0 ≥ l[i].f0 then some false else (impl_hasInt.f k u l[i].f0).bind fun t1=>if t1 = true then some false else (impl_hasInt.f k u l[i].f1).bind fun t2=>if t2 = true then some false else (some ([l[i].f0,l[i].f1] : List Int)).bind fun y=>if u.length + y.length < 17592186044416 then impl_MatchOk.l0 k l (u ++ y) l (l.length : Int) (wrap64 ((i : Int) + 1)) n E else none) else none) else none) else (impl_hasInt.f k u l[i].f0).bind fun t1=>if t1 = true then some false else (impl_hasInt.f k u l[i].f1).bind fun t2=>if t2 = true then some false else (some ([l[i].f0,l[i].f1] : List Int)).bind fun y=>if u.length + y.length < 17592186044416 then impl_MatchOk.l0 k l (u ++ y) l (l.length : Int) (wrap64 ((i : Int) + 1)) n E else none) (r:=false) ((iAt n l[i].f0 l[i].f1 E hE).bind (Ev.ifp h3 (Ev.now _))) fun k=>?_
        simp only [impl_MatchOk.l0]
        clear w2
        rw [if_pos (by omega),if_pos (by omega),if_pos (by omega),ri_Couple hlt,if_neg (by omega)]
      · rw [decide_eq_true (show 0 ≤ atE l[i].f0 l[i].f1 0 E by omega),Bool.true_and]
        rcases i with _|i
        · rw [show prevLt (prevC l 0) l[0] = true from rfl,Bool.true_and]
          have hr:=ri_Couple hlt
          generalize l[0] = c at *
          refine Ev.to ((iAt n c.f0 c.f1 E hE).bind (f:=fun k t=>if t < 0 then some false else (impl_hasInt.f k u c.f0).bind fun t1=>if t1 = true then some false else (impl_hasInt.f k u c.f1).bind fun t2=>if t2 = true then some false else (some ([c.f0,c.f1] : List Int)).bind fun y=>if u.length + y.length < 17592186044416 then impl_MatchOk.l0 k l (u ++ y) l (l.length : Int) ((0 + 1 : Nat) : Int) n E else none) (Ev.ifn h3 tl)) fun k=>?_
          simp only [impl_MatchOk.l0,w2]
          clear w2
          rw [if_pos (by omega),if_pos (by omega),if_pos (by omega),hr,if_neg (by omega)]
          congr 1
        · have hlt' : i < l.length:=by omega
          have w1 : wrap64 (((i + 1 : Nat) : Int) - 1) = (i : Int):=by rw [wid (by omega) (by omega)];omega
          rw [prevC_succ hlt',prevLt]
          by_cases h2 : l[i].f0 < l[i + 1].f0
          · rw [decide_eq_true h2,Bool.true_and]
            refine Ev.to ((iAt n l[i + 1].f0 l[i + 1].f1 E hE).bind (f:=fun k t=>if t < 0 then some false else (impl_hasInt.f k u l[i + 1].f0).bind fun t1=>if t1 = true then some false else (impl_hasInt.f k u l[i + 1].f1).bind fun t2=>if t2 = true then some false else (some ([l[i + 1].f0,l[i + 1].f1] : List Int)).bind fun y=>if u.length + y.length < 17592186044416 then impl_MatchOk.l0 k l (u ++ y) l (l.length : Int) ((i + 1 + 1 : Nat) : Int) n E else none) (Ev.ifn h3 tl)) fun k=>?_
            simp only [impl_MatchOk.l0,w1,w2]
            clear w1 w2
            rw [if_pos (by omega),if_pos (by omega),if_pos (by omega),ri_Couple hlt,if_neg (by omega)]
            congr 1
            funext t
            rw [if_pos (show ((i + 1 : Nat) : Int) > 0 by omega),if_pos (show (0 : Int) ≤ (i : Int) by omega),if_pos (show (i : Int) < (l.length : Int) by omega),ri_Couple hlt',if_neg (show ¬ l[i].f0 ≥ l[i + 1].f0 by omega)]
          · rw [decide_eq_false h2,Bool.false_and]
            refine Ev.to ((iAt n l[i + 1].f0 l[i + 1].f1 E hE).bind (f:=fun k t=>if t < 0 then some false else some false) (Ev.ifn h3 (Ev.now _))) fun k=>?_
            simp only [impl_MatchOk.l0,w1,w2]
            clear w1 w2
            rw [if_pos (by omega),if_pos (by omega),if_pos (by omega),ri_Couple hlt,if_neg (by omega)]
            congr 1
            funext t
            rw [if_pos (show ((i + 1 : Nat) : Int) > 0 by omega),if_pos (show (0 : Int) ≤ (i : Int) by omega),if_pos (show (i : Int) < (l.length : Int) by omega),ri_Couple hlt',if_pos (show l[i].f0 ≥ l[i + 1].f0 by omega)]
    · rw [decide_eq_false h1,Bool.false_and,Bool.false_and]
      refine (Ev.now _).to fun k=>?_
      simp only [impl_MatchOk.l0]
      clear w2
      rw [if_pos (by omega),if_pos (by omega),if_pos (by omega),ri_Couple hlt,if_pos (by omega)]
theorem iMatchOk (n : Int) (E : List S148) (m : List S134) (hE : E.length ≤ 1048576) (hm : m.length ≤ 1048576) : Ev (fun k=>impl_MatchOk.f k n E m) (mOk n E m):=by
  unfold impl_MatchOk.f mOk
  refine (iGraphOk n E hE).bind ?_
  by_cases h : gok n E = true
  · rw [h,Bool.true_and]
    exact Ev.ifp rfl (iMat_go n E hE m hm m.length 0 [] (by omega) (by simp))
  · rw [Bool.eq_false_iff.2 h,Bool.false_and]
    exact Ev.ifn (by decide) (Ev.now _)

theorem iSums_go (n : Int) (E : List S148) (hE : E.length ≤ 1048576) (l : List S134) (hl : l.length ≤ 1048576) (hA : ∀ c ∈ l,0 ≤ atE c.f0 c.f1 0 E) : ∀ (d i : Nat) (a b e : Int),i + d = l.length → Ev (fun k=>impl_SumsOf.l0 k l (l.length : Int) (i : Int) n E a b e) ((sumsG E (l.drop i) a b e).1,(sumsG E (l.drop i) a b e).2.1,(sumsG E (l.drop i) a b e).2.2,true)
  | 0,i,a,b,e,hi=>by
    rw [List.drop_of_length_le (by omega)]
    refine (Ev.now _).to fun k=>?_
    simp only [impl_SumsOf.l0]
    rw [if_neg (by omega)]
    rfl
  | d + 1,i,a,b,e,hi=>by
    have hlt : i < l.length:=by omega
    have h0:=hA l[i] (List.getElem_mem hlt)
    have h1:=atE_lt h0
    have w2 : wrap64 ((i : Int) + 1) = ((i + 1 : Nat) : Int):=by rw [wid (by omega) (by omega)];rfl
    have ih:=iSums_go n E hE l hl hA d (i + 1) (wrap64 (a + (rd_T148 E (atE l[i].f0 l[i].f1 0 E)).f2)) (wrap64 (b + (rd_T148 E (atE l[i].f0 l[i].f1 0 E)).f3)) (wrap64 (e + (rd_T148 E (atE l[i].f0 l[i].f1 0 E)).f4)) (by omega)
    rw [List.drop_eq_getElem_cons hlt,sumsG]
    refine Ev.to ((iAt n l[i].f0 l[i].f1 E hE).bind (f:=fun k t=>if 0 ≤ t then (if t < (E.length : Int) then impl_SumsOf.l0 k l (l.length : Int) ((i + 1 : Nat) : Int) n E (wrap64 (a + (rd_T148 E t).f2)) (wrap64 (b + (rd_T148 E t).f3)) (wrap64 (e + (rd_T148 E t).f4)) else none) else none) (Ev.ifp h0 (Ev.ifp h1 ih))) fun k=>?_
    simp only [impl_SumsOf.l0,impl_Sums_plus.f,Option.bind_some,w2]
    clear w2 ih
    rw [if_pos (by omega),if_pos (by omega),if_pos (by omega),ri_Couple hlt]
theorem iSumsOf (n : Int) (E : List S148) (m : List S134) (hE : E.length ≤ 1048576) (hm : m.length ≤ 1048576) : Ev (fun k=>impl_SumsOf.f k n E m) (sumsOf n E m):=by
  unfold impl_SumsOf.f sumsOf
  refine (iMatchOk n E m hE hm).bind ?_
  by_cases h : mOk n E m = true
  · rw [if_pos h]
    refine Ev.ifp h ?_
    have:=iSums_go n E hE m hm (mOk_at h) m.length 0 0 0 0 (by omega)
    rw [List.drop_zero] at this
    exact this
  · rw [if_neg h]
    exact Ev.ifn h (Ev.now _)

theorem FnExactSumsOf : laws_FnExactSumsOf.Pure:=by
  intro n E m _ hE hm
  refine Ev.rounds (g:=fun k=>laws_FnExactSumsOf.f k n E m) ?_
  unfold laws_FnExactSumsOf.f
  obtain ⟨r,hr,hc⟩:=szGraph n E hE.1 1048576 (by decide) (by decide)
  rw [hr]
  simp only [Option.bind_some]
  by_cases h : r < 0
  · exact Ev.ifp h (Ev.now _)
  refine Ev.ifn h ?_
  have hc:=hc.resolve_left h
  obtain ⟨q,hq,hd⟩:=szCoupleS m hm.1 r (by omega) (by omega)
  rw [hq]
  simp only [Option.bind_some]
  by_cases h' : q < 0
  · exact Ev.ifp h' (Ev.now _)
  refine Ev.ifn h' ?_
  have hd:=hd.resolve_left h'
  have hEm : (E.map cvEdge).length ≤ 1048576:=by rw [List.length_map];exact hc.2
  have hmm : (m.map cvCouple).length ≤ 1048576:=by rw [List.length_map];exact hd.2
  have tG:=toGraph n E hc.2
  have tC:=toCoupleS m hd.2
  refine tG.bind (tC.bind ((sSumsOf n _ _ hEm hmm).bind (tG.bind (tC.bind ((iSumsOf n _ _ hEm hmm).bind ?_)))))
  simp only [laws_eqSums.f,bne_rfl_bool,Bool.false_eq_true,if_false,if_true,Option.bind_some]
  have hEG:=eqGraph n (E.map cvEdge) (by omega)
  have hEC:=eqCoupleS (m.map cvCouple) (by omega)
  refine Ev.to (f:=fun k=>(laws_toGraph.f k n E).bind fun bt=>(laws_eqGraph.f k n (E.map cvEdge) bt.1 bt.2).bind fun t=>if t = true then (laws_toCoupleS.f k m).bind fun z=>(laws_eqCoupleS.f k (m.map cvCouple) z).bind fun y=>if y = true then some true else some false else some false) (r:=true) (tG.bind (hEG.bind (Ev.ifp rfl (tC.bind (hEC.bind (Ev.ifp rfl (Ev.now _))))))) fun k=>?_
  simp only [laws_FnExactSumsOf.j0,Bool.false_eq_true,if_false]

end Go.Proofs.Ytbonjmnpcklciaa.Pure
