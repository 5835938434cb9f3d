/- The program's ProofOk and the reference's ProofOk return the same flag, for every graph and every proof, and leave them as they were. -/
import Derived.Test.YtcdofljgeiohgaaZFnExactProofOkx13
import Derived.Laws.BitsAllLaws
namespace Go.Proofs.Ytcdofljgeiohgaa.Pure
open Go.RowKit Go.Proofs.Ytcdofljgeiohgaa.QFnExactProofOk Go.Proofs.YtcdofljgeiohgaaW.PrintWords Go.Proofs.YtcdofljgeiohgaaW.PrintLast
set_option linter.unusedVariables false
set_option linter.unusedSimpArgs false
set_option maxHeartbeats 4000000

def laws_FnExactProofOk.Pure : Prop:=∀ (a0_0 : Int) (l0_1 : List (S129)) (l1_0 : List (Int)) (l1_1 : List (S124)),((Lit.int .i64 a0_0).wf = true) → (l0_1.length ≤ 9223372036854775807 ∧ ∀ x1 ∈ l0_1,((Lit.int .i64 x1.f0).wf = true) ∧ ((Lit.int .i64 x1.f1).wf = true) ∧ ((Lit.int .i64 x1.f2).wf = true) ∧ ((Lit.int .i64 x1.f3).wf = true) ∧ ((Lit.int .i64 x1.f4).wf = true)) → (l1_0.length ≤ 9223372036854775807 ∧ ∀ x1 ∈ l1_0,(Lit.int .i64 x1).wf = true) → (l1_1.length ≤ 9223372036854775807 ∧ ∀ x1 ∈ l1_1,(x1.f0.length ≤ 9223372036854775807 ∧ ∀ x2 ∈ x1.f0,(Lit.int .i64 x2).wf = true) ∧ ((Lit.int .i64 x1.f1).wf = true)) → ∃ k,laws_FnExactProofOk.f k a0_0 l0_1 l1_0 l1_1 = some true

theorem wid {n : Int} (h0 : -9223372036854775808 ≤ n) (h1 : n < 9223372036854775808) : wrap64 n = n:=by unfold wrap64;omega
theorem _root_.Go.Proofs.YtcdofljgeiohgaaW.PrintWords.Ev.ofEq {α : Type} {g : Nat → Option α} {r q : α} (h : Ev g r) (e : r = q) : Ev g q:=e ▸ h
theorem _root_.Go.Proofs.YtcdofljgeiohgaaW.PrintWords.Ev.same {α : Type} {o : Option α} {r : α} (h : o = some r) : Ev (fun _=>o) r:=⟨0,fun _ _=>h⟩
theorem _root_.Go.Proofs.YtcdofljgeiohgaaW.PrintWords.Ev.to {α : Type} {g f : Nat → Option α} {r : α} (k : Ev f r) (h : ∀ k,g (k + 1) = f k) : Ev g r:=Ev.step h k
theorem _root_.Go.Proofs.YtcdofljgeiohgaaW.PrintWords.Ev.ifp {α : Type} {c : Prop} [Decidable c] {g f : Nat → Option α} {r : α} (h : c) (e : Ev g r) : Ev (fun k=>if c then g k else f k) r:=by simp only [if_pos h];exact e
theorem _root_.Go.Proofs.YtcdofljgeiohgaaW.PrintWords.Ev.ifn {α : Type} {c : Prop} [Decidable c] {g f : Nat → Option α} {r : α} (h : ¬ c) (e : Ev f r) : Ev (fun k=>if c then g k else f k) r:=by simp only [if_neg h];exact e
def Byt (xs : List Int) : Prop:=∀ x ∈ xs,0 ≤ x ∧ x < 256
theorem Byt.nil : Byt []:=fun _ h=>by simp at h
theorem Byt.cons {x : Int} {xs : List Int} (h : 0 ≤ x ∧ x < 256) (h' : Byt xs) : Byt (x :: xs):=fun y hy=>by
  rcases List.mem_cons.1 hy with rfl|hy
  · exact h
  · exact h' y hy
theorem Byt.head {x : Int} {xs : List Int} (h : Byt (x :: xs)) : 0 ≤ x ∧ x < 256:=h x (List.mem_cons_self ..)
theorem Byt.drop {xs : List Int} (h : Byt xs) (n : Nat) : Byt (xs.drop n):=fun y hy=>h y (List.mem_of_mem_drop hy)
theorem Byt.take {xs : List Int} (h : Byt xs) (n : Nat) : Byt (xs.take n):=fun y hy=>h y (List.mem_of_mem_take hy)
theorem bne_rfl_bool (b : Bool) : (b != b) = false:=by cases b <;> rfl
theorem Byt.one {x : Int} (h : 0 ≤ x ∧ x < 256) : Byt [x]:=Byt.nil.cons h
theorem set_take {α : Type} (xs : List α) {i : Nat} (v : α) (h : i < xs.length) : (xs.set i v).take (i + 1) = xs.take i ++ [v]:=by
  rw [List.take_succ_eq_append_getElem (by rw [List.length_set];exact h),List.getElem_set_self,List.take_set_of_le (Nat.le_refl _)]
theorem getD_at {α : Type} {xs : List α} {i : Nat} (z : α) (h : i < xs.length) : xs.getD ((i : Int)).toNat z = xs[i]:=by
  rw [Int.toNat_natCast,List.getD_eq_getElem?_getD,List.getElem?_eq_getElem h];rfl
theorem rd_at {xs : List Int} {i : Nat} (h : i < xs.length) : rd xs (i : Int) = xs[i]:=getD_at 0 h
theorem rl_Edge {xs : List S129} {i : Nat} (h : i < xs.length) : rd_T129 xs (i : Int) = xs[i]:=getD_at _ h

def cvEdge (x : S129) : S101:=⟨x.f0,x.f1,x.f2,x.f3,x.f4⟩
theorem toEdgeS_go (x0 : List S129) (hl : x0.length ≤ 1048576) : ∀ (d i : Nat) (x3 : List S101),i + d = x0.length → x3.length = x0.length → Ev (fun k=>laws_toEdgeS.l0 k x0 x3 (i : Int)) (x3.take i ++ (x0.drop i).map cvEdge)
  | 0,i,x3,hi,h3=>by
    rw [List.drop_of_length_le (by omega),List.take_of_length_le (by omega),List.map_nil,List.append_nil]
    refine (Ev.now _).to fun k=>?_
    simp only [laws_toEdgeS.l0]
    rw [if_neg (by omega)]
  | d + 1,i,x3,hi,h3=>by
    have hlt : i < x0.length:=by omega
    have ih:=toEdgeS_go x0 hl d (i + 1) (x3.set i (cvEdge x0[i])) (by omega) (by rw [List.length_set];omega)
    rw [set_take _ _ (by omega),List.append_assoc] at ih
    rw [List.drop_eq_getElem_cons hlt,List.map_cons]
    refine ih.to fun k=>?_
    simp only [laws_toEdgeS.l0]
    rw [if_pos (by omega),if_pos (by omega),rl_Edge hlt]
    simp only [laws_toEdge.f,Option.bind_some]
    rw [if_pos (by omega),wid (by omega) (by omega)]
    rfl
theorem toEdgeS (x0 : List S129) (hl : x0.length ≤ 1048576) : Ev (fun k=>laws_toEdgeS.f k x0) (x0.map cvEdge):=by
  unfold laws_toEdgeS.f
  refine Ev.ifp (by omega) (Ev.ifp (by rw [Int.toNat_natCast];omega) ?_)
  have:=toEdgeS_go x0 hl x0.length 0 (List.replicate ((x0.length : Int) : Int).toNat z101) (by omega) (by rw [List.length_replicate,Int.toNat_natCast])
  simpa using this

theorem ri_Edge {xs : List S101} {i : Nat} (h : i < xs.length) : rd_T101 xs (i : Int) = xs[i]:=getD_at _ h

theorem eqEdge_self (x : S101) : laws_eqEdge.f x.f0 x.f1 x.f2 x.f3 x.f4 x.f0 x.f1 x.f2 x.f3 x.f4 = some true:=by unfold laws_eqEdge.f;simp
theorem eqEdgeS_go (x0 : List S101) (hl : x0.length ≤ 100000000) : ∀ (d i : Nat),i + d = x0.length → Ev (fun k=>laws_eqEdgeS.l0 k x0 x0 (i : Int)) true
  | 0,i,hi=>(Ev.now _).to fun k=>by simp only [laws_eqEdgeS.l0];rw [if_neg (by omega)]
  | d + 1,i,hi=>by
    refine (eqEdgeS_go x0 hl d (i + 1) (by omega)).to fun k=>?_
    simp only [laws_eqEdgeS.l0]
    rw [if_pos (by omega),if_pos (by omega),if_pos (by omega),eqEdge_self]
    simp only [Option.bind_some,if_true]
    rw [wid (by omega) (by omega)]
    rfl
theorem eqEdgeS (x0 : List S101) (hl : x0.length ≤ 100000000) : Ev (fun k=>laws_eqEdgeS.f k x0 x0) true:=by
  unfold laws_eqEdgeS.f
  exact Ev.ifp rfl (eqEdgeS_go x0 hl x0.length 0 (by omega))

theorem szEdgeS (x0 : List S129) (hl : x0.length ≤ 9223372036854775807) (m : Int) (h0 : 0 ≤ m) (h1 : m ≤ 1048576) : ∃ r,laws_szEdgeS.f x0 m = some r ∧ (r < 0 ∨ (r ≤ m ∧ x0.length ≤ 1048576)):=by
  unfold laws_szEdgeS.f
  have w : wrap64 (m - (x0.length : Int)) = m - x0.length:=wid (by omega) (by omega)
  rw [w];clear w
  by_cases hn : m - (x0.length : Int) < 0
  · exact ⟨-1,by rw [if_pos hn],.inl (by omega)⟩
  · exact ⟨_,by rw [if_neg hn],.inr ⟨by omega,by omega⟩⟩

theorem szGraph (n : Int) (l : List S129) (hl : l.length ≤ 9223372036854775807) (m : Int) (h0 : 0 ≤ m) (h1 : m ≤ 1048576) : ∃ r,laws_szGraph.f n l m = some r ∧ (r < 0 ∨ (r ≤ m ∧ l.length ≤ 1048576)):=by
  unfold laws_szGraph.f
  obtain ⟨r,hr,hc⟩:=szEdgeS l hl m h0 h1
  rw [hr]
  simp only [Option.bind_some]
  by_cases h : r < 0
  · exact ⟨-1,by rw [if_pos h],.inl (by omega)⟩
  · exact ⟨r,by rw [if_neg h],hc⟩
theorem toGraph (n : Int) (l : List S129) (hl : l.length ≤ 1048576) : Ev (fun k=>laws_toGraph.f k n l) (n,l.map cvEdge):=by
  unfold laws_toGraph.f
  exact (toEdgeS l hl).bind (Ev.now _)
theorem eqGraph (n : Int) (l : List S101) (hl : l.length ≤ 100000000) : Ev (fun k=>laws_eqGraph.f k n l n l) true:=by
  unfold laws_eqGraph.f
  refine Ev.ifp rfl ((eqEdgeS l hl).bind ?_)
  simp only [if_true]
  exact Ev.now _

theorem rl_Group {xs : List S124} {i : Nat} (h : i < xs.length) : rd_T124 xs (i : Int) = xs[i]:=getD_at _ h

theorem toIntS_go (x0 : List Int) (hl : x0.length ≤ 1048576) : ∀ (d i : Nat) (x3 : List Int),i + d = x0.length → x3.length = x0.length → Ev (fun k=>laws_toIntS.l0 k x0 x3 (i : Int)) (x3.take i ++ x0.drop i)
  | 0,i,x3,hi,h3=>by
    rw [List.drop_of_length_le (by omega),List.take_of_length_le (by omega),List.append_nil]
    refine (Ev.now _).to fun k=>?_
    simp only [laws_toIntS.l0]
    rw [if_neg (by omega)]
  | d + 1,i,x3,hi,h3=>by
    have hlt : i < x0.length:=by omega
    have ih:=toIntS_go x0 hl d (i + 1) (x3.set i x0[i]) (by omega) (by rw [List.length_set];omega)
    rw [set_take _ _ (by omega),List.append_assoc] at ih
    rw [List.drop_eq_getElem_cons hlt]
    refine ih.to fun k=>?_
    simp only [laws_toIntS.l0]
    rw [if_pos (by omega),if_pos (by omega),if_pos (by omega),rd_at hlt,wid (by omega) (by omega)]
    rfl
theorem toIntS (x0 : List Int) (hl : x0.length ≤ 1048576) : Ev (fun k=>laws_toIntS.f k x0) x0:=by
  unfold laws_toIntS.f
  refine Ev.ifp (by omega) (Ev.ifp (by rw [Int.toNat_natCast];omega) ?_)
  have:=toIntS_go x0 hl x0.length 0 (List.replicate ((x0.length : Int) : Int).toNat 0) (by omega) (by rw [List.length_replicate,Int.toNat_natCast])
  simpa using this

def cvGroup (x : S124) : S97:=⟨x.f0,x.f1⟩
theorem toGroup (l : List Int) (z : Int) (h : l.length ≤ 1048576) : Ev (fun k=>laws_toGroup.f k l z) (l,z):=by
  unfold laws_toGroup.f
  exact (toIntS l h).bind (Ev.now _)
theorem toGroupS_go (x0 : List S124) (hl : x0.length ≤ 1048576) (hx : ∀ x ∈ x0,x.f0.length ≤ 1048576) : ∀ (d i : Nat) (x3 : List S97),i + d = x0.length → x3.length = x0.length → Ev (fun k=>laws_toGroupS.l0 k x0 x3 (i : Int)) (x3.take i ++ (x0.drop i).map cvGroup)
  | 0,i,x3,hi,h3=>by
    rw [List.drop_of_length_le (by omega),List.take_of_length_le (by omega),List.map_nil,List.append_nil]
    refine (Ev.now _).to fun k=>?_
    simp only [laws_toGroupS.l0]
    rw [if_neg (by omega)]
  | d + 1,i,x3,hi,h3=>by
    have hlt : i < x0.length:=by omega
    have ih:=toGroupS_go x0 hl hx d (i + 1) (x3.set i (cvGroup x0[i])) (by omega) (by rw [List.length_set];omega)
    rw [set_take _ _ (by omega),List.append_assoc] at ih
    rw [List.drop_eq_getElem_cons hlt,List.map_cons]
    have w : qn (wrap64 ((i : Int) + 1) = ((i + 1 : Nat) : Int)):=⟨by rw [wid (by omega) (by omega)];rfl⟩
    refine Ev.to (f:=fun k=>(laws_toGroup.f k x0[i].f0 x0[i].f1).bind fun bt=>laws_toGroupS.l0 k x0 (x3.set i (⟨bt.1,bt.2⟩ : S97)) ((i + 1 : Nat) : Int)) ((toGroup _ _ (hx _ (List.getElem_mem hlt))).bind ih) fun k=>?_
    simp only [laws_toGroupS.l0]
    rw [if_pos (by omega),if_pos (by omega),rl_Group hlt]
    congr 1
    funext bt
    rw [if_pos (by omega),w.out,Int.toNat_natCast]
theorem toGroupS (x0 : List S124) (hl : x0.length ≤ 1048576) (hx : ∀ x ∈ x0,x.f0.length ≤ 1048576) : Ev (fun k=>laws_toGroupS.f k x0) (x0.map cvGroup):=by
  unfold laws_toGroupS.f
  refine Ev.ifp (by omega) (Ev.ifp (by rw [Int.toNat_natCast];omega) ?_)
  have:=toGroupS_go x0 hl hx x0.length 0 (List.replicate ((x0.length : Int) : Int).toNat z97) (by omega) (by rw [List.length_replicate,Int.toNat_natCast])
  simpa using this
theorem toProof (Y : List Int) (G : List S124) (hY : Y.length ≤ 1048576) (hG : G.length ≤ 1048576) (hx : ∀ x ∈ G,x.f0.length ≤ 1048576) : Ev (fun k=>laws_toProof.f k Y G) (Y,G.map cvGroup):=by
  unfold laws_toProof.f
  exact (toIntS Y hY).bind ((toGroupS G hG hx).bind (Ev.now _))

theorem ri_Group {xs : List S97} {i : Nat} (h : i < xs.length) : rd_T97 xs (i : Int) = xs[i]:=getD_at _ h

theorem eqIntS_go (x0 : List Int) (hl : x0.length ≤ 100000000) : ∀ (d i : Nat),i + d = x0.length → Ev (fun k=>laws_eqIntS.l0 k x0 x0 (i : Int)) true
  | 0,i,hi=>(Ev.now _).to fun k=>by simp only [laws_eqIntS.l0];rw [if_neg (by omega)]
  | d + 1,i,hi=>by
    refine (eqIntS_go x0 hl d (i + 1) (by omega)).to fun k=>?_
    simp only [laws_eqIntS.l0,if_true]
    rw [if_pos (by omega),if_pos (by omega),if_pos (by omega),wid (by omega) (by omega)]
    rfl
theorem eqIntS (x0 : List Int) (hl : x0.length ≤ 100000000) : Ev (fun k=>laws_eqIntS.f k x0 x0) true:=by
  unfold laws_eqIntS.f
  exact Ev.ifp rfl (eqIntS_go x0 hl x0.length 0 (by omega))

theorem eqGroup_self (x : S97) (h : x.f0.length ≤ 100000000) : Ev (fun k=>laws_eqGroup.f k x.f0 x.f1 x.f0 x.f1) true:=by
  unfold laws_eqGroup.f
  exact (eqIntS x.f0 h).bind (Ev.ifp rfl (Ev.ifp rfl (Ev.now _)))
theorem eqGroupS_go (x0 : List S97) (hl : x0.length ≤ 100000000) (hx : ∀ x ∈ x0,x.f0.length ≤ 100000000) : ∀ (d i : Nat),i + d = x0.length → Ev (fun k=>laws_eqGroupS.l0 k x0 x0 (i : Int)) true
  | 0,i,hi=>(Ev.now _).to fun k=>by simp only [laws_eqGroupS.l0];rw [if_neg (by omega)]
  | d + 1,i,hi=>by
    have hlt : i < x0.length:=by omega
    have w : qn (wrap64 ((i : Int) + 1) = ((i + 1 : Nat) : Int)):=⟨by rw [wid (by omega) (by omega)];rfl⟩
    refine Ev.to (f:=fun k=>(laws_eqGroup.f k x0[i].f0 x0[i].f1 x0[i].f0 x0[i].f1).bind fun t=>if t = true then laws_eqGroupS.l0 k x0 x0 ((i + 1 : Nat) : Int) else some false) ((eqGroup_self x0[i] (hx _ (List.getElem_mem hlt))).bind (Ev.ifp rfl (eqGroupS_go x0 hl hx d (i + 1) (by omega)))) fun k=>?_
    simp only [laws_eqGroupS.l0]
    rw [if_pos (by omega),if_pos (by omega),if_pos (by omega),ri_Group hlt,w.out]
theorem eqGroupS (x0 : List S97) (hl : x0.length ≤ 100000000) (hx : ∀ x ∈ x0,x.f0.length ≤ 100000000) : Ev (fun k=>laws_eqGroupS.f k x0 x0) true:=by
  unfold laws_eqGroupS.f
  exact Ev.ifp rfl (eqGroupS_go x0 hl hx x0.length 0 (by omega))
theorem eqProof (Y : List Int) (G : List S97) (hY : Y.length ≤ 100000000) (hl : G.length ≤ 100000000) (hx : ∀ x ∈ G,x.f0.length ≤ 100000000) : Ev (fun k=>laws_eqProof.f k Y G Y G) true:=by
  unfold laws_eqProof.f
  exact (eqIntS Y hY).bind (Ev.ifp rfl ((eqGroupS G hl hx).bind (Ev.ifp rfl (Ev.now _))))

theorem szIntS_ (l : List Int) (hl : l.length ≤ 9223372036854775807) (m : Int) (h0 : 0 ≤ m) (h1 : m ≤ 1048576) : ∃ r,laws_szIntS.f l m = some r ∧ (r < 0 ∨ (0 ≤ r ∧ r ≤ m ∧ l.length ≤ 1048576)):=by
  unfold laws_szIntS.f
  have w : wrap64 (m - (l.length : Int)) = m - l.length:=wid (by omega) (by omega)
  rw [w];clear w
  by_cases h : m - (l.length : Int) < 0
  · rw [if_pos h];exact ⟨_,rfl,.inl (by omega)⟩
  · rw [if_neg h];exact ⟨_,rfl,.inr ⟨by omega,by omega,by omega⟩⟩
theorem szGroup_ (x : S124) (hl : x.f0.length ≤ 9223372036854775807) (m : Int) (h0 : 0 ≤ m) (h1 : m ≤ 1048576) : ∃ r,laws_szGroup.f x.f0 x.f1 m = some r ∧ (r < 0 ∨ (0 ≤ r ∧ r ≤ m ∧ x.f0.length ≤ 1048576)):=by
  unfold laws_szGroup.f
  obtain ⟨r,hr,hc⟩:=szIntS_ x.f0 hl m h0 h1
  rw [hr]
  simp only [Option.bind_some]
  by_cases h : r < 0
  · rw [if_pos h];exact ⟨_,rfl,.inl (by omega)⟩
  · rw [if_neg h];exact ⟨_,rfl,hc⟩
theorem szGroupS_go (x0 : List S124) (hl : x0.length ≤ 1048576) (hx : ∀ x ∈ x0,x.f0.length ≤ 9223372036854775807) : ∀ (d i : Nat) (m : Int),i + d = x0.length → 0 ≤ m → m ≤ 1048576 → ∃ r,Ev (fun k=>laws_szGroupS.l0 k x0 m (i : Int)) r ∧ (r < 0 ∨ (0 ≤ r ∧ r ≤ m ∧ ∀ x ∈ x0.drop i,x.f0.length ≤ 1048576))
  | 0,i,m,hi,h0,h1=>⟨m,(Ev.now _).to fun k=>by simp only [laws_szGroupS.l0];rw [if_neg (by omega)],.inr ⟨by omega,by omega,fun x h=>by rw [List.drop_of_length_le (by omega)] at h;simp at h⟩⟩
  | d + 1,i,m,hi,h0,h1=>by
    have hlt : i < x0.length:=by omega
    obtain ⟨r,hr,hc⟩:=szGroup_ x0[i] (hx _ (List.getElem_mem hlt)) m h0 h1
    by_cases hn : r < 0
    · refine ⟨-1,(Ev.now _).to fun k=>?_,.inl (by omega)⟩
      simp only [laws_szGroupS.l0]
      rw [if_pos (by omega),if_pos (by omega),rl_Group hlt,hr]
      simp only [Option.bind_some]
      rw [if_pos hn]
    · have hc':=hc.resolve_left hn
      obtain ⟨r',hr',hc2⟩:=szGroupS_go x0 hl hx d (i + 1) r (by omega) (by omega) (by omega)
      refine ⟨r',hr'.to fun k=>?_,?_⟩
      · simp only [laws_szGroupS.l0]
        rw [if_pos (by omega),if_pos (by omega),rl_Group hlt,hr]
        simp only [Option.bind_some]
        rw [if_neg hn,wid (by omega) (by omega)]
        rfl
      · rcases hc2 with hc2|⟨h2,h3,h4⟩
        · exact .inl hc2
        · refine .inr ⟨by omega,by omega,fun x hx'=>?_⟩
          rw [List.drop_eq_getElem_cons hlt] at hx'
          rcases List.mem_cons.1 hx' with rfl|hx'
          · exact hc'.2.2
          · exact h4 x hx'
theorem szGroupS (x0 : List S124) (hl : x0.length ≤ 9223372036854775807) (hx : ∀ x ∈ x0,x.f0.length ≤ 9223372036854775807) (m : Int) (h0 : 0 ≤ m) (h1 : m ≤ 1048576) : ∃ r,Ev (fun k=>laws_szGroupS.f k x0 m) r ∧ (r < 0 ∨ (x0.length ≤ 1048576 ∧ ∀ x ∈ x0,x.f0.length ≤ 1048576)):=by
  unfold laws_szGroupS.f
  have w : wrap64 (m - (x0.length : Int)) = m - x0.length:=wid (by omega) (by omega)
  rw [w];clear w
  by_cases hn : m - (x0.length : Int) < 0
  · exact ⟨-1,Ev.ifp hn (Ev.now _),.inl (by omega)⟩
  · obtain ⟨r,hr,hc⟩:=szGroupS_go x0 (by omega) hx x0.length 0 (m - x0.length) (by omega) (by omega) (by omega)
    refine ⟨r,Ev.ifn hn hr,?_⟩
    rcases hc with hc|⟨h2,h3,h4⟩
    · exact .inl hc
    · exact .inr ⟨by omega,fun x hx'=>h4 x (by simpa using hx')⟩
theorem szProof (Y : List Int) (G : List S124) (hY : Y.length ≤ 9223372036854775807) (hG : G.length ≤ 9223372036854775807) (hx : ∀ x ∈ G,x.f0.length ≤ 9223372036854775807) (m : Int) (h0 : 0 ≤ m) (h1 : m ≤ 1048576) : ∃ r,Ev (fun k=>laws_szProof.f k Y G m) r ∧ (r < 0 ∨ (Y.length ≤ 1048576 ∧ G.length ≤ 1048576 ∧ ∀ x ∈ G,x.f0.length ≤ 1048576)):=by
  unfold laws_szProof.f
  obtain ⟨r,hr,hc⟩:=szIntS_ Y hY m h0 h1
  rw [hr]
  simp only [Option.bind_some]
  by_cases h : r < 0
  · exact ⟨-1,Ev.ifp h (Ev.now _),.inl (by decide)⟩
  · have hc:=hc.resolve_left h
    obtain ⟨q,hq,hd⟩:=szGroupS G hG hx r (by omega) (by omega)
    by_cases h' : q < 0
    · exact ⟨-1,Ev.ifn h (hq.bind (Ev.ifp h' (Ev.now _))),.inl (by decide)⟩
    · exact ⟨q,Ev.ifn h (hq.bind (Ev.ifn h' (Ev.now _))),.inr ⟨hc.2.2,hd.resolve_left h'⟩⟩

/-! Right graphs -/
def edgeOk (n : Int) (e : S101) : Bool:=decide (0 ≤ e.f0 ∧ e.f0 < e.f1 ∧ e.f1 < n ∧ (0 ≤ e.f2 ∧ e.f2 ≤ 50) ∧ (0 ≤ e.f3 ∧ e.f3 ≤ 50) ∧ (0 ≤ e.f4 ∧ e.f4 ≤ 50))
def edgeLt (p e : S101) : Bool:=decide (p.f0 < e.f0 ∨ p.f0 = e.f0 ∧ p.f1 < e.f1)
def edgesOk (n : Int) : Option S101 → List S101 → Bool
  | _,[]=>true
  | none,e :: l=>edgeOk n e && edgesOk n (some e) l
  | some p,e :: l=>edgeOk n e && (edgeLt p e && edgesOk n (some e) l)
def gok (n : Int) (l : List S101) : Bool:=decide (0 ≤ n ∧ n ≤ 9) && edgesOk n none l
def prevE (l : List S101) : Nat → Option S101
  | 0=>none
  | i + 1=>l[i]?
theorem prevE_succ {l : List S101} {i : Nat} (h : i < l.length) : prevE l (i + 1) = some l[i]:=List.getElem?_eq_getElem h

def isE (a b : Int) (e : S101) : Prop:=e.f0 = a ∧ e.f1 = b ∨ e.f0 = b ∧ e.f1 = a
instance (a b : Int) (e : S101) : Decidable (isE a b e):=inferInstanceAs (Decidable (_ ∨ _))
theorem edgesOk_all (n : Int) : ∀ (l : List S101) (p : Option S101),edgesOk n p l = true → ∀ e ∈ l,edgeOk n e = true
  | [],_,_,e,h=>by simp at h
  | x :: l,p,h,e,he=>by
    have hx : edgeOk n x = true ∧ edgesOk n (some x) l = true:=by
      cases p <;> simp only [edgesOk,Bool.and_eq_true] at h
      · exact h
      · exact ⟨h.1,h.2.2⟩
    rcases List.mem_cons.1 he with rfl|he
    · exact hx.1
    · exact edgesOk_all n l _ hx.2 e he
theorem gok_n {n : Int} {l : List S101} (h : gok n l = true) : 0 ≤ n ∧ n ≤ 9:=by
  unfold gok at h
  rw [Bool.and_eq_true,decide_eq_true_eq] at h
  exact h.1
theorem gok_all {n : Int} {l : List S101} (h : gok n l = true) : ∀ e ∈ l,0 ≤ e.f0 ∧ e.f0 < e.f1 ∧ e.f1 < n ∧ (0 ≤ e.f2 ∧ e.f2 ≤ 50) ∧ (0 ≤ e.f3 ∧ e.f3 ≤ 50) ∧ (0 ≤ e.f4 ∧ e.f4 ≤ 50):=by
  unfold gok at h
  rw [Bool.and_eq_true] at h
  intro e he
  have:=edgesOk_all n l none h.2 e he
  unfold edgeOk at this
  rwa [decide_eq_true_eq] at this
def inL (l : List Int) (x : Int) : Bool:=decide (x ∈ l)
theorem inL_cons (y : Int) (l : List Int) (x : Int) : inL (y :: l) x = if y = x then true else inL l x:=by
  unfold inL
  by_cases h : y = x
  · rw [if_pos h];simp [h]
  · rw [if_neg h,decide_eq_decide];simp [show ¬ x = y from fun e=>h e.symm]

/-! Right proofs -/
def scalE (e : S101) : Int:=wrap64 ((wrap64 ((wrap64 (90000 * e.f2)) + (wrap64 (300 * e.f3)))) + e.f4)
def slkGo (a b : Int) : Int → List S97 → Int
  | acc,[]=>acc
  | acc,x :: l=>slkGo a b (if inL x.f0 a = true ∧ inL x.f0 b = true then wrap64 (acc + x.f1) else acc) l
def slkP (Y : List Int) (G : List S97) (e : S101) : Int:=slkGo e.f0 e.f1 (wrap64 ((wrap64 ((rd Y e.f0) + (rd Y e.f1))) - (wrap64 (2 * scalE e)))) G
def memOk (n : Int) : Option Int → List Int → Bool
  | _,[]=>true
  | p,v :: l=>decide (0 ≤ v ∧ v ≤ n - 1) && ((match p with|none=>true|some q=>decide (q < v)) && memOk n (some v) l)
def ltO (p : Option Int) (v : Int) : Bool:=match p with|none=>true|some q=>decide (q < v)
theorem memOk_cons (n : Int) (p : Option Int) (v : Int) (l : List Int) : memOk n p (v :: l) = (decide (0 ≤ v ∧ v ≤ n - 1) && (ltO p v && memOk n (some v) l)):=by cases p <;> rfl
def prevI (m : List Int) : Nat → Option Int
  | 0=>none
  | i + 1=>m[i]?
theorem prevI_succ {m : List Int} {i : Nat} (h : i < m.length) : prevI m (i + 1) = some m[i]:=List.getElem?_eq_getElem h
def grpOk (n : Int) (x : S97) : Bool:=decide (3 ≤ x.f0.length ∧ ¬ (x.f0.length : Int) % 2 = 0 ∧ 1 ≤ x.f1 ∧ x.f1 ≤ 1000000000) && memOk n none x.f0
def inAll (a b : List Int) : Bool:=a.all fun v=>inL b v
def inNo (a b : List Int) : Bool:=a.all fun v=>!inL b v
def nestI (x z : List Int) : Bool:=inAll x z || (inNo x z || inAll z x)
def cntL (a b : List Int) : Nat:=(a.filter fun v=>inL b v).length
def nestS (z x : List Int) : Bool:=decide (cntL z x = 0 ∨ cntL z x = z.length ∨ cntL z x = x.length)
def grpsI (n : Int) : List S97 → List S97 → Bool
  | _,[]=>true
  | P,x :: l=>grpOk n x && ((P.all fun z=>nestI x.f0 z.f0) && grpsI n (P ++ [x]) l)
def grpsS (n : Int) : List S97 → List S97 → Bool
  | _,[]=>true
  | P,x :: l=>decide ((x.f0.length : Int) ≤ n) && (grpOk n x && ((P.all fun z=>nestS z.f0 x.f0) && grpsS n (P ++ [x]) l))
theorem memOk_lo (n : Int) : ∀ (l : List Int) (q : Int),memOk n (some q) l = true → ∀ v ∈ l,q < v ∧ v ≤ n - 1
  | [],_,_,v,h=>by simp at h
  | x :: l,q,h,v,hv=>by
    simp only [memOk,Bool.and_eq_true,decide_eq_true_eq] at h
    rcases List.mem_cons.1 hv with rfl|hv
    · exact ⟨h.2.1,h.1.2⟩
    · have:=memOk_lo n l x h.2.2 v hv
      omega
theorem memOk_nodup (n : Int) : ∀ (l : List Int) (p : Option Int),memOk n p l = true → l.Nodup
  | [],_,_=>List.nodup_nil
  | x :: l,p,h=>by
    simp only [memOk,Bool.and_eq_true,decide_eq_true_eq] at h
    refine List.nodup_cons.2 ⟨fun hx=>?_,memOk_nodup n l _ h.2.2⟩
    have:=memOk_lo n l x h.2.2 x hx
    omega
theorem memOk_len (n : Int) : ∀ (l : List Int) (q : Int),q ≤ n - 1 → memOk n (some q) l = true → (l.length : Int) ≤ n - 1 - q
  | [],q,hq,_=>by simp;omega
  | x :: l,q,hq,h=>by
    simp only [memOk,Bool.and_eq_true,decide_eq_true_eq] at h
    have:=memOk_len n l x h.1.2 h.2.2
    rw [List.length_cons]
    omega
theorem memOk_le {n : Int} (hn : 0 ≤ n) : ∀ {l : List Int},memOk n none l = true → (l.length : Int) ≤ n
  | [],_=>by simpa using hn
  | x :: l,h=>by
    simp only [memOk,Bool.and_eq_true,decide_eq_true_eq] at h
    have:=memOk_len n l x h.1.2 h.2.2
    rw [List.length_cons]
    omega
theorem nodup_le : ∀ {a b : List Int},a.Nodup → (∀ v ∈ a,v ∈ b) → a.length ≤ b.length
  | [],_,_,_=>Nat.zero_le _
  | v :: a,b,h,hs=>by
    obtain ⟨hv,ha⟩:=List.nodup_cons.1 h
    have hb:=hs v (List.mem_cons_self ..)
    have:=nodup_le (b:=b.erase v) ha (fun w hw=>(List.mem_erase_of_ne (show w ≠ v from fun e=>hv (e ▸ hw))).2 (hs w (List.mem_cons_of_mem _ hw)))
    rw [List.length_erase_of_mem hb] at this
    have hp:=List.length_pos_of_mem hb
    rw [List.length_cons]
    omega
theorem inL_iff {l : List Int} {v : Int} : inL l v = true ↔ v ∈ l:=by unfold inL;simp
theorem nest_eq {x z : List Int} (hx : x.Nodup) (hz : z.Nodup) : nestS z x = nestI x z:=by
  have hf : ∀ v,v ∈ (z.filter fun v=>inL x v) ↔ v ∈ z ∧ v ∈ x:=fun v=>by rw [List.mem_filter,inL_iff]
  have hfn : (z.filter fun v=>inL x v).Nodup:=hz.filter _
  have h0 : cntL z x = 0 ↔ inNo x z = true:=by
    unfold cntL inNo
    rw [List.length_eq_zero_iff,List.all_eq_true]
    constructor
    · intro h v hv
      cases hb : inL z v with
      | false=>rfl
      | true =>
        have:=(hf v).2 ⟨inL_iff.1 hb,hv⟩
        rw [h] at this
        simp at this
    · intro h
      apply List.eq_nil_iff_forall_not_mem.2
      intro v hv
      obtain ⟨h1,h2⟩:=(hf v).1 hv
      have:=h v h2
      rw [inL_iff.2 h1] at this
      cases this
  have h1 : cntL z x = z.length ↔ inAll z x = true:=by
    unfold cntL inAll
    rw [List.all_eq_true]
    exact List.length_filter_eq_length_iff
  have h2 : cntL z x = x.length ↔ inAll x z = true:=by
    unfold cntL inAll
    rw [List.all_eq_true]
    constructor
    · intro h v hv
      refine inL_iff.2 ?_
      refine Decidable.byContradiction fun hn=>?_
      have:=nodup_le (b:=x.erase v) hfn (fun w hw=>(List.mem_erase_of_ne (show w ≠ v from fun e=>hn (e ▸ ((hf w).1 hw).1))).2 ((hf w).1 hw).2)
      rw [List.length_erase_of_mem hv,h] at this
      have hp:=List.length_pos_of_mem hv
      omega
    · intro h
      have a:=nodup_le hfn (b:=x) (fun w hw=>((hf w).1 hw).2)
      have b:=nodup_le hx (b:=z.filter fun v=>inL x v) (fun w hw=>(hf w).2 ⟨inL_iff.1 (h w hw),hw⟩)
      omega
  unfold nestS nestI
  rw [Bool.eq_iff_iff]
  simp only [decide_eq_true_eq,Bool.or_eq_true,h0,h1,h2]
  constructor
  · rintro (h|h|h)
    · exact .inr (.inl h)
    · exact .inr (.inr h)
    · exact .inl h
  · rintro (h|h|h)
    · exact .inr (.inr h)
    · exact .inl h
    · exact .inr (.inl h)
theorem grps_eq {n : Int} (hn : 0 ≤ n) : ∀ (l P : List S97),(∀ z ∈ P,z.f0.Nodup) → grpsS n P l = grpsI n P l
  | [],P,_=>rfl
  | x :: l,P,hP=>by
    rw [grpsS,grpsI]
    cases hg : grpOk n x with
    | false=>simp
    | true =>
      have hm : memOk n none x.f0 = true:=by
        unfold grpOk at hg
        rw [Bool.and_eq_true] at hg
        exact hg.2
      have hnx:=memOk_nodup n _ _ hm
      rw [decide_eq_true (memOk_le hn hm),Bool.true_and,Bool.true_and,Bool.true_and]
      rw [grps_eq hn l (P ++ [x]) (fun z hz=>by
        rcases List.mem_append.1 hz with hz|hz
        · exact hP z hz
        · rw [List.mem_singleton.1 hz];exact hnx)]
      congr 1
      rw [Bool.eq_iff_iff,List.all_eq_true,List.all_eq_true]
      constructor <;> intro h z hz
      · rw [← nest_eq hnx (hP z hz)];exact h z hz
      · rw [nest_eq hnx (hP z hz)];exact h z hz
def pProof (n : Int) (E : List S101) (Y : List Int) (G : List S97) : Bool :=
  decide (gok n E = true ∧ (Y.length : Int) = n ∧ G.length ≤ 8) && ((Y.all fun y=>decide (0 ≤ y ∧ y ≤ 1000000000)) && (grpsI n [] G && E.all fun e=>decide (0 ≤ slkP Y G e)))
theorem pProof_no {n : Int} {E : List S101} {Y : List Int} {G : List S97} (h : ¬ (gok n E = true ∧ (Y.length : Int) = n ∧ G.length ≤ 8)) : pProof n E Y G = false:=by unfold pProof;rw [decide_eq_false h];rfl
theorem pProof_yes {n : Int} {E : List S101} {Y : List Int} {G : List S97} (h : gok n E = true ∧ (Y.length : Int) = n ∧ G.length ≤ 8) : pProof n E Y G = ((Y.all fun y=>decide (0 ≤ y ∧ y ≤ 1000000000)) && (grpsI n [] G && E.all fun e=>decide (0 ≤ slkP Y G e))):=by unfold pProof;rw [decide_eq_true h,Bool.true_and]
/-- What an edge's ends are good for. -/
theorem gok_ends {n : Int} {E : List S101} {Y : List Int} (h : gok n E = true) (hY : (Y.length : Int) = n) : ∀ e ∈ E,0 ≤ e.f0 ∧ e.f0 < (Y.length : Int) ∧ 0 ≤ e.f1 ∧ e.f1 < (Y.length : Int):=fun e he=>by
  have:=gok_all h e he
  omega

theorem sl03In_go (l : List Int) (x : Int) (hl : l.length ≤ 100000000) : ∀ (d i : Nat),i + d = l.length → Ev (fun k=>spec_l03In.l0 k l x (i : Int)) (inL (l.drop i) x)
  | 0,i,hi=>by
    rw [List.drop_of_length_le (by omega)]
    exact (Ev.now _).to fun k=>by simp only [spec_l03In.l0];rw [if_neg (by omega)];rfl
  | d + 1,i,hi=>by
    have hlt : i < l.length:=by omega
    have w2 : qn (wrap64 ((i : Int) + 1) = ((i + 1 : Nat) : Int)):=⟨by rw [wid (by omega) (by omega)];rfl⟩
    rw [List.drop_eq_getElem_cons hlt,inL_cons]
    by_cases h : l[i] = x
    · rw [if_pos h]
      refine (Ev.now _).to fun k=>?_
      simp only [spec_l03In.l0]
      rw [if_pos (by omega),if_pos (by omega),rd_at hlt,if_pos h]
    · rw [if_neg h]
      refine (sl03In_go l x hl d (i + 1) (by omega)).to fun k=>?_
      simp only [spec_l03In.l0]
      rw [if_pos (by omega),if_pos (by omega),rd_at hlt,if_neg h,w2.out]
theorem sl03In (l : List Int) (x : Int) (hl : l.length ≤ 100000000) : Ev (fun k=>spec_l03In.f k l x) (inL l x):=by
  unfold spec_l03In.f
  exact sl03In_go l x hl l.length 0 (by omega)

theorem s_in (a b c : Int) : spec_l01In.f a b c = some (decide (b ≤ a ∧ a ≤ c)):=by
  unfold spec_l01In.f
  by_cases h : a ≥ b
  · rw [if_pos h];simp [show b ≤ a from h]
  · rw [if_neg h];simp [show ¬ b ≤ a from h]
theorem s_in_t {a b c : Int} (h : b ≤ a ∧ a ≤ c) : spec_l01In.f a b c = some true:=by rw [s_in,decide_eq_true h]
theorem s_in_f {a b c : Int} (h : ¬ (b ≤ a ∧ a ≤ c)) : spec_l01In.f a b c = some false:=by rw [s_in,decide_eq_false h]

theorem s_worth (a : Int) : spec_l08Worth.f a = some (decide (0 ≤ a ∧ a ≤ 50)):=by unfold spec_l08Worth.f;rw [s_in];rfl
theorem sGO_go (n : Int) (l : List S101) (hl : l.length ≤ 1048576) : ∀ (d i : Nat),i + d = l.length → Ev (fun k=>spec_GraphOk.l0 k (i : Int) n l) (edgesOk n (prevE l i) (l.drop i))
  | 0,i,hi=>by
    rw [List.drop_of_length_le (by omega)]
    refine Ev.ofEq ((Ev.now true).to fun k=>?_) (by cases prevE l i <;> rfl)
    simp only [spec_GraphOk.l0]
    rw [if_neg (by omega)]
  | d + 1,i,hi=>by
    have hlt : i < l.length:=by omega
    have ih:=sGO_go n l hl d (i + 1) (by omega)
    rw [List.drop_eq_getElem_cons hlt]
    have step : ∀ k,spec_GraphOk.l0 (k + 1) (i : Int) n l = spec_GraphOk.j1 k (i : Int) (!edgeOk n l[i]) n l l[i].f0 l[i].f1 l[i].f2 l[i].f3 l[i].f4:=by
      intro k
      simp only [spec_GraphOk.l0,s_worth,Option.bind_some]
      rw [if_pos (by omega),if_pos (by omega),ri_Edge hlt]
      generalize l[i] = e
      unfold edgeOk
      repeat' split
      all_goals first
        | (congr 1;symm;rw [Bool.not_eq_true',decide_eq_false_iff_not];(try simp only [decide_eq_true_eq] at *);omega)
        | (congr 2;rw [decide_eq_decide];(try simp only [decide_eq_true_eq] at *);omega)
    refine Ev.to ?_ step
    have w2 : qn (wrap64 ((i : Int) + 1) = ((i + 1 : Nat) : Int)):=⟨by rw [wid (by omega) (by omega)];rfl⟩
    cases hb : edgeOk n l[i] with
    | false =>
      have e : edgesOk n (prevE l i) (l[i] :: l.drop (i + 1)) = false:=by cases prevE l i <;> simp [edgesOk,hb]
      rw [e]
      exact (Ev.now _).to fun k=>by simp only [spec_GraphOk.j1];rw [if_pos (by decide)]
    | true =>
      rcases i with _|i
      · have e : edgesOk n (prevE l 0) (l[0] :: l.drop (0 + 1)) = edgesOk n (prevE l (0 + 1)) (l.drop (0 + 1)):=by rw [prevE_succ hlt];simp [edgesOk,hb,prevE]
        rw [e]
        refine ih.to fun k=>?_
        simp only [spec_GraphOk.j1]
        rw [if_neg (by decide),if_neg (by decide),w2.out]
      · have hlt' : i < l.length:=by omega
        have e : edgesOk n (prevE l (i + 1)) (l[i + 1] :: l.drop (i + 1 + 1)) = (edgeLt l[i] l[i + 1] && edgesOk n (prevE l (i + 1 + 1)) (l.drop (i + 1 + 1))):=by rw [prevE_succ hlt',prevE_succ hlt];simp [edgesOk,hb]
        rw [e]
        have w1 : qn (wrap64 (((i + 1 : Nat) : Int) - 1) = (i : Int)):=⟨by rw [wid (by omega) (by omega)];omega⟩
        cases hlt2 : edgeLt l[i] l[i + 1] with
        | false =>
          rw [Bool.false_and]
          refine (Ev.now _).to fun k=>?_
          simp only [spec_GraphOk.j1]
          rw [if_neg (by decide),if_pos (by omega),w1.out,if_pos (by omega),if_pos (by omega),ri_Edge hlt']
          unfold edgeLt at hlt2
          rw [decide_eq_false_iff_not] at hlt2
          by_cases h1 : l[i].f0 > l[i + 1].f0
          · rw [if_pos h1]
          · rw [if_neg h1,if_pos (by omega),if_pos (by omega)]
        | true =>
          rw [Bool.true_and]
          refine ih.to fun k=>?_
          simp only [spec_GraphOk.j1]
          rw [if_neg (by decide),if_pos (by omega),w1.out,if_pos (by omega),if_pos (by omega),ri_Edge hlt',w2.out]
          unfold edgeLt at hlt2
          rw [decide_eq_true_eq] at hlt2
          rw [if_neg (by omega)]
          by_cases h1 : l[i].f0 = l[i + 1].f0
          · rw [if_pos h1,if_neg (by omega)]
          · rw [if_neg h1]
theorem sGraphOk (n : Int) (l : List S101) (hl : l.length ≤ 1048576) : Ev (fun k=>spec_GraphOk.f k n l) (gok n l):=by
  unfold spec_GraphOk.f gok
  by_cases h : 0 ≤ n ∧ n ≤ 9
  · rw [s_in_t h,decide_eq_true h,Bool.true_and]
    simp only [Option.bind_some,if_true]
    exact sGO_go n l hl l.length 0 (by omega)
  · rw [s_in_f h,decide_eq_false h,Bool.false_and]
    simp only [Option.bind_some,Bool.false_eq_true,if_false]
    exact Ev.now _

theorem sNest_go (a b : List Int) (ha : a.length ≤ 100000000) (hb : b.length ≤ 100000000) : ∀ (d i c : Nat),i + d = a.length → c ≤ i → Ev (fun k=>spec_l11Nested.l0 k a b (c : Int) (i : Int)) (decide (c + cntL (a.drop i) b = 0 ∨ c + cntL (a.drop i) b = a.length ∨ c + cntL (a.drop i) b = b.length))
  | 0,i,c,hi,hc=>by
    rw [List.drop_of_length_le (by omega)]
    refine (Ev.now _).to fun k=>?_
    simp only [spec_l11Nested.l0]
    rw [if_neg (by omega),show cntL [] b = 0 from rfl,Nat.add_zero]
    by_cases h0 : c = 0
    · rw [if_pos (by omega),decide_eq_true (.inl h0)]
    · rw [if_neg (by omega)]
      by_cases h1 : c = a.length
      · rw [if_pos (by omega),decide_eq_true (.inr (.inl h1))]
      · rw [if_neg (by omega)]
        congr 1
        by_cases h2 : c = b.length
        · rw [decide_eq_true (.inr (.inr h2)),beq_iff_eq];omega
        · rw [decide_eq_false (by omega),beq_eq_false_iff_ne];omega
  | d + 1,i,c,hi,hc=>by
    have hlt : i < a.length:=by omega
    have w : qn (wrap64 ((i : Int) + 1) = ((i + 1 : Nat) : Int)):=⟨by rw [wid (by omega) (by omega)];rfl⟩
    have wc : qn (wrap64 ((c : Int) + 1) = ((c + 1 : Nat) : Int)):=⟨by rw [wid (by omega) (by omega)];rfl⟩
    refine Ev.to (f:=fun k=>(spec_l03In.f k b a[i]).bind fun t=>if t = true then spec_l11Nested.l0 k a b ((c + 1 : Nat) : Int) ((i + 1 : Nat) : Int) else spec_l11Nested.l0 k a b (c : Int) ((i + 1 : Nat) : Int)) ((sl03In b a[i] hb).bind ?_) fun k=>?_
    · rw [List.drop_eq_getElem_cons hlt]
      by_cases h : inL b a[i] = true
      · have e : cntL (a[i] :: a.drop (i + 1)) b = cntL (a.drop (i + 1)) b + 1:=by unfold cntL;rw [List.filter_cons,if_pos h,List.length_cons]
        rw [e]
        refine Ev.ifp h (Ev.ofEq (sNest_go a b ha hb d (i + 1) (c + 1) (by omega) (by omega)) ?_)
        rw [decide_eq_decide];omega
      · have e : cntL (a[i] :: a.drop (i + 1)) b = cntL (a.drop (i + 1)) b:=by unfold cntL;rw [List.filter_cons,if_neg h]
        rw [e]
        exact Ev.ifn h (sNest_go a b ha hb d (i + 1) c (by omega) (by omega))
    · simp only [spec_l11Nested.l0]
      rw [if_pos (by omega),if_pos (by omega),rd_at hlt,w.out,wc.out]
theorem sNested (a b : List Int) (ha : a.length ≤ 100000000) (hb : b.length ≤ 100000000) : Ev (fun k=>spec_l11Nested.f k a b) (nestS a b):=by
  unfold spec_l11Nested.f nestS
  have:=sNest_go a b ha hb a.length 0 0 (by omega) (by omega)
  rw [List.drop_zero,Nat.zero_add] at this
  exact this
theorem sSlack_go (Y : List Int) (G : List S97) (a b c d' e : Int) (hG : G.length ≤ 1048576) (hx : ∀ x ∈ G,x.f0.length ≤ 100000000) : ∀ (d i : Nat) (acc : Int),i + d = G.length → Ev (fun k=>spec_l11Slack.l0 k acc (i : Int) Y G a b c d' e) (slkGo a b acc (G.drop i))
  | 0,i,acc,hi=>by
    rw [List.drop_of_length_le (by omega)]
    exact (Ev.now _).to fun k=>by simp only [spec_l11Slack.l0];rw [if_neg (by omega)];rfl
  | d + 1,i,acc,hi=>by
    have hlt : i < G.length:=by omega
    have w : qn (wrap64 ((i : Int) + 1) = ((i + 1 : Nat) : Int)):=⟨by rw [wid (by omega) (by omega)];rfl⟩
    have hl:=hx G[i] (List.getElem_mem hlt)
    refine Ev.to (f:=fun k=>(spec_l03In.f k G[i].f0 a).bind fun t131=>if t131 = true then (spec_l03In.f k G[i].f0 b).bind fun t133=>if t133 = true then spec_l11Slack.l0 k (wrap64 (acc + G[i].f1)) ((i + 1 : Nat) : Int) Y G a b c d' e else spec_l11Slack.l0 k acc ((i + 1 : Nat) : Int) Y G a b c d' e else spec_l11Slack.l0 k acc ((i + 1 : Nat) : Int) Y G a b c d' e) ((sl03In _ a hl).bind ?_) fun k=>?_
    · rw [List.drop_eq_getElem_cons hlt,slkGo]
      by_cases h : inL G[i].f0 a = true
      · refine Ev.ifp h ((sl03In _ b hl).bind ?_)
        by_cases h' : inL G[i].f0 b = true
        · rw [if_pos ⟨h,h'⟩]
          exact Ev.ifp h' (sSlack_go Y G a b c d' e hG hx d (i + 1) _ (by omega))
        · rw [if_neg (fun q=>h' q.2)]
          exact Ev.ifn h' (sSlack_go Y G a b c d' e hG hx d (i + 1) _ (by omega))
      · rw [if_neg (fun q=>h q.1)]
        exact Ev.ifn h (sSlack_go Y G a b c d' e hG hx d (i + 1) _ (by omega))
    · simp only [spec_l11Slack.l0]
      rw [if_pos (by omega),if_pos (by omega),ri_Group hlt,w.out]
theorem sSlack (Y : List Int) (G : List S97) (e : S101) (hG : G.length ≤ 1048576) (hx : ∀ x ∈ G,x.f0.length ≤ 100000000) (h : 0 ≤ e.f0 ∧ e.f0 < (Y.length : Int) ∧ 0 ≤ e.f1 ∧ e.f1 < (Y.length : Int)) : Ev (fun k=>spec_l11Slack.f k Y G e.f0 e.f1 e.f2 e.f3 e.f4) (slkP Y G e):=by
  unfold spec_l11Slack.f spec_Scalar.f
  refine Ev.ifp h.1 (Ev.ifp h.2.1 (Ev.ifp h.2.2.1 (Ev.ifp h.2.2.2 ?_)))
  simp only [Option.bind_some]
  exact sSlack_go Y G e.f0 e.f1 e.f2 e.f3 e.f4 hG hx G.length 0 _ (by omega)
section
variable (n : Int) (E : List S101) (Y : List Int) (G : List S97)
theorem sPr_l4 (hE : E.length ≤ 1048576) (hG : G.length ≤ 1048576) (hx : ∀ x ∈ G,x.f0.length ≤ 1048576) (he : ∀ e ∈ E,0 ≤ e.f0 ∧ e.f0 < (Y.length : Int) ∧ 0 ≤ e.f1 ∧ e.f1 < (Y.length : Int)) : ∀ (d i : Nat),i + d = E.length → Ev (fun k=>spec_ProofOk.l4 k (i : Int) n E Y G) ((E.drop i).all fun e=>decide (0 ≤ slkP Y G e))
  | 0,i,hi=>by
    rw [List.drop_of_length_le (by omega)]
    exact (Ev.now _).to fun k=>by simp only [spec_ProofOk.l4];rw [if_neg (by omega)];rfl
  | d + 1,i,hi=>by
    have hlt : i < E.length:=by omega
    have w : qn (wrap64 ((i : Int) + 1) = ((i + 1 : Nat) : Int)):=⟨by rw [wid (by omega) (by omega)];rfl⟩
    refine Ev.to (f:=fun k=>(spec_l11Slack.f k Y G E[i].f0 E[i].f1 E[i].f2 E[i].f3 E[i].f4).bind fun t=>if t < 0 then some false else spec_ProofOk.l4 k ((i + 1 : Nat) : Int) n E Y G) ((sSlack Y G E[i] hG (fun x h=>by have:=hx x h;omega) (he _ (List.getElem_mem hlt))).bind ?_) fun k=>?_
    · rw [List.drop_eq_getElem_cons hlt,List.all_cons]
      by_cases h : slkP Y G E[i] < 0
      · rw [decide_eq_false (by omega),Bool.false_and]
        exact Ev.ifp h (Ev.now _)
      · rw [decide_eq_true (by omega),Bool.true_and]
        exact Ev.ifn h (sPr_l4 hE hG hx he d (i + 1) (by omega))
    · simp only [spec_ProofOk.l4]
      rw [if_pos (by omega),if_pos (by omega),ri_Edge hlt,w.out]
theorem sPr_l3 (hG : G.length ≤ 1048576) (hx : ∀ x ∈ G,x.f0.length ≤ 1048576) (i : Nat) (hi : i < G.length) (m : List Int) (z : Int) (hm : m.length ≤ 1048576) {r : Bool} (hr : Ev (fun k=>spec_ProofOk.l1 k (wrap64 ((i : Int) + 1)) n E Y G) r) : ∀ (d j : Nat),j + d = i → Ev (fun k=>spec_ProofOk.l3 k (i : Int) (j : Int) n E Y G m z) ((((G.take i).drop j).all fun y=>nestS y.f0 m) && r)
  | 0,j,hj=>by
    rw [List.drop_of_length_le (by rw [List.length_take];omega),List.all_nil,Bool.true_and]
    refine hr.to fun k=>?_
    simp only [spec_ProofOk.l3]
    rw [if_neg (by omega)]
  | d + 1,j,hj=>by
    have hlt : j < G.length:=by omega
    have hl2 : j < (G.take i).length:=by rw [List.length_take];omega
    have w : qn (wrap64 ((j : Int) + 1) = ((j + 1 : Nat) : Int)):=⟨by rw [wid (by omega) (by omega)];rfl⟩
    have hl:=hx G[j] (List.getElem_mem hlt)
    refine Ev.to (f:=fun k=>(spec_l11Nested.f k G[j].f0 m).bind fun t=>if t = true then spec_ProofOk.l3 k (i : Int) ((j + 1 : Nat) : Int) n E Y G m z else some false) ((sNested G[j].f0 m (by omega) (by omega)).bind ?_) fun k=>?_
    · rw [List.drop_eq_getElem_cons hl2,List.getElem_take,List.all_cons]
      cases h : nestS G[j].f0 m with
      | false =>
        rw [Bool.false_and,Bool.false_and]
        exact Ev.ifn (by decide) (Ev.now _)
      | true =>
        rw [Bool.true_and]
        exact Ev.ifp rfl (sPr_l3 hG hx i hi m z hm hr d (j + 1) (by omega))
    · simp only [spec_ProofOk.l3]
      rw [if_pos (by omega),if_pos (by omega),if_pos (by omega),ri_Group hlt,w.out]
theorem sPr_l2 (hn : 0 ≤ n ∧ n ≤ 9) (x6 : Int) (m : List Int) (z : Int) (hm : m.length ≤ 1048576) {r : Bool} (hr : Ev (fun k=>spec_ProofOk.l3 k x6 0 n E Y G m z) r) : ∀ (d j : Nat),j + d = m.length → Ev (fun k=>spec_ProofOk.l2 k x6 (j : Int) n E Y G m z) (memOk n (prevI m j) (m.drop j) && r)
  | 0,j,hj=>by
    rw [List.drop_of_length_le (by omega)]
    have : memOk n (prevI m j) [] = true:=by cases prevI m j <;> rfl
    rw [this,Bool.true_and]
    refine hr.to fun k=>?_
    simp only [spec_ProofOk.l2]
    rw [if_neg (by omega)]
  | d + 1,j,hj=>by
    have hlt : j < m.length:=by omega
    have w : qn (wrap64 ((j : Int) + 1) = ((j + 1 : Nat) : Int)):=⟨by rw [wid (by omega) (by omega)];rfl⟩
    have wn : qn (wrap64 (n - 1) = n - 1):=⟨wid (by omega) (by omega)⟩
    have ih:=sPr_l2 hn x6 m z hm hr d (j + 1) (by omega)
    rw [prevI_succ hlt] at ih
    rw [List.drop_eq_getElem_cons hlt,memOk_cons]
    by_cases h : 0 ≤ m[j] ∧ m[j] ≤ n - 1
    · rw [decide_eq_true h,Bool.true_and]
      cases j with
      | zero =>
        have e0 : prevI m 0 = none:=rfl
        rw [e0,show ltO none m[0] = true from rfl,Bool.true_and]
        refine ih.to fun k=>?_
        simp only [spec_ProofOk.l2]
        rw [if_pos (by omega),if_pos (by omega),rd_at hlt,wn.out,s_in_t h]
        simp only [Option.bind_some,if_true]
        rw [if_neg (by omega),w.out]
      | succ j =>
        have hlt' : j < m.length:=by omega
        have w1 : qn (wrap64 (((j + 1 : Nat) : Int) - 1) = (j : Int)):=⟨by rw [wid (by omega) (by omega)];omega⟩
        rw [prevI_succ hlt']
        by_cases g : m[j] < m[j + 1]
        · rw [show ltO (some m[j]) m[j + 1] = true from decide_eq_true g,Bool.true_and]
          refine ih.to fun k=>?_
          simp only [spec_ProofOk.l2]
          rw [if_pos (by omega),if_pos (by omega),rd_at hlt,wn.out,s_in_t h]
          simp only [Option.bind_some,if_true]
          rw [if_pos (by omega),w1.out,if_pos (by omega),if_pos (by omega),rd_at hlt',if_neg (by omega),w.out]
        · rw [show ltO (some m[j]) m[j + 1] = false from decide_eq_false g,Bool.false_and,Bool.false_and]
          refine (Ev.now _).to fun k=>?_
          simp only [spec_ProofOk.l2]
          rw [if_pos (by omega),if_pos (by omega),rd_at hlt,wn.out,s_in_t h]
          simp only [Option.bind_some,if_true]
          rw [if_pos (by omega),w1.out,if_pos (by omega),if_pos (by omega),rd_at hlt',if_pos (by omega)]
    · rw [decide_eq_false h,Bool.false_and,Bool.false_and]
      refine (Ev.now _).to fun k=>?_
      simp only [spec_ProofOk.l2]
      rw [if_pos (by omega),if_pos (by omega),rd_at hlt,wn.out,s_in_f h]
      simp only [Option.bind_some,Bool.false_eq_true,if_false]
theorem sPr_l1 (hn : 0 ≤ n ∧ n ≤ 9) (hE : E.length ≤ 1048576) (hG : G.length ≤ 1048576) (hx : ∀ x ∈ G,x.f0.length ≤ 1048576) (he : ∀ e ∈ E,0 ≤ e.f0 ∧ e.f0 < (Y.length : Int) ∧ 0 ≤ e.f1 ∧ e.f1 < (Y.length : Int)) : ∀ (d i : Nat),i + d = G.length → Ev (fun k=>spec_ProofOk.l1 k (i : Int) n E Y G) (grpsS n (G.take i) (G.drop i) && E.all fun e=>decide (0 ≤ slkP Y G e))
  | 0,i,hi=>by
    rw [List.drop_of_length_le (by omega),grpsS,Bool.true_and]
    have:=sPr_l4 n E Y G hE hG hx he E.length 0 (by omega)
    rw [List.drop_zero] at this
    refine this.to fun k=>?_
    simp only [spec_ProofOk.l1]
    rw [if_neg (by omega)]
    rfl
  | d + 1,i,hi=>by
    have hlt : i < G.length:=by omega
    have w : wrap64 ((i : Int) + 1) = ((i + 1 : Nat) : Int):=by rw [wid (by omega) (by omega)];rfl
    have hl:=hx G[i] (List.getElem_mem hlt)
    have ih:=sPr_l1 hn hE hG hx he d (i + 1) (by omega)
    have et : G.take (i + 1) = G.take i ++ [G[i]]:=by rw [List.take_add_one,List.getElem?_eq_getElem hlt];rfl
    rw [et] at ih
    have t3:=sPr_l3 n E Y G hG hx i hlt G[i].f0 G[i].f1 hl (by rw [w];exact ih) i 0 (by omega)
    rw [List.drop_zero] at t3
    have t2:=sPr_l2 n E Y G hn (i : Int) G[i].f0 G[i].f1 hl t3 G[i].f0.length 0 (by omega)
    rw [List.drop_zero,show prevI G[i].f0 0 = none from rfl] at t2
    have tj : Ev (fun k=>spec_ProofOk.j3 k (i : Int) false n E Y G G[i].f0 G[i].f1) _:=t2.to fun k=>by simp only [spec_ProofOk.j3];rw [if_neg (by decide)];rfl
    have tb : Ev (fun k=>spec_ProofOk.j3 k (i : Int) true n E Y G G[i].f0 G[i].f1) false:=(Ev.now _).to fun k=>by simp only [spec_ProofOk.j3,if_true]
    rw [List.drop_eq_getElem_cons hlt,grpsS]
    unfold grpOk
    by_cases h3 : (G[i].f0.length : Int) < 3
    · rw [decide_eq_false (show ¬ (3 ≤ G[i].f0.length ∧ ¬ (G[i].f0.length : Int) % 2 = 0 ∧ 1 ≤ G[i].f1 ∧ G[i].f1 ≤ 1000000000) by omega)]
      simp only [Bool.false_and,Bool.and_false]
      refine tb.to fun k=>?_
      simp only [spec_ProofOk.l1]
      rw [if_pos (by omega),if_pos (by omega),ri_Group hlt,if_pos h3]
    · by_cases h2 : (G[i].f0.length : Int) % 2 = 0
      · rw [decide_eq_false (show ¬ (3 ≤ G[i].f0.length ∧ ¬ (G[i].f0.length : Int) % 2 = 0 ∧ 1 ≤ G[i].f1 ∧ G[i].f1 ≤ 1000000000) by omega)]
        simp only [Bool.false_and,Bool.and_false]
        refine tb.to fun k=>?_
        simp only [spec_ProofOk.l1]
        rw [if_pos (by omega),if_pos (by omega),ri_Group hlt,if_neg h3,if_pos h2]
      · by_cases hs : (G[i].f0.length : Int) > n
        · rw [decide_eq_false (show ¬ (G[i].f0.length : Int) ≤ n by omega)]
          simp only [Bool.false_and]
          refine tb.to fun k=>?_
          simp only [spec_ProofOk.l1]
          rw [if_pos (by omega),if_pos (by omega),ri_Group hlt,if_neg h3,if_neg h2,if_pos hs]
        · rw [decide_eq_true (show (G[i].f0.length : Int) ≤ n by omega),Bool.true_and]
          by_cases hz : 1 ≤ G[i].f1 ∧ G[i].f1 ≤ 1000000000
          · rw [decide_eq_true (show (3 ≤ G[i].f0.length ∧ ¬ (G[i].f0.length : Int) % 2 = 0 ∧ 1 ≤ G[i].f1 ∧ G[i].f1 ≤ 1000000000) by omega),Bool.true_and,Bool.and_assoc,Bool.and_assoc]
            refine tj.to fun k=>?_
            simp only [spec_ProofOk.l1]
            rw [if_pos (by omega),if_pos (by omega),ri_Group hlt,if_neg h3,if_neg h2,if_neg hs,s_in_t hz]
            rfl
          · rw [decide_eq_false (show ¬ (3 ≤ G[i].f0.length ∧ ¬ (G[i].f0.length : Int) % 2 = 0 ∧ 1 ≤ G[i].f1 ∧ G[i].f1 ≤ 1000000000) by omega)]
            simp only [Bool.false_and]
            refine tb.to fun k=>?_
            simp only [spec_ProofOk.l1]
            rw [if_pos (by omega),if_pos (by omega),ri_Group hlt,if_neg h3,if_neg h2,if_neg hs,s_in_f hz]
            rfl
theorem sPr_l0 (hY : Y.length ≤ 1048576) {r : Bool} (hr : Ev (fun k=>spec_ProofOk.l1 k 0 n E Y G) r) : ∀ (d i : Nat),i + d = Y.length → Ev (fun k=>spec_ProofOk.l0 k (i : Int) n E Y G) (((Y.drop i).all fun y=>decide (0 ≤ y ∧ y ≤ 1000000000)) && r)
  | 0,i,hi=>by
    rw [List.drop_of_length_le (by omega),List.all_nil,Bool.true_and]
    refine hr.to fun k=>?_
    simp only [spec_ProofOk.l0]
    rw [if_neg (by omega)]
  | d + 1,i,hi=>by
    have hlt : i < Y.length:=by omega
    have w : qn (wrap64 ((i : Int) + 1) = ((i + 1 : Nat) : Int)):=⟨by rw [wid (by omega) (by omega)];rfl⟩
    rw [List.drop_eq_getElem_cons hlt,List.all_cons]
    by_cases h : 0 ≤ Y[i] ∧ Y[i] ≤ 1000000000
    · rw [decide_eq_true h,Bool.true_and]
      refine (sPr_l0 hY hr d (i + 1) (by omega)).to fun k=>?_
      simp only [spec_ProofOk.l0]
      rw [if_pos (by omega),if_pos (by omega),rd_at hlt,s_in_t h,w.out]
      rfl
    · rw [decide_eq_false h,Bool.false_and,Bool.false_and]
      refine (Ev.now _).to fun k=>?_
      simp only [spec_ProofOk.l0]
      rw [if_pos (by omega),if_pos (by omega),rd_at hlt,s_in_f h]
      rfl
theorem sProofOk (hE : E.length ≤ 1048576) (hY : Y.length ≤ 1048576) (hG : G.length ≤ 1048576) (hx : ∀ x ∈ G,x.f0.length ≤ 1048576) : Ev (fun k=>spec_ProofOk.f k n E Y G) (pProof n E Y G):=by
  have bad : Ev (fun k=>spec_ProofOk.j0 k true n E Y G) false:=(Ev.now _).to fun k=>by simp only [spec_ProofOk.j0,if_true]
  unfold spec_ProofOk.f
  refine (sGraphOk n E hE).bind ?_
  by_cases hg : gok n E = true
  · refine Ev.ifp hg ?_
    by_cases hl : (Y.length : Int) = n
    · refine Ev.ifp hl ?_
      by_cases h8 : (G.length : Int) > 8
      · rw [decide_eq_true h8,pProof_no (by omega)]
        exact bad
      · rw [decide_eq_false h8,pProof_yes ⟨hg,hl,by omega⟩]
        have hn:=gok_n hg
        have t1:=sPr_l1 n E Y G hn hE hG hx (gok_ends hg hl) G.length 0 (by omega)
        rw [List.drop_zero,List.take_zero,grps_eq hn.1 _ _ (fun z hz=>by simp at hz)] at t1
        have t0:=sPr_l0 n E Y G hY t1 Y.length 0 (by omega)
        rw [List.drop_zero] at t0
        refine t0.to fun k=>?_
        simp only [spec_ProofOk.j0]
        rw [if_neg (by decide)]
        rfl
    · rw [pProof_no (fun h=>hl h.2.1)]
      exact Ev.ifn hl bad
  · rw [pProof_no (fun h=>hg h.1)]
    exact Ev.ifn hg bad
end

theorem ihasInt_go (l : List Int) (x : Int) (hl : l.length ≤ 100000000) : ∀ (d i : Nat),i + d = l.length → Ev (fun k=>impl_hasInt.l0 k x l (l.length : Int) (i : Int)) (inL (l.drop i) x)
  | 0,i,hi=>by
    rw [List.drop_of_length_le (by omega)]
    exact (Ev.now _).to fun k=>by simp only [impl_hasInt.l0];rw [if_neg (by omega)];rfl
  | d + 1,i,hi=>by
    have hlt : i < l.length:=by omega
    have w2 : qn (wrap64 ((i : Int) + 1) = ((i + 1 : Nat) : Int)):=⟨by rw [wid (by omega) (by omega)];rfl⟩
    rw [List.drop_eq_getElem_cons hlt,inL_cons]
    by_cases h : l[i] = x
    · rw [if_pos h]
      refine (Ev.now _).to fun k=>?_
      simp only [impl_hasInt.l0]
      rw [if_pos (by omega),if_pos (by omega),if_pos (by omega),rd_at hlt,if_pos h]
    · rw [if_neg h]
      refine (ihasInt_go l x hl d (i + 1) (by omega)).to fun k=>?_
      simp only [impl_hasInt.l0]
      rw [if_pos (by omega),if_pos (by omega),if_pos (by omega),rd_at hlt,if_neg h,w2.out]
theorem ihasInt (l : List Int) (x : Int) (hl : l.length ≤ 100000000) : Ev (fun k=>impl_hasInt.f k l x) (inL l x):=by
  unfold impl_hasInt.f
  exact ihasInt_go l x hl l.length 0 (by omega)

theorem i_in (a b c : Int) : impl_in.f a b c = some (decide (b ≤ a ∧ a ≤ c)):=by
  unfold impl_in.f
  by_cases h : a ≥ b
  · rw [if_pos h];simp [show b ≤ a from h]
  · rw [if_neg h];simp [show ¬ b ≤ a from h]
theorem i_in_t {a b c : Int} (h : b ≤ a ∧ a ≤ c) : impl_in.f a b c = some true:=by rw [i_in,decide_eq_true h]
theorem i_in_f {a b c : Int} (h : ¬ (b ≤ a ∧ a ≤ c)) : impl_in.f a b c = some false:=by rw [i_in,decide_eq_false h]

theorem iGO_go (n : Int) (hn : 0 ≤ n ∧ n ≤ 9) (l : List S101) (hl : l.length ≤ 1048576) : ∀ (d i : Nat),i + d = l.length → Ev (fun k=>impl_GraphOk.l0 k l (l.length : Int) (i : Int) n l) (edgesOk n (prevE l i) (l.drop i))
  | 0,i,hi=>by
    rw [List.drop_of_length_le (by omega)]
    refine Ev.ofEq ((Ev.now true).to fun k=>?_) (by cases prevE l i <;> rfl)
    simp only [impl_GraphOk.l0]
    rw [if_neg (by omega)]
  | d + 1,i,hi=>by
    have hlt : i < l.length:=by omega
    have ih:=iGO_go n hn l hl d (i + 1) (by omega)
    rw [List.drop_eq_getElem_cons hlt]
    have step : ∀ k,impl_GraphOk.l0 (k + 1) l (l.length : Int) (i : Int) n l = impl_GraphOk.j1 k (i : Int) l (l.length : Int) (i : Int) (!edgeOk n l[i]) n l l[i].f0 l[i].f1 l[i].f2 l[i].f3 l[i].f4:=by
      intro k
      have w : wrap64 (n - 1) = n - 1:=wid (by omega) (by omega)
      simp only [impl_GraphOk.l0,i_in,Option.bind_some,w]
      clear w
      rw [if_pos (by omega),if_pos (by omega),if_pos (by omega),ri_Edge hlt]
      generalize l[i] = e
      unfold edgeOk
      repeat' split
      all_goals first
        | (congr 1;symm;rw [Bool.not_eq_true',decide_eq_false_iff_not];(try simp only [decide_eq_true_eq] at *);omega)
        | (congr 2;rw [decide_eq_decide];(try simp only [decide_eq_true_eq] at *);omega)
    refine Ev.to ?_ step
    have w2 : qn (wrap64 ((i : Int) + 1) = ((i + 1 : Nat) : Int)):=⟨by rw [wid (by omega) (by omega)];rfl⟩
    cases hb : edgeOk n l[i] with
    | false =>
      have e : edgesOk n (prevE l i) (l[i] :: l.drop (i + 1)) = false:=by cases prevE l i <;> simp [edgesOk,hb]
      rw [e]
      exact (Ev.now _).to fun k=>by simp only [impl_GraphOk.j1];rw [if_pos (by decide)]
    | true =>
      rcases i with _|i
      · have e : edgesOk n (prevE l 0) (l[0] :: l.drop (0 + 1)) = edgesOk n (prevE l (0 + 1)) (l.drop (0 + 1)):=by rw [prevE_succ hlt];simp [edgesOk,hb,prevE]
        rw [e]
        refine ih.to fun k=>?_
        simp only [impl_GraphOk.j1]
        rw [if_neg (by decide),if_neg (by decide),w2.out]
      · have hlt' : i < l.length:=by omega
        have e : edgesOk n (prevE l (i + 1)) (l[i + 1] :: l.drop (i + 1 + 1)) = (edgeLt l[i] l[i + 1] && edgesOk n (prevE l (i + 1 + 1)) (l.drop (i + 1 + 1))):=by rw [prevE_succ hlt',prevE_succ hlt];simp [edgesOk,hb]
        rw [e]
        have w1 : qn (wrap64 (((i + 1 : Nat) : Int) - 1) = (i : Int)):=⟨by rw [wid (by omega) (by omega)];omega⟩
        cases hlt2 : edgeLt l[i] l[i + 1] with
        | false =>
          rw [Bool.false_and]
          refine (Ev.now _).to fun k=>?_
          simp only [impl_GraphOk.j1]
          rw [if_neg (by decide),if_pos (by omega),w1.out,if_pos (by omega),if_pos (by omega),ri_Edge hlt']
          unfold edgeLt at hlt2
          rw [decide_eq_false_iff_not] at hlt2
          by_cases h1 : l[i].f0 > l[i + 1].f0
          · rw [if_pos h1]
          · rw [if_neg h1,if_pos (by omega),if_pos (by omega)]
        | true =>
          rw [Bool.true_and]
          refine ih.to fun k=>?_
          simp only [impl_GraphOk.j1]
          rw [if_neg (by decide),if_pos (by omega),w1.out,if_pos (by omega),if_pos (by omega),ri_Edge hlt',w2.out]
          unfold edgeLt at hlt2
          rw [decide_eq_true_eq] at hlt2
          rw [if_neg (by omega)]
          by_cases h1 : l[i].f0 = l[i + 1].f0
          · rw [if_pos h1,if_neg (by omega)]
          · rw [if_neg h1]
theorem iGraphOk (n : Int) (l : List S101) (hl : l.length ≤ 1048576) : Ev (fun k=>impl_GraphOk.f k n l) (gok n l):=by
  unfold impl_GraphOk.f gok
  by_cases h : 0 ≤ n ∧ n ≤ 9
  · rw [i_in_t h,decide_eq_true h,Bool.true_and]
    simp only [Option.bind_some,if_true]
    exact iGO_go n h l hl l.length 0 (by omega)
  · rw [i_in_f h,decide_eq_false h,Bool.false_and]
    simp only [Option.bind_some,Bool.false_eq_true,if_false]
    exact Ev.now _

theorem iWithin_go (a b : List Int) (ha : a.length ≤ 100000000) (hb : b.length ≤ 100000000) : ∀ (d i : Nat) (p q : Bool),i + d = a.length → Ev (fun k=>impl_within.l0 k b p q a (a.length : Int) (i : Int)) (p && inAll (a.drop i) b,q && inNo (a.drop i) b)
  | 0,i,p,q,hi=>by
    rw [List.drop_of_length_le (by omega)]
    refine (Ev.now _).to fun k=>?_
    simp only [impl_within.l0]
    rw [if_neg (by omega)]
    simp [inAll,inNo]
  | d + 1,i,p,q,hi=>by
    have hlt : i < a.length:=by omega
    have w : qn (wrap64 ((i : Int) + 1) = ((i + 1 : Nat) : Int)):=⟨by rw [wid (by omega) (by omega)];rfl⟩
    have ih:=iWithin_go a b ha hb d (i + 1)
    refine Ev.to (f:=fun k=>(impl_hasInt.f k b a[i]).bind fun t=>impl_within.l0 k b (p && t) (q && !t) a (a.length : Int) ((i + 1 : Nat) : Int)) ((ihasInt b a[i] hb).bind (Ev.ofEq (ih _ _ (by omega)) ?_)) fun k=>?_
    · rw [List.drop_eq_getElem_cons hlt]
      unfold inAll inNo
      rw [List.all_cons,List.all_cons,Bool.and_assoc,Bool.and_assoc]
    · simp only [impl_within.l0]
      rw [if_pos (by omega),if_pos (by omega),if_pos (by omega),rd_at hlt,w.out]
      congr 1
      funext t
      cases p <;> cases q <;> cases t <;> rfl
theorem iWithin (a b : List Int) (ha : a.length ≤ 100000000) (hb : b.length ≤ 100000000) : Ev (fun k=>impl_within.f k a b) (inAll a b,inNo a b):=by
  unfold impl_within.f
  have:=iWithin_go a b ha hb a.length 0 true true (by omega)
  rw [List.drop_zero,Bool.true_and,Bool.true_and] at this
  exact this
theorem iSlack_go (G : List S97) (a b c d' e : Int) (hG : G.length ≤ 1048576) (hx : ∀ x ∈ G,x.f0.length ≤ 100000000) : ∀ (d i : Nat) (acc : Int),i + d = G.length → Ev (fun k=>impl_slackOf.l0 k acc G (G.length : Int) (i : Int) a b c d' e) (slkGo a b acc (G.drop i))
  | 0,i,acc,hi=>by
    rw [List.drop_of_length_le (by omega)]
    exact (Ev.now _).to fun k=>by simp only [impl_slackOf.l0];rw [if_neg (by omega)];rfl
  | d + 1,i,acc,hi=>by
    have hlt : i < G.length:=by omega
    have w : qn (wrap64 ((i : Int) + 1) = ((i + 1 : Nat) : Int)):=⟨by rw [wid (by omega) (by omega)];rfl⟩
    have hl:=hx G[i] (List.getElem_mem hlt)
    refine Ev.to (f:=fun k=>(impl_hasInt.f k G[i].f0 a).bind fun t131=>if t131 = true then (impl_hasInt.f k G[i].f0 b).bind fun t133=>if t133 = true then impl_slackOf.l0 k (wrap64 (acc + G[i].f1)) G (G.length : Int) ((i + 1 : Nat) : Int) a b c d' e else impl_slackOf.l0 k acc G (G.length : Int) ((i + 1 : Nat) : Int) a b c d' e else impl_slackOf.l0 k acc G (G.length : Int) ((i + 1 : Nat) : Int) a b c d' e) ((ihasInt _ a hl).bind ?_) fun k=>?_
    · rw [List.drop_eq_getElem_cons hlt,slkGo]
      by_cases h : inL G[i].f0 a = true
      · refine Ev.ifp h ((ihasInt _ b hl).bind ?_)
        by_cases h' : inL G[i].f0 b = true
        · rw [if_pos ⟨h,h'⟩]
          exact Ev.ifp h' (iSlack_go G a b c d' e hG hx d (i + 1) _ (by omega))
        · rw [if_neg (fun q=>h' q.2)]
          exact Ev.ifn h' (iSlack_go G a b c d' e hG hx d (i + 1) _ (by omega))
      · rw [if_neg (fun q=>h q.1)]
        exact Ev.ifn h (iSlack_go G a b c d' e hG hx d (i + 1) _ (by omega))
    · simp only [impl_slackOf.l0]
      rw [if_pos (by omega),if_pos (by omega),if_pos (by omega),ri_Group hlt,w.out]
theorem iSlack (Y : List Int) (G : List S97) (e : S101) (hG : G.length ≤ 1048576) (hx : ∀ x ∈ G,x.f0.length ≤ 100000000) (h : 0 ≤ e.f0 ∧ e.f0 < (Y.length : Int) ∧ 0 ≤ e.f1 ∧ e.f1 < (Y.length : Int)) : Ev (fun k=>impl_slackOf.f k e.f0 e.f1 e.f2 e.f3 e.f4 Y G) (slkP Y G e):=by
  unfold impl_slackOf.f impl_Scalar.f
  refine Ev.ifp h.1 (Ev.ifp h.2.1 (Ev.ifp h.2.2.1 (Ev.ifp h.2.2.2 ?_)))
  simp only [Option.bind_some]
  exact iSlack_go G e.f0 e.f1 e.f2 e.f3 e.f4 hG hx G.length 0 _ (by omega)
section
variable (n : Int) (E : List S101) (Y : List Int) (G : List S97)
theorem iGrp_l0 (hn : 0 ≤ n ∧ n ≤ 9) (m : List Int) (z : Int) (hm : m.length ≤ 1048576) : ∀ (d j : Nat),j + d = m.length → Ev (fun k=>impl_groupOk.l0 k m (m.length : Int) (j : Int) n E m z) (memOk n (prevI m j) (m.drop j))
  | 0,j,hj=>by
    rw [List.drop_of_length_le (by omega)]
    have : memOk n (prevI m j) [] = true:=by cases prevI m j <;> rfl
    rw [this]
    refine (Ev.now _).to fun k=>?_
    simp only [impl_groupOk.l0]
    rw [if_neg (by omega)]
  | d + 1,j,hj=>by
    have hlt : j < m.length:=by omega
    have w : qn (wrap64 ((j : Int) + 1) = ((j + 1 : Nat) : Int)):=⟨by rw [wid (by omega) (by omega)];rfl⟩
    have wn : qn (wrap64 (n - 1) = n - 1):=⟨wid (by omega) (by omega)⟩
    have ih:=iGrp_l0 hn m z hm d (j + 1) (by omega)
    rw [prevI_succ hlt] at ih
    rw [List.drop_eq_getElem_cons hlt,memOk_cons]
    by_cases h : 0 ≤ m[j] ∧ m[j] ≤ n - 1
    · rw [decide_eq_true h,Bool.true_and]
      cases j with
      | zero =>
        have e0 : prevI m 0 = none:=rfl
        rw [e0,show ltO none m[0] = true from rfl,Bool.true_and]
        refine ih.to fun k=>?_
        simp only [impl_groupOk.l0]
        rw [if_pos (by omega),if_pos (by omega),if_pos (by omega),rd_at hlt,wn.out,i_in_t h]
        simp only [Option.bind_some,if_true]
        rw [if_neg (by omega),w.out]
      | succ j =>
        have hlt' : j < m.length:=by omega
        have w1 : qn (wrap64 (((j + 1 : Nat) : Int) - 1) = (j : Int)):=⟨by rw [wid (by omega) (by omega)];omega⟩
        rw [prevI_succ hlt']
        by_cases g : m[j] < m[j + 1]
        · rw [show ltO (some m[j]) m[j + 1] = true from decide_eq_true g,Bool.true_and]
          refine ih.to fun k=>?_
          simp only [impl_groupOk.l0]
          rw [if_pos (by omega),if_pos (by omega),if_pos (by omega),rd_at hlt,wn.out,i_in_t h]
          simp only [Option.bind_some,if_true]
          rw [if_pos (by omega),w1.out,if_pos (by omega),if_pos (by omega),rd_at hlt',if_neg (by omega),w.out]
        · rw [show ltO (some m[j]) m[j + 1] = false from decide_eq_false g,Bool.false_and]
          refine (Ev.now _).to fun k=>?_
          simp only [impl_groupOk.l0]
          rw [if_pos (by omega),if_pos (by omega),if_pos (by omega),rd_at hlt,wn.out,i_in_t h]
          simp only [Option.bind_some,if_true]
          rw [if_pos (by omega),w1.out,if_pos (by omega),if_pos (by omega),rd_at hlt',if_pos (by omega)]
    · rw [decide_eq_false h,Bool.false_and]
      refine (Ev.now _).to fun k=>?_
      simp only [impl_groupOk.l0]
      rw [if_pos (by omega),if_pos (by omega),if_pos (by omega),rd_at hlt,wn.out,i_in_f h]
      simp only [Option.bind_some,Bool.false_eq_true,if_false]
theorem iGroupOk (hn : 0 ≤ n ∧ n ≤ 9) (x : S97) (hm : x.f0.length ≤ 1048576) : Ev (fun k=>impl_groupOk.f k n E x.f0 x.f1) (grpOk n x):=by
  have t0:=iGrp_l0 n E hn x.f0 x.f1 hm x.f0.length 0 (by omega)
  rw [List.drop_zero,show prevI x.f0 0 = none from rfl] at t0
  have tj : Ev (fun k=>impl_groupOk.j0 k false n E x.f0 x.f1) _:=t0.to fun k=>by simp only [impl_groupOk.j0];rw [if_neg (by decide)];rfl
  have tb : Ev (fun k=>impl_groupOk.j0 k true n E x.f0 x.f1) false:=(Ev.now _).to fun k=>by simp only [impl_groupOk.j0,if_true]
  unfold impl_groupOk.f grpOk
  by_cases h3 : (x.f0.length : Int) < 3
  · rw [decide_eq_false (by omega),Bool.false_and]
    exact Ev.ifp h3 tb
  · refine Ev.ifn h3 ?_
    by_cases h2 : (x.f0.length : Int) % 2 = 0
    · rw [decide_eq_false (by omega),Bool.false_and]
      exact Ev.ifp h2 tb
    · refine Ev.ifn h2 ?_
      by_cases hz : 1 ≤ x.f1 ∧ x.f1 ≤ 1000000000
      · rw [decide_eq_true (by omega),Bool.true_and,i_in_t hz]
        exact tj
      · rw [decide_eq_false (by omega),Bool.false_and,i_in_f hz]
        exact tb
theorem iPr_l3 (hE : E.length ≤ 1048576) (hG : G.length ≤ 1048576) (hx : ∀ x ∈ G,x.f0.length ≤ 1048576) (he : ∀ e ∈ E,0 ≤ e.f0 ∧ e.f0 < (Y.length : Int) ∧ 0 ≤ e.f1 ∧ e.f1 < (Y.length : Int)) : ∀ (d i : Nat),i + d = E.length → Ev (fun k=>impl_ProofOk.l3 k E (E.length : Int) (i : Int) Y G) ((E.drop i).all fun e=>decide (0 ≤ slkP Y G e))
  | 0,i,hi=>by
    rw [List.drop_of_length_le (by omega)]
    exact (Ev.now _).to fun k=>by simp only [impl_ProofOk.l3];rw [if_neg (by omega)];rfl
  | d + 1,i,hi=>by
    have hlt : i < E.length:=by omega
    have w : qn (wrap64 ((i : Int) + 1) = ((i + 1 : Nat) : Int)):=⟨by rw [wid (by omega) (by omega)];rfl⟩
    refine Ev.to (f:=fun k=>(impl_slackOf.f k E[i].f0 E[i].f1 E[i].f2 E[i].f3 E[i].f4 Y G).bind fun t=>if t < 0 then some false else impl_ProofOk.l3 k E (E.length : Int) ((i + 1 : Nat) : Int) Y G) ((iSlack Y G E[i] hG (fun x h=>by have:=hx x h;omega) (he _ (List.getElem_mem hlt))).bind ?_) fun k=>?_
    · rw [List.drop_eq_getElem_cons hlt,List.all_cons]
      by_cases h : slkP Y G E[i] < 0
      · rw [decide_eq_false (by omega),Bool.false_and]
        exact Ev.ifp h (Ev.now _)
      · rw [decide_eq_true (by omega),Bool.true_and]
        exact Ev.ifn h (iPr_l3 hE hG hx he d (i + 1) (by omega))
    · simp only [impl_ProofOk.l3]
      rw [if_pos (by omega),if_pos (by omega),if_pos (by omega),ri_Edge hlt,w.out]
theorem iPr_l2 (hG : G.length ≤ 1048576) (i : Int) (P : List S97) (hP : P.length ≤ 1048576) (hx : ∀ x ∈ P,x.f0.length ≤ 1048576) (m : List Int) (z : Int) (hm : m.length ≤ 1048576) {r : Bool} (hr : Ev (fun k=>impl_ProofOk.l1 k G (G.length : Int) (wrap64 (i + 1)) n E Y G) r) : ∀ (d j : Nat),j + d = P.length → Ev (fun k=>impl_ProofOk.l2 k G (G.length : Int) i P (P.length : Int) (j : Int) n E Y G m z) (((P.drop j).all fun y=>nestI m y.f0) && r)
  | 0,j,hj=>by
    rw [List.drop_of_length_le (by omega),List.all_nil,Bool.true_and]
    refine hr.to fun k=>?_
    simp only [impl_ProofOk.l2]
    rw [if_neg (by omega)]
  | d + 1,j,hj=>by
    have hlt : j < P.length:=by omega
    have w : qn (wrap64 ((j : Int) + 1) = ((j + 1 : Nat) : Int)):=⟨by rw [wid (by omega) (by omega)];rfl⟩
    have hl:=hx P[j] (List.getElem_mem hlt)
    have ih:=iPr_l2 hG i P hP hx m z hm hr d (j + 1) (by omega)
    refine Ev.to (f:=fun k=>(impl_within.f k m P[j].f0).bind fun bt244=>(impl_within.f k P[j].f0 m).bind fun bt246=>if bt244.1 = true then impl_ProofOk.l2 k G (G.length : Int) i P (P.length : Int) ((j + 1 : Nat) : Int) n E Y G m z else if bt244.2 = true then impl_ProofOk.l2 k G (G.length : Int) i P (P.length : Int) ((j + 1 : Nat) : Int) n E Y G m z else if bt246.1 = true then impl_ProofOk.l2 k G (G.length : Int) i P (P.length : Int) ((j + 1 : Nat) : Int) n E Y G m z else some false) ((iWithin m P[j].f0 (by omega) (by omega)).bind ((iWithin P[j].f0 m (by omega) (by omega)).bind ?_)) fun k=>?_
    · rw [List.drop_eq_getElem_cons hlt,List.all_cons]
      unfold nestI
      by_cases h1 : inAll m P[j].f0 = true
      · rw [h1,Bool.true_or,Bool.true_and]
        exact Ev.ifp rfl ih
      · rw [show inAll m P[j].f0 = false from by simpa using h1,Bool.false_or]
        refine Ev.ifn (by simp) ?_
        by_cases h2 : inNo m P[j].f0 = true
        · rw [h2,Bool.true_or,Bool.true_and]
          exact Ev.ifp rfl ih
        · rw [show inNo m P[j].f0 = false from by simpa using h2,Bool.false_or]
          refine Ev.ifn (by simp) ?_
          by_cases h3 : inAll P[j].f0 m = true
          · rw [h3,Bool.true_and]
            exact Ev.ifp rfl ih
          · rw [show inAll P[j].f0 m = false from by simpa using h3,Bool.false_and,Bool.false_and]
            exact Ev.ifn (by simp) (Ev.now _)
    · simp only [impl_ProofOk.l2]
      rw [if_pos (by omega),if_pos (by omega),if_pos (by omega),ri_Group hlt,w.out]
theorem iPr_l1 (hn : 0 ≤ n ∧ n ≤ 9) (hE : E.length ≤ 1048576) (hG : G.length ≤ 1048576) (hx : ∀ x ∈ G,x.f0.length ≤ 1048576) (he : ∀ e ∈ E,0 ≤ e.f0 ∧ e.f0 < (Y.length : Int) ∧ 0 ≤ e.f1 ∧ e.f1 < (Y.length : Int)) : ∀ (d i : Nat),i + d = G.length → Ev (fun k=>impl_ProofOk.l1 k G (G.length : Int) (i : Int) n E Y G) (grpsI n (G.take i) (G.drop i) && E.all fun e=>decide (0 ≤ slkP Y G e))
  | 0,i,hi=>by
    rw [List.drop_of_length_le (by omega),grpsI,Bool.true_and]
    have:=iPr_l3 E Y G hE hG hx he E.length 0 (by omega)
    rw [List.drop_zero] at this
    refine this.to fun k=>?_
    simp only [impl_ProofOk.l1]
    rw [if_neg (by omega)]
    rfl
  | d + 1,i,hi=>by
    have hlt : i < G.length:=by omega
    have w : wrap64 ((i : Int) + 1) = ((i + 1 : Nat) : Int):=by rw [wid (by omega) (by omega)];rfl
    have hl:=hx G[i] (List.getElem_mem hlt)
    have ih:=iPr_l1 hn hE hG hx he d (i + 1) (by omega)
    have et : G.take (i + 1) = G.take i ++ [G[i]]:=by rw [List.take_add_one,List.getElem?_eq_getElem hlt];rfl
    rw [et] at ih
    have t2:=iPr_l2 n E Y G hG (i : Int) (G.take i) (by rw [List.length_take];omega) (fun x h=>hx x (List.mem_of_mem_take h)) G[i].f0 G[i].f1 hl (by rw [w];exact ih) (G.take i).length 0 (by omega)
    rw [List.drop_zero] at t2
    rw [List.drop_eq_getElem_cons hlt,grpsI]
    refine Ev.to (f:=fun k=>(impl_groupOk.f k n E G[i].f0 G[i].f1).bind fun t237=>if t237 = true then impl_ProofOk.l2 k G (G.length : Int) (i : Int) (G.take i) ((G.take i).length : Int) 0 n E Y G G[i].f0 G[i].f1 else some false) ((iGroupOk n E hn G[i] hl).bind ?_) fun k=>?_
    · cases h : grpOk n G[i] with
      | false =>
        rw [Bool.false_and,Bool.false_and]
        exact Ev.ifn (by decide) (Ev.now _)
      | true =>
        rw [Bool.true_and,Bool.and_assoc]
        exact Ev.ifp rfl t2
    · simp only [impl_ProofOk.l1]
      rw [if_pos (by omega),if_pos (by omega),if_pos (by omega),ri_Group hlt]
      congr 1
      funext t
      cases t
      · rfl
      · simp only [if_true]
        rw [if_pos (by omega),Int.toNat_natCast]
        rfl
theorem iPr_l0 (hY : Y.length ≤ 1048576) {r : Bool} (hr : Ev (fun k=>impl_ProofOk.l1 k G (G.length : Int) 0 n E Y G) r) : ∀ (d i : Nat),i + d = Y.length → Ev (fun k=>impl_ProofOk.l0 k Y (Y.length : Int) (i : Int) n E Y G) (((Y.drop i).all fun y=>decide (0 ≤ y ∧ y ≤ 1000000000)) && r)
  | 0,i,hi=>by
    rw [List.drop_of_length_le (by omega),List.all_nil,Bool.true_and]
    refine hr.to fun k=>?_
    simp only [impl_ProofOk.l0]
    rw [if_neg (by omega)]
  | d + 1,i,hi=>by
    have hlt : i < Y.length:=by omega
    have w : qn (wrap64 ((i : Int) + 1) = ((i + 1 : Nat) : Int)):=⟨by rw [wid (by omega) (by omega)];rfl⟩
    rw [List.drop_eq_getElem_cons hlt,List.all_cons]
    by_cases h : 0 ≤ Y[i] ∧ Y[i] ≤ 1000000000
    · rw [decide_eq_true h,Bool.true_and]
      refine (iPr_l0 hY hr d (i + 1) (by omega)).to fun k=>?_
      simp only [impl_ProofOk.l0]
      rw [if_pos (by omega),if_pos (by omega),if_pos (by omega),rd_at hlt,i_in_t h,w.out]
      rfl
    · rw [decide_eq_false h,Bool.false_and,Bool.false_and]
      refine (Ev.now _).to fun k=>?_
      simp only [impl_ProofOk.l0]
      rw [if_pos (by omega),if_pos (by omega),if_pos (by omega),rd_at hlt,i_in_f h]
      rfl
theorem iProofOk (hE : E.length ≤ 1048576) (hY : Y.length ≤ 1048576) (hG : G.length ≤ 1048576) (hx : ∀ x ∈ G,x.f0.length ≤ 1048576) : Ev (fun k=>impl_ProofOk.f k n E Y G) (pProof n E Y G):=by
  have bad : Ev (fun k=>impl_ProofOk.j0 k true n E Y G) false:=(Ev.now _).to fun k=>by simp only [impl_ProofOk.j0,if_true]
  unfold impl_ProofOk.f
  refine (iGraphOk n E hE).bind ?_
  by_cases hg : gok n E = true
  · refine Ev.ifp hg ?_
    by_cases hl : (Y.length : Int) = n
    · refine Ev.ifp hl ?_
      by_cases h8 : (G.length : Int) > 8
      · rw [decide_eq_true h8,pProof_no (by omega)]
        exact bad
      · rw [decide_eq_false h8,pProof_yes ⟨hg,hl,by omega⟩]
        have hn:=gok_n hg
        have t1:=iPr_l1 n E Y G hn hE hG hx (gok_ends hg hl) G.length 0 (by omega)
        rw [List.drop_zero,List.take_zero] at t1
        have t0:=iPr_l0 n E Y G hY t1 Y.length 0 (by omega)
        rw [List.drop_zero] at t0
        refine t0.to fun k=>?_
        simp only [impl_ProofOk.j0]
        rw [if_neg (by decide)]
        rfl
    · rw [pProof_no (fun h=>hl h.2.1)]
      exact Ev.ifn hl bad
  · rw [pProof_no (fun h=>hg h.1)]
    exact Ev.ifn hg bad
end

theorem FnExactProofOk : laws_FnExactProofOk.Pure:=by
  intro n E Y G _ hE hY hG
  refine Ev.rounds (g:=fun k=>laws_FnExactProofOk.f k n E Y G) ?_
  unfold laws_FnExactProofOk.f
  obtain ⟨r,hr,hc⟩:=szGraph n E hE.1 1048576 (by decide) (by decide)
  rw [hr]
  simp only [Option.bind_some]
  by_cases h : r < 0
  · exact Ev.ifp h (Ev.now _)
  refine Ev.ifn h ?_
  have hc:=hc.resolve_left h
  obtain ⟨q,hq,hd⟩:=szProof Y G hY.1 hG.1 (fun x hx=>(hG.2 x hx).1.1) r (by omega) (by omega)
  refine hq.bind ?_
  by_cases h' : q < 0
  · exact Ev.ifp h' (Ev.now _)
  refine Ev.ifn h' ?_
  obtain ⟨h1,h2,h3⟩:=hd.resolve_left h'
  have hEm : (E.map cvEdge).length ≤ 1048576:=by rw [List.length_map];exact hc.2
  have hGm : (G.map cvGroup).length ≤ 1048576:=by rw [List.length_map];exact h2
  have hx : ∀ x ∈ G.map cvGroup,x.f0.length ≤ 1048576:=fun x hx=>by
    obtain ⟨y,hy,rfl⟩:=List.mem_map.1 hx
    exact h3 y hy
  have tG:=toGraph n E hc.2
  have tP:=toProof Y G h1 h2 h3
  refine tG.bind (tP.bind ((sProofOk n _ Y _ hEm h1 hGm hx).bind (tG.bind (tP.bind ((iProofOk n _ Y _ hEm h1 hGm hx).bind ?_)))))
  simp only [bne_rfl_bool,Bool.false_eq_true,if_false]
  exact tG.bind ((eqGraph n _ (by omega)).bind (Ev.ifp rfl (tP.bind ((eqProof Y _ (by omega) (by omega) (fun x h=>by have:=hx x h;omega)).bind (Ev.ifp rfl (Ev.now _))))))

end Go.Proofs.Ytcdofljgeiohgaa.Pure
