import Derived.Test.YtnffimpoekjkpaaGreatZFnExactSolvex120
import Derived.Laws.BitsAllLaws
set_option linter.all false
namespace Go.Proofs.YtnffimpoekjkpaaGreat.Pure
open Go.RowKit Go.Proofs.YtnffimpoekjkpaaGreatW.PrintWords Go.Proofs.YtnffimpoekjkpaaGreat.QFnExactSolve
set_option maxHeartbeats 4000000
theorem wid {n : Int} (h0 : -9223372036854775808 ≤ n) (h1 : n < 9223372036854775808) : wrap64 n = n:=by unfold wrap64;omega
theorem _root_.Go.Proofs.YtnffimpoekjkpaaGreatW.PrintWords.Ev.to {α : Type} {g f : Nat → Option α} {r : α} (k : Ev f r) (h : ∀ k,g (k + 1) = f k) : Ev g r:=Ev.step h k
theorem _root_.Go.Proofs.YtnffimpoekjkpaaGreatW.PrintWords.Ev.ifp {α : Type} {c : Prop} [Decidable c] {g f : Nat → Option α} {r : α} (h : c) (e : Ev g r) : Ev (fun k=>if c then g k else f k) r:=by simp only [if_pos h];exact e
def bl (s : ByteArray) : List Int:=s.data.toList.map fun b=>(b.toNat : Int)
theorem Jq' {α : Type} (xs : List α) {i : Nat} (v : α) (h : i < xs.length) : (xs.set i v).take (i + 1) = xs.take i ++ [v]:=by
 rw [List.take_succ_eq_append_getElem Bc',List.getElem_set_self,List.take_set_of_le (Nat.le_refl _)]
theorem getD_at {α : Type} {xs : List α} {i : Nat} (z : α) (h : i < xs.length) : xs.getD ((i : Int)).toNat z = xs[i]:=by
 rw [Int.toNat_natCast,List.getD_eq_getElem?_getD,List.getElem?_eq_getElem h];rfl
theorem rl_Edge {xs : List S84} {i : Nat} (h : i < xs.length) : Re' xs (i : Int) = xs[i]:=getD_at _ h
def Dh' (x : S84) : S73:=⟨x.f0,x.f1,x.f2,x.f3,x.f4⟩
theorem gl' (x0 : List S84) (hl : x0.length ≤ 1048576) : ∀ (d i : Nat) (x3 : List S73),i + d = x0.length → x3.length = x0.length → Ev (fun k=>laws_toEdgeS.l0 k x0 x3 (i : Int)) (x3.take i ++ (x0.drop i).map Dh')
 | 0,i,x3,hi,h3=>by
  rw [List.drop_of_length_le aa',List.take_of_length_le aa',List.map_nil,List.append_nil]
  refine (Ev.now _).to fun k=>?_
  simp only [laws_toEdgeS.l0]
  rw [if_neg aa']
 | d + 1,i,x3,hi,h3=>by
  have hlt : i < x0.length:=by omega
  have ih:=gl' x0 hl d (i + 1) (x3.set i (Dh' x0[i])) aa' (by rw [List.length_set];omega)
  rw [Jq' _ _ aa',List.append_assoc] at ih
  rw [List.drop_eq_getElem_cons hlt,List.map_cons]
  refine ih.to fun k=>?_
  simp only [laws_toEdgeS.l0]
  rw [if_pos aa',if_pos aa',rl_Edge hlt]
  simp only [laws_toEdge.f,Option.bind_some]
  rw [if_pos aa',wid aa' aa']
  rfl
theorem toEdgeS (x0 : List S84) (hl : x0.length ≤ 1048576) : Ev (fun k=>laws_toEdgeS.f k x0) (x0.map Dh'):=by
 unfold laws_toEdgeS.f
 refine Ev.ifp aa' (Ev.ifp (by rw [Int.toNat_natCast];omega) ?_)
 have:=gl' x0 hl x0.length 0 (List.replicate ((x0.length : Int) : Int).toNat z73) aa' (by rw [List.length_replicate,Int.toNat_natCast])
 simpa using this
theorem szEdgeS (x0 : List S84) (hl : x0.length ≤ 9223372036854775807) (m : Int) (h0 : 0 ≤ m) (h1 : m ≤ 1048576) : ∃ r,laws_szEdgeS.f x0 m = some r ∧ (r < 0 ∨ (r ≤ m ∧ x0.length ≤ 1048576)):=by
 unfold laws_szEdgeS.f
 have w : wrap64 (m - (x0.length : Int)) = m - x0.length:=wid aa' aa'
 rw [w];clear w
 by_cases hn : m - (x0.length : Int) < 0
 ·exact ⟨-1,by rw [if_pos hn],.inl aa'⟩
 exact ⟨_,by rw [if_neg hn],.inr ⟨aa',aa'⟩⟩
theorem szGraph (n : Int) (l : List S84) (hl : l.length ≤ 9223372036854775807) (m : Int) (h0 : 0 ≤ m) (h1 : m ≤ 1048576) : ∃ r,laws_szGraph.f n l m = some r ∧ (r < 0 ∨ (r ≤ m ∧ l.length ≤ 1048576)):=by
 unfold laws_szGraph.f
 obtain ⟨r,hr,hc⟩:=szEdgeS l hl m h0 h1
 rw [hr]
 simp only [Option.bind_some]
 by_cases h : r < 0
 ·exact ⟨-1,by rw [if_pos h],.inl aa'⟩
 exact ⟨r,by rw [if_neg h],hc⟩
theorem toGraph (n : Int) (l : List S84) (hl : l.length ≤ 1048576) : Ev (fun k=>laws_toGraph.f k n l) (n,l.map Dh'):=by
 unfold laws_toGraph.f
 exact (toEdgeS l hl).bind (Ev.now _)
theorem FnExactSolve (n : Int) (l : List S84) (hl : l.length ≤ 9223372036854775807) : ∃ k,LawS k n l:=by
 obtain ⟨r,hr,hc⟩:=szGraph n l hl 1048576 ba' ba'
 by_cases h : r < 0
 ·exact ⟨0,r,hr,.inl h⟩
 have hll:=(hc.resolve_left h).2
 have hm : (l.map Dh').length ≤ 1048576:=by rw [List.length_map];exact hll
 obtain ⟨k1,e1⟩:=toGraph n l hll
 refine ⟨k1,r,hr,.inr ⟨aa',n,l.map Dh',e1 _ aa',hm,gkB n (l.map Dh'),?_⟩⟩
 cases hb : gkB n (l.map Dh') with
 | false=>exact ⟨[],[],[],⟨⟨hm,hb⟩,fun _=>⟨rfl,rfl,rfl⟩,fun h=>by cases h⟩,ia',ia',ia',ia'⟩
 | true=>exact answers (gkB_gph hb) ⟨hm,hb⟩
end Go.Proofs.YtnffimpoekjkpaaGreat.Pure
