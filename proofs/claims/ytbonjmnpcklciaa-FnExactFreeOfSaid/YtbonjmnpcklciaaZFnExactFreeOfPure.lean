/- The program's FreeOf and the reference's FreeOf return the same sectors, for every device and all used sectors; the arguments stay as they were, the answer owns its memory. -/
import Derived.Test.YtbonjmnpcklciaaZFnExactFreeOfx7
import Derived.Laws.BitsAllLaws
namespace Go.Proofs.Ytbonjmnpcklciaa.Pure
open Go.RowKit Go.Proofs.Ytbonjmnpcklciaa.QFnExactFreeOf Go.Proofs.YtbonjmnpcklciaaW.PrintWords Go.Proofs.YtbonjmnpcklciaaW.PrintLast
set_option linter.unusedVariables false
set_option linter.unusedSimpArgs false
set_option maxHeartbeats 4000000

def laws_FnExactFreeOf.Pure : Prop:=∀ (l0_0 : List (ByteArray)) (l0_1 : List (S177)) (l1 : List (Int)),(l0_0.length ≤ 9223372036854775807 ∧ ∀ x1 ∈ l0_0,x1.size ≤ 9223372036854775807) → (l0_1.length ≤ 9223372036854775807 ∧ ∀ x1 ∈ l0_1,((Lit.int .i64 x1.f0).wf = true) ∧ (x1.f1.size ≤ 9223372036854775807)) → (l1.length ≤ 9223372036854775807 ∧ ∀ x1 ∈ l1,(Lit.int .i64 x1).wf = true) → ∃ k,laws_FnExactFreeOf.f k l0_0 l0_1 l1 = some true

theorem wid {n : Int} (h0 : -9223372036854775808 ≤ n) (h1 : n < 9223372036854775808) : wrap64 n = n:=by unfold wrap64;omega
theorem _root_.Go.Proofs.YtbonjmnpcklciaaW.PrintWords.Ev.ofEq {α : Type} {g : Nat → Option α} {r q : α} (h : Ev g r) (e : r = q) : Ev g q:=e ▸ h
theorem _root_.Go.Proofs.YtbonjmnpcklciaaW.PrintWords.Ev.same {α : Type} {o : Option α} {r : α} (h : o = some r) : Ev (fun _=>o) r:=⟨0,fun _ _=>h⟩
theorem _root_.Go.Proofs.YtbonjmnpcklciaaW.PrintWords.Ev.to {α : Type} {g f : Nat → Option α} {r : α} (k : Ev f r) (h : ∀ k,g (k + 1) = f k) : Ev g r:=Ev.step h k
theorem _root_.Go.Proofs.YtbonjmnpcklciaaW.PrintWords.Ev.ifp {α : Type} {c : Prop} [Decidable c] {g f : Nat → Option α} {r : α} (h : c) (e : Ev g r) : Ev (fun k=>if c then g k else f k) r:=by simp only [if_pos h];exact e
theorem _root_.Go.Proofs.YtbonjmnpcklciaaW.PrintWords.Ev.ifn {α : Type} {c : Prop} [Decidable c] {g f : Nat → Option α} {r : α} (h : ¬ c) (e : Ev f r) : Ev (fun k=>if c then g k else f k) r:=by simp only [if_neg h];exact e
/-- The bytes of a string, as numbers. -/
def bl (s : ByteArray) : List Int:=s.data.toList.map fun b=>(b.toNat : Int)
theorem bl_len (s : ByteArray) : (bl s).length = s.size:=by unfold bl;rw [List.length_map];rfl
def Byt (xs : List Int) : Prop:=∀ x ∈ xs,0 ≤ x ∧ x < 256
theorem Byt.nil : Byt []:=fun _ h=>by simp at h
theorem Byt.cons {x : Int} {xs : List Int} (h : 0 ≤ x ∧ x < 256) (h' : Byt xs) : Byt (x :: xs):=fun y hy=>by
  rcases List.mem_cons.1 hy with rfl|hy
  · exact h
  · exact h' y hy
theorem Byt.head {x : Int} {xs : List Int} (h : Byt (x :: xs)) : 0 ≤ x ∧ x < 256:=h x (List.mem_cons_self ..)
theorem Byt.drop {xs : List Int} (h : Byt xs) (n : Nat) : Byt (xs.drop n):=fun y hy=>h y (List.mem_of_mem_drop hy)
theorem Byt.take {xs : List Int} (h : Byt xs) (n : Nat) : Byt (xs.take n):=fun y hy=>h y (List.mem_of_mem_take hy)
theorem str_bl (s : ByteArray) : strOfNums (bl s) = s:=by
  unfold strOfNums bl
  rw [List.map_map]
  have : ((fun n : Int=>UInt8.ofNat n.toNat) ∘ fun b : UInt8=>(b.toNat : Int)) = id:=by
    funext b
    simp
  rw [this,List.map_id]
theorem bl_inj {a b : ByteArray} (h : bl a = bl b) : a = b:=by rw [← str_bl a,← str_bl b,h]
theorem bl_app (a b : ByteArray) : bl (a ++ b) = bl a ++ bl b:=by
  unfold bl
  rw [ByteArray.data_append,Array.toList_append,List.map_append]
theorem bl_emp : bl (⟨#[]⟩ : ByteArray) = []:=rfl
theorem tdiv_pos {a b : Int} (h : 0 ≤ a) : Int.tdiv a b = a / b:=Int.tdiv_eq_ediv_of_nonneg h
theorem tmod_pos {a b : Int} (h : 0 ≤ a) : Int.tmod a b = a % b:=Int.tmod_eq_emod_of_nonneg h
theorem Byt.one {x : Int} (h : 0 ≤ x ∧ x < 256) : Byt [x]:=Byt.nil.cons h
theorem bl_size (s : ByteArray) : s.size = (bl s).length:=(bl_len s).symm
theorem str_len (xs : List Int) : (strOfNums xs).size = xs.length:=strOfNums_size xs

theorem set_take {α : Type} (xs : List α) {i : Nat} (v : α) (h : i < xs.length) : (xs.set i v).take (i + 1) = xs.take i ++ [v]:=by
  rw [List.take_succ_eq_append_getElem (by rw [List.length_set];exact h),List.getElem_set_self,List.take_set_of_le (Nat.le_refl _)]
theorem take_set_drop {α : Type} (xs : List α) {i : Nat} (v : α) (h : i < xs.length) : (xs.set i v).drop (i + 1) = xs.drop (i + 1):=by
  rw [List.drop_set_of_lt (by omega)]
theorem getD_at {α : Type} {xs : List α} {i : Nat} (z : α) (h : i < xs.length) : xs.getD ((i : Int)).toNat z = xs[i]:=by
  rw [Int.toNat_natCast,List.getD_eq_getElem?_getD,List.getElem?_eq_getElem h];rfl
theorem rdOf_at {α : Type} {xs : List α} {i : Nat} (z : α) (h : i < xs.length) : rdOf z xs (i : Int) = xs[i]:=getD_at z h
theorem rd_at {xs : List Int} {i : Nat} (h : i < xs.length) : rd xs (i : Int) = xs[i]:=getD_at 0 h
theorem rl_Put {xs : List S177} {i : Nat} (h : i < xs.length) : rd_T177 xs (i : Int) = xs[i]:=getD_at _ h

def cvPut (x : S177) : S143:=⟨x.f0,x.f1⟩
theorem toPutS_go (x0 : List S177) (hl : x0.length ≤ 1048576) : ∀ (d i : Nat) (x3 : List S143),i + d = x0.length → x3.length = x0.length → Ev (fun k=>laws_toPutS.l0 k x0 x3 (i : Int)) (x3.take i ++ (x0.drop i).map cvPut)
  | 0,i,x3,hi,h3=>by
    rw [List.drop_of_length_le (by omega),List.take_of_length_le (by omega),List.map_nil,List.append_nil]
    refine (Ev.now _).to fun k=>?_
    simp only [laws_toPutS.l0]
    rw [if_neg (by omega)]
  | d + 1,i,x3,hi,h3=>by
    have hlt : i < x0.length:=by omega
    have ih:=toPutS_go x0 hl d (i + 1) (x3.set i (cvPut x0[i])) (by omega) (by rw [List.length_set];omega)
    rw [set_take _ _ (by omega),List.append_assoc] at ih
    rw [List.drop_eq_getElem_cons hlt,List.map_cons]
    refine ih.to fun k=>?_
    simp only [laws_toPutS.l0]
    rw [if_pos (by omega),if_pos (by omega),rl_Put hlt]
    simp only [laws_toPut.f,Option.bind_some]
    rw [if_pos (by omega),wid (by omega) (by omega)]
    rfl
theorem toPutS (x0 : List S177) (hl : x0.length ≤ 1048576) : Ev (fun k=>laws_toPutS.f k x0) (x0.map cvPut):=by
  unfold laws_toPutS.f
  refine Ev.ifp (by omega) (Ev.ifp (by rw [Int.toNat_natCast];omega) ?_)
  have:=toPutS_go x0 hl x0.length 0 (List.replicate ((x0.length : Int) : Int).toNat z143) (by omega) (by rw [List.length_replicate,Int.toNat_natCast])
  simpa using this

theorem ri_Put {xs : List S143} {i : Nat} (h : i < xs.length) : rd_T143 xs (i : Int) = xs[i]:=getD_at _ h

theorem eqPut_self (x : S143) : laws_eqPut.f x.f0 x.f1 x.f0 x.f1 = some true:=by unfold laws_eqPut.f;simp
theorem eqPutS_go (x0 : List S143) (hl : x0.length ≤ 100000000) : ∀ (d i : Nat),i + d = x0.length → Ev (fun k=>laws_eqPutS.l0 k x0 x0 (i : Int)) true
  | 0,i,hi=>(Ev.now _).to fun k=>by simp only [laws_eqPutS.l0];rw [if_neg (by omega)]
  | d + 1,i,hi=>by
    refine (eqPutS_go x0 hl d (i + 1) (by omega)).to fun k=>?_
    simp only [laws_eqPutS.l0]
    rw [if_pos (by omega),if_pos (by omega),if_pos (by omega),eqPut_self]
    simp only [Option.bind_some,if_true]
    rw [wid (by omega) (by omega)]
    rfl
theorem eqPutS (x0 : List S143) (hl : x0.length ≤ 100000000) : Ev (fun k=>laws_eqPutS.f k x0 x0) true:=by
  unfold laws_eqPutS.f
  exact Ev.ifp rfl (eqPutS_go x0 hl x0.length 0 (by omega))

theorem eqStringS_go (x0 : List ByteArray) (hl : x0.length ≤ 100000000) : ∀ (d i : Nat),i + d = x0.length → Ev (fun k=>laws_eqStringS.l0 k x0 x0 (i : Int)) true
  | 0,i,hi=>(Ev.now _).to fun k=>by simp only [laws_eqStringS.l0];rw [if_neg (by omega)]
  | d + 1,i,hi=>by
    refine (eqStringS_go x0 hl d (i + 1) (by omega)).to fun k=>?_
    simp only [laws_eqStringS.l0,if_true]
    rw [if_pos (by omega),if_pos (by omega),if_pos (by omega),wid (by omega) (by omega)]
    rfl
theorem eqStringS (x0 : List ByteArray) (hl : x0.length ≤ 100000000) : Ev (fun k=>laws_eqStringS.f k x0 x0) true:=by
  unfold laws_eqStringS.f
  exact Ev.ifp rfl (eqStringS_go x0 hl x0.length 0 (by omega))

theorem eqDevice (s : List ByteArray) (p : List S143) (hs : s.length ≤ 100000000) (hp : p.length ≤ 100000000) : Ev (fun k=>laws_eqDevice.f k s p s p) true:=by
  unfold laws_eqDevice.f
  refine (eqStringS s hs).bind (Ev.ifp rfl ((eqPutS p hp).bind (Ev.ifp rfl (Ev.now _))))

def okPut (x : S177) : Prop:=x.f1.size ≤ 9223372036854775807
def smallPut (x : S177) : Prop:=x.f1.size ≤ 1048576
theorem szPut_ (x : S177) (hx : okPut x) (m : Int) (h0 : 0 ≤ m) (h1 : m ≤ 1048576) : ∃ r,laws_szPut.f x.f0 x.f1 m = some r ∧ (r < 0 ∨ (r ≤ m ∧ smallPut x)):=by
  unfold laws_szPut.f
  unfold okPut at hx
  unfold smallPut
  rw [wid (by omega) (by omega)]
  split
  · exact ⟨_,rfl,.inl (by omega)⟩
  · exact ⟨_,rfl,.inr ⟨by omega,by omega⟩⟩
theorem szPutS_go (x0 : List S177) (hl : x0.length ≤ 1048576) (hx : ∀ x ∈ x0,okPut x) : ∀ (d i : Nat) (m : Int),i + d = x0.length → 0 ≤ m → m ≤ 1048576 → ∃ r,Ev (fun k=>laws_szPutS.l0 k x0 m (i : Int)) r ∧ (r < 0 ∨ (r ≤ m ∧ ∀ x ∈ x0.drop i,smallPut x))
  | 0,i,m,hi,h0,h1=>⟨m,(Ev.now _).to fun k=>by simp only [laws_szPutS.l0];rw [if_neg (by omega)],.inr ⟨by omega,fun x h=>by rw [List.drop_of_length_le (by omega)] at h;simp at h⟩⟩
  | d + 1,i,m,hi,h0,h1=>by
    have hlt : i < x0.length:=by omega
    obtain ⟨r,hr,hc⟩:=szPut_ x0[i] (hx _ (List.getElem_mem hlt)) m h0 h1
    by_cases hn : r < 0
    · refine ⟨-1,(Ev.now _).to fun k=>?_,.inl (by omega)⟩
      simp only [laws_szPutS.l0]
      rw [if_pos (by omega),if_pos (by omega),rl_Put hlt,hr]
      simp only [Option.bind_some]
      rw [if_pos hn]
    · have hc':=hc.resolve_left hn
      obtain ⟨r',hr',hc2⟩:=szPutS_go x0 hl hx d (i + 1) r (by omega) (by omega) (by omega)
      refine ⟨r',hr'.to fun k=>?_,?_⟩
      · simp only [laws_szPutS.l0]
        rw [if_pos (by omega),if_pos (by omega),rl_Put hlt,hr]
        simp only [Option.bind_some]
        rw [if_neg hn,wid (by omega) (by omega)]
        rfl
      · rcases hc2 with hc2|⟨h2,h3⟩
        · exact .inl hc2
        · refine .inr ⟨by omega,fun x hx'=>?_⟩
          rw [List.drop_eq_getElem_cons hlt] at hx'
          rcases List.mem_cons.1 hx' with rfl|hx'
          · exact hc'.2
          · exact h3 x hx'
theorem szPutS (x0 : List S177) (hl : x0.length ≤ 9223372036854775807) (hx : ∀ x ∈ x0,okPut x) (m : Int) (h0 : 0 ≤ m) (h1 : m ≤ 1048576) : ∃ r,Ev (fun k=>laws_szPutS.f k x0 m) r ∧ (r < 0 ∨ (r ≤ m ∧ x0.length ≤ 1048576 ∧ ∀ x ∈ x0,smallPut x)):=by
  unfold laws_szPutS.f
  have w : wrap64 (m - (x0.length : Int)) = m - x0.length:=wid (by omega) (by omega)
  rw [w];clear w
  by_cases hn : m - (x0.length : Int) < 0
  · exact ⟨-1,Ev.ifp hn (Ev.now _),.inl (by omega)⟩
  · obtain ⟨r,hr,hc⟩:=szPutS_go x0 (by omega) hx x0.length 0 (m - x0.length) (by omega) (by omega) (by omega)
    refine ⟨r,Ev.ifn hn hr,?_⟩
    rcases hc with hc|⟨h2,h3⟩
    · exact .inl hc
    · exact .inr ⟨by omega,by omega,fun x hx'=>h3 x (by simpa using hx')⟩

theorem toStringS_go (x0 : List ByteArray) (hl : x0.length ≤ 1048576) : ∀ (d i : Nat) (x3 : List ByteArray),i + d = x0.length → x3.length = x0.length → Ev (fun k=>laws_toStringS.l0 k x0 x3 (i : Int)) (x3.take i ++ x0.drop i)
  | 0,i,x3,hi,h3=>by
    rw [List.drop_of_length_le (by omega),List.take_of_length_le (by omega),List.append_nil]
    refine (Ev.now _).to fun k=>?_
    simp only [laws_toStringS.l0]
    rw [if_neg (by omega)]
  | d + 1,i,x3,hi,h3=>by
    have hlt : i < x0.length:=by omega
    have ih:=toStringS_go x0 hl d (i + 1) (x3.set i x0[i]) (by omega) (by rw [List.length_set];omega)
    rw [set_take _ _ (by omega),List.append_assoc] at ih
    rw [List.drop_eq_getElem_cons hlt]
    refine ih.to fun k=>?_
    simp only [laws_toStringS.l0]
    rw [if_pos (by omega),if_pos (by omega),if_pos (by omega),rdOf_at _ hlt,wid (by omega) (by omega)]
    rfl
theorem toStringS (x0 : List ByteArray) (hl : x0.length ≤ 1048576) : Ev (fun k=>laws_toStringS.f k x0) x0:=by
  unfold laws_toStringS.f
  refine Ev.ifp (by omega) (Ev.ifp (by rw [Int.toNat_natCast];omega) ?_)
  have:=toStringS_go x0 hl x0.length 0 (List.replicate ((x0.length : Int) : Int).toNat (⟨#[]⟩ : ByteArray)) (by omega) (by rw [List.length_replicate,Int.toNat_natCast])
  simpa using this

theorem szStringS_go (x0 : List ByteArray) (hl : x0.length ≤ 1048576) (hx : ∀ x ∈ x0,x.size ≤ 9223372036854775807) : ∀ (d i : Nat) (m : Int),i + d = x0.length → 0 ≤ m → m ≤ 1048576 → ∃ r,Ev (fun k=>laws_szStringS.l0 k x0 m (i : Int)) r ∧ (r < 0 ∨ (r ≤ m ∧ ∀ x ∈ x0.drop i,x.size ≤ 1048576))
  | 0,i,m,hi,h0,h1=>⟨m,(Ev.now _).to fun k=>by simp only [laws_szStringS.l0];rw [if_neg (by omega)],.inr ⟨by omega,fun x h=>by rw [List.drop_of_length_le (by omega)] at h;simp at h⟩⟩
  | d + 1,i,m,hi,h0,h1=>by
    have hlt : i < x0.length:=by omega
    have hs:=hx _ (List.getElem_mem hlt)
    have w : qn (wrap64 (m - (x0[i].size : Int)) = m - x0[i].size):=⟨wid (by omega) (by omega)⟩
    by_cases hn : m - (x0[i].size : Int) < 0
    · refine ⟨-1,(Ev.now _).to fun k=>?_,.inl (by omega)⟩
      simp only [laws_szStringS.l0]
      rw [if_pos (by omega),if_pos (by omega),rdOf_at _ hlt,w.out,if_pos hn]
    · obtain ⟨r',hr',hc2⟩:=szStringS_go x0 hl hx d (i + 1) (m - x0[i].size) (by omega) (by omega) (by omega)
      refine ⟨r',hr'.to fun k=>?_,?_⟩
      · simp only [laws_szStringS.l0]
        rw [if_pos (by omega),if_pos (by omega),rdOf_at _ hlt,w.out,if_neg hn,wid (by omega) (by omega)]
        rfl
      · rcases hc2 with hc2|⟨h2,h3⟩
        · exact .inl hc2
        · refine .inr ⟨by omega,fun x hx'=>?_⟩
          rw [List.drop_eq_getElem_cons hlt] at hx'
          rcases List.mem_cons.1 hx' with rfl|hx'
          · omega
          · exact h3 x hx'
theorem szStringS (x0 : List ByteArray) (hl : x0.length ≤ 9223372036854775807) (hx : ∀ x ∈ x0,x.size ≤ 9223372036854775807) (m : Int) (h0 : 0 ≤ m) (h1 : m ≤ 1048576) : ∃ r,Ev (fun k=>laws_szStringS.f k x0 m) r ∧ (r < 0 ∨ (r ≤ m ∧ x0.length ≤ 1048576 ∧ ∀ x ∈ x0,x.size ≤ 1048576)):=by
  unfold laws_szStringS.f
  have w : wrap64 (m - (x0.length : Int)) = m - x0.length:=wid (by omega) (by omega)
  rw [w];clear w
  by_cases hn : m - (x0.length : Int) < 0
  · exact ⟨-1,Ev.ifp hn (Ev.now _),.inl (by omega)⟩
  · obtain ⟨r,hr,hc⟩:=szStringS_go x0 (by omega) hx x0.length 0 (m - x0.length) (by omega) (by omega) (by omega)
    refine ⟨r,Ev.ifn hn hr,?_⟩
    rcases hc with hc|⟨h2,h3⟩
    · exact .inl hc
    · exact .inr ⟨by omega,by omega,fun x hx'=>h3 x (by simpa using hx')⟩

theorem szDevice (s : List ByteArray) (p : List S177) (hs : s.length ≤ 9223372036854775807) (hs' : ∀ x ∈ s,x.size ≤ 9223372036854775807) (hp : p.length ≤ 9223372036854775807) (hp' : ∀ x ∈ p,okPut x) (m : Int) (h0 : 0 ≤ m) (h1 : m ≤ 1048576) :
    ∃ r,Ev (fun k=>laws_szDevice.f k s p m) r ∧ (r < 0 ∨ (r ≤ m ∧ s.length ≤ 1048576 ∧ (∀ x ∈ s,x.size ≤ 1048576) ∧ p.length ≤ 1048576 ∧ ∀ x ∈ p,smallPut x)):=by
  unfold laws_szDevice.f
  obtain ⟨r,hr,hc⟩:=szStringS s hs hs' m h0 h1
  by_cases h : r < 0
  · exact ⟨-1,hr.bind (Ev.ifp h (Ev.now _)),.inl (by omega)⟩
  · have hc:=hc.resolve_left h
    obtain ⟨q,hq,hd⟩:=szPutS p hp hp' r (by omega) (by omega)
    by_cases h' : q < 0
    · exact ⟨-1,hr.bind (Ev.ifn h (hq.bind (Ev.ifp h' (Ev.now _)))),.inl (by omega)⟩
    · have hd:=hd.resolve_left h'
      exact ⟨q,hr.bind (Ev.ifn h (hq.bind (Ev.ifn h' (Ev.now _)))),.inr ⟨by omega,hc.2.1,hc.2.2,hd.2.1,hd.2.2⟩⟩
theorem toDevice (s : List ByteArray) (p : List S177) (hs : s.length ≤ 1048576) (hp : p.length ≤ 1048576) : Ev (fun k=>laws_toDevice.f k s p) (s,p.map cvPut):=by
  unfold laws_toDevice.f
  exact (toStringS s hs).bind ((toPutS p hp).bind (Ev.now _))

/-! Marks -/
def digL (n : Nat) : List Int:=if h : n > 0 then digL (n / 10) ++ [48 + ((n % 10 : Nat) : Int)] else []
termination_by n
decreasing_by omega
theorem digL_pos {n : Nat} (h : n > 0) : digL n = digL (n / 10) ++ [48 + ((n % 10 : Nat) : Int)]:=by rw [digL,dif_pos h]
theorem digL_zero : digL 0 = []:=by rw [digL,dif_neg (by omega)]
def MB : ByteArray:=⟨#[109]⟩
def mText (m : Int) : ByteArray:=if m ≤ 0 then ⟨#[109,48]⟩ else MB ++ strOfNums (digL m.toNat)
theorem str_app {xs ys : List Int} : strOfNums (xs ++ ys) = strOfNums xs ++ strOfNums ys:=by
  apply ByteArray.ext
  unfold strOfNums
  rw [ByteArray.data_append]
  simp
theorem ba_assoc (a b c : ByteArray) : a ++ b ++ c = a ++ (b ++ c):=by
  apply bl_inj
  simp only [bl_app,List.append_assoc]
theorem mText_go (n : Nat) : ∀ acc : ByteArray,acc.size + n ≤ 1000000000000 → Ev (fun k=>laws_markText.l0 k (n : Int) acc) (MB ++ (strOfNums (digL n) ++ acc)):=by
  induction n using Nat.strongRecOn with
  | _ n ih =>
    intro acc ha
    by_cases h : n > 0
    · have h1 : (strOfNums [48 + ((n % 10 : Nat) : Int)] ++ acc).size = 1 + acc.size:=by rw [bl_size,bl_app,List.length_append,bl_len,bl_len,str_len];rfl
      have:=ih (n / 10) (by omega) (strOfNums [48 + ((n % 10 : Nat) : Int)] ++ acc) (by omega)
      rw [← ba_assoc (strOfNums (digL (n / 10))),← str_app,← digL_pos h] at this
      refine this.to fun k=>?_
      have w : wrap64 (48 + Int.tmod (n : Int) 10) % 256 = 48 + ((n % 10 : Nat) : Int):=by rw [tmod_pos (by omega),wid (by omega) (by omega)];omega
      simp only [laws_markText.l0,w,Option.bind_some]
      clear w
      rw [if_pos (by omega),if_pos (by rw [str_len,List.length_singleton];omega),tdiv_pos (by omega),wid (by omega) (by omega)]
      congr 1
    · obtain rfl : n = 0:=by omega
      rw [digL_zero]
      refine (Ev.now _).to fun k=>?_
      simp only [laws_markText.l0]
      rw [if_neg (by omega),if_pos (by omega)]
      have e : strOfNums [] ++ acc = acc:=by apply bl_inj;rw [bl_app];rfl
      rw [e]
      rfl
theorem markText (m : Int) (h : m ≤ 100000000000) : Ev (fun k=>laws_markText.f k m) (mText m):=by
  unfold laws_markText.f mText
  by_cases h0 : m ≤ 0
  · rw [if_pos h0];exact Ev.ifp h0 (Ev.now _)
  · rw [if_neg h0]
    refine Ev.ifn h0 ?_
    have:=mText_go m.toNat (⟨#[]⟩ : ByteArray) (by show 0 + m.toNat ≤ _;omega)
    rw [Int.toNat_of_nonneg (by omega)] at this
    refine Ev.ofEq this ?_
    congr 1
    apply bl_inj
    rw [bl_app,bl_emp,List.append_nil]

def mkS : Int → List ByteArray → List ByteArray
  | _,[]=>[]
  | m,_ :: l=>mText m :: mkS (m + 1) l
theorem markStringS_go : ∀ (d i : Nat) (x0 : List ByteArray) (m : Int),i + d = x0.length → x0.length ≤ 100000000 → 0 ≤ m → m + d ≤ 10000000000 → Ev (fun k=>laws_markStringS.l0 k x0 m (i : Int)) (m + d,x0.take i ++ mkS m (x0.drop i))
  | 0,i,x0,m,hi,hl,h0,h1=>by
    rw [List.drop_of_length_le (by omega),List.take_of_length_le (by omega)]
    refine Ev.ofEq ((Ev.now (m,x0)).to fun k=>?_) (by simp [mkS])
    simp only [laws_markStringS.l0];rw [if_neg (by omega)]
  | d + 1,i,x0,m,hi,hl,h0,h1=>by
    have hlt : i < x0.length:=by omega
    have ih:=markStringS_go d (i + 1) (x0.set i (mText m)) (m + 1) (by rw [List.length_set];omega) (by rw [List.length_set];omega) (by omega) (by omega)
    rw [set_take _ _ hlt,take_set_drop _ _ hlt,List.append_assoc] at ih
    rw [List.drop_eq_getElem_cons hlt,mkS]
    have e : ((m + 1) + (d : Int),x0.take i ++ ([mText m] ++ mkS (m + 1) (x0.drop (i + 1)))) = (m + ((d + 1 : Nat) : Int),x0.take i ++ mText m :: mkS (m + 1) (x0.drop (i + 1))):=by
      rw [List.singleton_append];congr 1;omega
    rw [e] at ih
    refine Ev.to (f:=fun k=>(laws_markText.f k m).bind fun t=>laws_markStringS.l0 k (x0.set i t) (m + 1) ((i + 1 : Nat) : Int)) ((markText m (by omega)).bind ih) fun k=>?_
    have w1 : wrap64 (m + 1) = m + 1:=wid (by omega) (by omega)
    have w2 : wrap64 ((i : Int) + 1) = ((i + 1 : Nat) : Int):=by rw [wid (by omega) (by omega)];rfl
    simp only [laws_markStringS.l0,w1,w2,Int.toNat_natCast,if_pos (show (0 : Int) ≤ (i : Int) by omega),if_pos (show (i : Int) < x0.length by omega)]
theorem markStringS (x0 : List ByteArray) (m : Int) (hl : x0.length ≤ 100000000) (h0 : 0 ≤ m) (h1 : m ≤ 1000000000) : Ev (fun k=>laws_markStringS.f k x0 m) (m + x0.length,mkS m x0):=by
  unfold laws_markStringS.f
  have:=markStringS_go x0.length 0 x0 m (by omega) hl h0 (by omega)
  simpa using this

def mkPut : Int → List S143 → List S143
  | _,[]=>[]
  | m,_ :: l=>⟨m,mText (m + 1)⟩ :: mkPut (m + 2) l
theorem ri_set_Put {xs : List S143} {i : Nat} (v : S143) (h : i < xs.length) : rd_T143 (xs.set i v) (i : Int) = v:=by
  rw [ri_Put (by rw [List.length_set];exact h),List.getElem_set_self]
theorem markPutS_go : ∀ (d i : Nat) (x0 : List S143) (m : Int),i + d = x0.length → x0.length ≤ 100000000 → 0 ≤ m → m + 2 * d ≤ 10000000000 → Ev (fun k=>laws_markPutS.l0 k x0 m (i : Int)) (m + 2 * d,x0.take i ++ mkPut m (x0.drop i))
  | 0,i,x0,m,hi,hl,h0,h1=>by
    rw [List.drop_of_length_le (by omega),List.take_of_length_le (by omega)]
    refine Ev.ofEq ((Ev.now (m,x0)).to fun k=>?_) (by simp [mkPut])
    simp only [laws_markPutS.l0];rw [if_neg (by omega)]
  | d + 1,i,x0,m,hi,hl,h0,h1=>by
    have hlt : i < x0.length:=by omega
    have ih:=markPutS_go d (i + 1) (x0.set i ⟨m,mText (m + 1)⟩) (m + 2) (by rw [List.length_set];omega) (by rw [List.length_set];omega) (by omega) (by omega)
    rw [set_take _ _ hlt,take_set_drop _ _ hlt,List.append_assoc] at ih
    rw [List.drop_eq_getElem_cons hlt,mkPut]
    have e : ((m + 2) + 2 * (d : Int),x0.take i ++ ([⟨m,mText (m + 1)⟩] ++ mkPut (m + 2) (x0.drop (i + 1)))) = (m + 2 * ((d + 1 : Nat) : Int),x0.take i ++ ⟨m,mText (m + 1)⟩ :: mkPut (m + 2) (x0.drop (i + 1))):=by
      rw [List.singleton_append];congr 1;omega
    rw [e] at ih
    refine Ev.to (f:=fun k=>(laws_markText.f k (m + 1)).bind fun t1=>laws_markPutS.l0 k (x0.set i ⟨m,t1⟩) (m + 2) ((i + 1 : Nat) : Int)) (r:=(m + 2 * ((d + 1 : Nat) : Int),x0.take i ++ ⟨m,mText (m + 1)⟩ :: mkPut (m + 2) (x0.drop (i + 1)))) ?_ fun k=>?_
    · skip
      refine (markText _ (by omega)).bind ?_
      exact ih
    have w0 : wrap64 (m + 1) = m + 1:=wid (by omega) (by omega)
    have w1 : wrap64 (m + 1 + 1) = m + 2:=by rw [wid (by omega) (by omega)];omega
    have w_ : wrap64 ((i : Int) + 1) = ((i + 1 : Nat) : Int):=by rw [wid (by omega) (by omega)];rfl
    simp only [laws_markPutS.l0,w0,w1,w_,Int.toNat_natCast,Option.bind_some,ri_Put hlt,ri_set_Put _ hlt,List.set_set,if_pos (show (i : Int) < (x0.length : Int) by omega),if_pos (show (0 : Int) ≤ (i : Int) by omega)]
theorem markPutS (x0 : List S143) (m : Int) (hl : x0.length ≤ 100000000) (h0 : 0 ≤ m) (h1 : m ≤ 1000000000) : Ev (fun k=>laws_markPutS.f k x0 m) (m + 2 * x0.length,mkPut m x0):=by
  unfold laws_markPutS.f
  have:=markPutS_go x0.length 0 x0 m (by omega) hl h0 (by omega)
  simpa using this

theorem mark0 (s : List ByteArray) (p : List S143) (hs : s.length ≤ 1048576) (hp : p.length ≤ 1048576) : Ev (fun k=>laws_markDevice.f k s p 1) (1 + s.length + 2 * p.length,mkS 1 s,mkPut (1 + s.length) p):=by
  unfold laws_markDevice.f
  exact (markStringS s 1 (by omega) (by omega) (by omega)).bind ((markPutS p (1 + s.length) (by omega) (by omega) (by omega)).bind (Ev.now _))

theorem toIntS_go (x0 : List Int) (hl : x0.length ≤ 1048576) : ∀ (d i : Nat) (x3 : List Int),i + d = x0.length → x3.length = x0.length → Ev (fun k=>laws_toIntS.l0 k x0 x3 (i : Int)) (x3.take i ++ x0.drop i)
  | 0,i,x3,hi,h3=>by
    rw [List.drop_of_length_le (by omega),List.take_of_length_le (by omega),List.append_nil]
    refine (Ev.now _).to fun k=>?_
    simp only [laws_toIntS.l0]
    rw [if_neg (by omega)]
  | d + 1,i,x3,hi,h3=>by
    have hlt : i < x0.length:=by omega
    have ih:=toIntS_go x0 hl d (i + 1) (x3.set i x0[i]) (by omega) (by rw [List.length_set];omega)
    rw [set_take _ _ (by omega),List.append_assoc] at ih
    rw [List.drop_eq_getElem_cons hlt]
    refine ih.to fun k=>?_
    simp only [laws_toIntS.l0]
    rw [if_pos (by omega),if_pos (by omega),if_pos (by omega),rd_at hlt,wid (by omega) (by omega)]
    rfl
theorem toIntS (x0 : List Int) (hl : x0.length ≤ 1048576) : Ev (fun k=>laws_toIntS.f k x0) x0:=by
  unfold laws_toIntS.f
  refine Ev.ifp (by omega) (Ev.ifp (by rw [Int.toNat_natCast];omega) ?_)
  have:=toIntS_go x0 hl x0.length 0 (List.replicate ((x0.length : Int) : Int).toNat 0) (by omega) (by rw [List.length_replicate,Int.toNat_natCast])
  simpa using this

theorem eqIntS_go (x0 : List Int) (hl : x0.length ≤ 100000000) : ∀ (d i : Nat),i + d = x0.length → Ev (fun k=>laws_eqIntS.l0 k x0 x0 (i : Int)) true
  | 0,i,hi=>(Ev.now _).to fun k=>by simp only [laws_eqIntS.l0];rw [if_neg (by omega)]
  | d + 1,i,hi=>by
    refine (eqIntS_go x0 hl d (i + 1) (by omega)).to fun k=>?_
    simp only [laws_eqIntS.l0,if_true]
    rw [if_pos (by omega),if_pos (by omega),if_pos (by omega),wid (by omega) (by omega)]
    rfl
theorem eqIntS (x0 : List Int) (hl : x0.length ≤ 100000000) : Ev (fun k=>laws_eqIntS.f k x0 x0) true:=by
  unfold laws_eqIntS.f
  exact Ev.ifp rfl (eqIntS_go x0 hl x0.length 0 (by omega))

def mkI : Int → List Int → List Int
  | _,[]=>[]
  | m,_ :: l=>m :: mkI (m + 1) l
theorem mkI_len : ∀ (l : List Int) (m : Int),(mkI m l).length = l.length
  | [],_=>rfl
  | _ :: l,m=>by simp only [mkI,List.length_cons,mkI_len l]
theorem markIntS_go : ∀ (d i : Nat) (x0 : List Int) (m : Int),i + d = x0.length → x0.length ≤ 100000000 → 0 ≤ m → m + d ≤ 10000000000 → Ev (fun k=>laws_markIntS.l0 k x0 m (i : Int)) (m + d,x0.take i ++ mkI m (x0.drop i))
  | 0,i,x0,m,hi,hl,h0,h1=>by
    rw [List.drop_of_length_le (by omega),List.take_of_length_le (by omega)]
    refine Ev.ofEq ((Ev.now (m,x0)).to fun k=>?_) (by simp [mkI])
    simp only [laws_markIntS.l0];rw [if_neg (by omega)]
  | d + 1,i,x0,m,hi,hl,h0,h1=>by
    have hlt : i < x0.length:=by omega
    have ih:=markIntS_go d (i + 1) (x0.set i m) (m + 1) (by rw [List.length_set];omega) (by rw [List.length_set];omega) (by omega) (by omega)
    rw [set_take _ _ hlt,take_set_drop _ _ hlt,List.append_assoc] at ih
    rw [List.drop_eq_getElem_cons hlt,mkI]
    have e : ((m + 1) + (d : Int),x0.take i ++ ([m] ++ mkI (m + 1) (x0.drop (i + 1)))) = (m + ((d + 1 : Nat) : Int),x0.take i ++ m :: mkI (m + 1) (x0.drop (i + 1))):=by
      rw [List.singleton_append];congr 1;omega
    rw [e] at ih
    refine ih.to fun k=>?_
    have w1 : wrap64 (m + 1) = m + 1:=wid (by omega) (by omega)
    have w2 : wrap64 ((i : Int) + 1) = ((i + 1 : Nat) : Int):=by rw [wid (by omega) (by omega)];rfl
    simp only [laws_markIntS.l0,w1,w2,Int.toNat_natCast,if_pos (show (0 : Int) ≤ (i : Int) by omega),if_pos (show (i : Int) < x0.length by omega)]
theorem markIntS (x0 : List Int) (m : Int) (hl : x0.length ≤ 100000000) (h0 : 0 ≤ m) (h1 : m ≤ 1000000000) : Ev (fun k=>laws_markIntS.f k x0 m) (m + x0.length,mkI m x0):=by
  unfold laws_markIntS.f
  have:=markIntS_go x0.length 0 x0 m (by omega) hl h0 (by omega)
  simpa using this

theorem heldIntS_go (z : List Int) (hl : z.length ≤ 100000000) : ∀ (d i : Nat) (l : List Int) (m : Int),l.length = d → i + d = z.length → z.drop i = mkI m l → 0 ≤ m → m + d ≤ 10000000000 → Ev (fun k=>laws_heldIntS.l0 k z m (i : Int)) (m + d)
  | 0,i,l,m,hd,hi,hz,h0,h1=>by
    refine Ev.ofEq ((Ev.now m).to fun k=>?_) (by omega)
    simp only [laws_heldIntS.l0];rw [if_neg (by omega)]
  | d + 1,i,[],m,hd,hi,hz,h0,h1=>by simp at hd
  | d + 1,i,x :: l,m,hd,hi,hz,h0,h1=>by
    have hlt : i < z.length:=by omega
    rw [List.drop_eq_getElem_cons hlt,mkI,List.cons.injEq] at hz
    have ih:=heldIntS_go z hl d (i + 1) l (m + 1) (by simpa using hd) (by omega) hz.2 (by omega) (by omega)
    refine Ev.ofEq (r:=m + 1 + d) ?_ (by omega)
    refine ih.to fun k=>?_
    have w1 : wrap64 (m + 1) = m + 1:=wid (by omega) (by omega)
    have w2 : wrap64 ((i : Int) + 1) = ((i + 1 : Nat) : Int):=by rw [wid (by omega) (by omega)];rfl
    simp only [laws_heldIntS.l0,w1,w2]
    clear w1 w2
    rw [if_pos (by omega),if_pos (by omega),rd_at hlt,if_pos hz.1]
theorem heldIntS (l : List Int) (m : Int) (hl : l.length ≤ 100000000) (h0 : 0 ≤ m) (h1 : m ≤ 1000000000) : Ev (fun k=>laws_heldIntS.f k (mkI m l) m) (m + l.length):=by
  unfold laws_heldIntS.f
  exact heldIntS_go (mkI m l) (by rw [mkI_len];exact hl) l.length 0 l m rfl (by rw [mkI_len];omega) (by simp) h0 (by omega)

/-! Right devices -/
def putOk (n : Nat) (p : S143) : Bool:=decide (0 ≤ p.f0 ∧ p.f0 < (n : Int) ∧ p.f1.size ≤ 64)
def devOk (s : List ByteArray) (p : List S143) : Bool:=decide (1 ≤ s.length ∧ s.length ≤ 400 ∧ p.length ≤ 400) && ((s.all fun x=>decide (x.size ≤ 64)) && (p.all fun x=>putOk s.length x))
def inL (l : List Int) (x : Int) : Bool:=decide (x ∈ l)
theorem inL_cons (y : Int) (l : List Int) (x : Int) : inL (y :: l) x = if y = x then true else inL l x:=by
  unfold inL
  by_cases h : y = x
  · rw [if_pos h];simp [h]
  · rw [if_neg h,decide_eq_decide];simp [show ¬ x = y from fun e=>h e.symm]

def freeF (u : List Int) : Nat → Nat → List Int → List Int
  | 0,_,acc=>acc
  | d + 1,i,acc=>freeF u d (i + 1) (if inL u (i : Int) = true then acc else acc ++ [(i : Int)])
theorem freeF_len (u : List Int) : ∀ (d i : Nat) (acc : List Int),(freeF u d i acc).length ≤ acc.length + d
  | 0,i,acc=>by simp [freeF]
  | d + 1,i,acc=>by
    have:=freeF_len u d (i + 1) (if inL u (i : Int) = true then acc else acc ++ [(i : Int)])
    rw [freeF]
    by_cases h : inL u (i : Int) = true
    · simp only [if_pos h] at this ⊢;omega
    · simp only [if_neg h,List.length_append,List.length_singleton] at this ⊢;omega
def freeOf (s : List ByteArray) (p : List S143) (u : List Int) : List Int:=if devOk s p = true then freeF u (s.length - 2) 2 [] else []
theorem freeOf_len (s : List ByteArray) (p : List S143) (u : List Int) (h : s.length ≤ 1048576) : (freeOf s p u).length ≤ 1048576:=by
  unfold freeOf
  by_cases hd : devOk s p = true
  · rw [if_pos hd]
    have:=freeF_len u (s.length - 2) 2 []
    simp only [List.length_nil] at this
    omega
  · rw [if_neg hd];simp

theorem s_in (a b c : Int) : spec_l01In.f a b c = some (decide (b ≤ a ∧ a ≤ c)):=by
  unfold spec_l01In.f
  by_cases h : a ≥ b
  · rw [if_pos h];simp [show b ≤ a from h]
  · rw [if_neg h];simp [show ¬ b ≤ a from h]
theorem s_in_t {a b c : Int} (h : b ≤ a ∧ a ≤ c) : spec_l01In.f a b c = some true:=by rw [s_in,decide_eq_true h]
theorem s_in_f {a b c : Int} (h : ¬ (b ≤ a ∧ a ≤ c)) : spec_l01In.f a b c = some false:=by rw [s_in,decide_eq_false h]

theorem s_l03Put (s : List ByteArray) (p : List S143) (x : S143) (hs : s.length ≤ 400) : spec_l03Put.f s p x.f0 x.f1 = some (putOk s.length x):=by
  unfold spec_l03Put.f putOk
  rw [wid (by omega) (by omega),s_in]
  simp only [Option.bind_some]
  by_cases h : 0 ≤ x.f0 ∧ x.f0 ≤ (s.length : Int) - 1
  · rw [if_pos (decide_eq_true h)];congr 1;rw [decide_eq_decide];omega
  · rw [if_neg (by simpa using h)];congr 1;symm;rw [decide_eq_false_iff_not];omega
theorem sDO_l1 (s : List ByteArray) (p : List S143) (hs : s.length ≤ 400) (hp : p.length ≤ 1048576) : ∀ (d i : Nat),i + d = p.length → Ev (fun k=>spec_DeviceOk.l1 k (i : Int) s p) ((p.drop i).all fun x=>putOk s.length x)
  | 0,i,hi=>by
    rw [List.drop_of_length_le (by omega)]
    exact (Ev.now _).to fun k=>by simp only [spec_DeviceOk.l1];rw [if_neg (by omega)];rfl
  | d + 1,i,hi=>by
    have hlt : i < p.length:=by omega
    have ih:=sDO_l1 s p hs hp d (i + 1) (by omega)
    rw [List.drop_eq_getElem_cons hlt,List.all_cons]
    cases hb : putOk s.length p[i] with
    | false =>
      rw [Bool.false_and]
      refine (Ev.now _).to fun k=>?_
      simp only [spec_DeviceOk.l1]
      rw [if_pos (by omega),if_pos (by omega),ri_Put hlt,s_l03Put _ _ _ hs,hb]
      rfl
    | true =>
      rw [Bool.true_and]
      refine ih.to fun k=>?_
      simp only [spec_DeviceOk.l1]
      rw [if_pos (by omega),if_pos (by omega),ri_Put hlt,s_l03Put _ _ _ hs,hb,wid (by omega) (by omega)]
      rfl
theorem sDO_l0 (s : List ByteArray) (p : List S143) (hs : s.length ≤ 400) (hp : p.length ≤ 1048576) : ∀ (d i : Nat),i + d = s.length → Ev (fun k=>spec_DeviceOk.l0 k (i : Int) s p) (((s.drop i).all fun x=>decide (x.size ≤ 64)) && (p.all fun x=>putOk s.length x))
  | 0,i,hi=>by
    rw [List.drop_of_length_le (by omega)]
    refine Ev.to (sDO_l1 s p hs hp p.length 0 (by omega)) fun k=>?_
    simp only [spec_DeviceOk.l0];rw [if_neg (by omega)];rfl
  | d + 1,i,hi=>by
    have hlt : i < s.length:=by omega
    have ih:=sDO_l0 s p hs hp d (i + 1) (by omega)
    rw [List.drop_eq_getElem_cons hlt,List.all_cons]
    by_cases hb : s[i].size ≤ 64
    · rw [decide_eq_true hb,Bool.true_and]
      refine ih.to fun k=>?_
      simp only [spec_DeviceOk.l0]
      rw [if_pos (by omega),if_pos (by omega),rdOf_at _ hlt,if_neg (by omega),wid (by omega) (by omega)]
      rfl
    · rw [decide_eq_false hb,Bool.false_and,Bool.false_and]
      refine (Ev.now _).to fun k=>?_
      simp only [spec_DeviceOk.l0]
      rw [if_pos (by omega),if_pos (by omega),rdOf_at _ hlt,if_pos (by omega)]
theorem sDeviceOk (s : List ByteArray) (p : List S143) (hs : s.length ≤ 1048576) (hp : p.length ≤ 1048576) : Ev (fun k=>spec_DeviceOk.f k s p) (devOk s p):=by
  unfold spec_DeviceOk.f devOk
  by_cases h : 1 ≤ (s.length : Int) ∧ (s.length : Int) ≤ 400
  · rw [s_in_t h]
    simp only [Option.bind_some,if_true]
    by_cases h2 : p.length ≤ 400
    · rw [decide_eq_false (show ¬ (p.length : Int) > 400 by omega),decide_eq_true (show 1 ≤ s.length ∧ s.length ≤ 400 ∧ p.length ≤ 400 by omega),Bool.true_and]
      exact (sDO_l0 s p (by omega) hp s.length 0 (by omega)).to fun k=>by simp only [spec_DeviceOk.j0];rw [if_neg (by decide)];rfl
    · rw [decide_eq_true (show (p.length : Int) > 400 by omega),decide_eq_false (show ¬ (1 ≤ s.length ∧ s.length ≤ 400 ∧ p.length ≤ 400) by omega),Bool.false_and]
      exact (Ev.now _).to fun k=>by simp only [spec_DeviceOk.j0,if_true]
  · rw [s_in_f h,decide_eq_false (show ¬ (1 ≤ s.length ∧ s.length ≤ 400 ∧ p.length ≤ 400) by omega),Bool.false_and]
    simp only [Option.bind_some,Bool.false_eq_true,if_false]
    exact (Ev.now _).to fun k=>by simp only [spec_DeviceOk.j0,if_true]

theorem sl03In_go (l : List Int) (x : Int) (hl : l.length ≤ 100000000) : ∀ (d i : Nat),i + d = l.length → Ev (fun k=>spec_l03In.l0 k l x (i : Int)) (inL (l.drop i) x)
  | 0,i,hi=>by
    rw [List.drop_of_length_le (by omega)]
    exact (Ev.now _).to fun k=>by simp only [spec_l03In.l0];rw [if_neg (by omega)];rfl
  | d + 1,i,hi=>by
    have hlt : i < l.length:=by omega
    have w2 : qn (wrap64 ((i : Int) + 1) = ((i + 1 : Nat) : Int)):=⟨by rw [wid (by omega) (by omega)];rfl⟩
    rw [List.drop_eq_getElem_cons hlt,inL_cons]
    by_cases h : l[i] = x
    · rw [if_pos h]
      refine (Ev.now _).to fun k=>?_
      simp only [spec_l03In.l0]
      rw [if_pos (by omega),if_pos (by omega),rd_at hlt,if_pos h]
    · rw [if_neg h]
      refine (sl03In_go l x hl d (i + 1) (by omega)).to fun k=>?_
      simp only [spec_l03In.l0]
      rw [if_pos (by omega),if_pos (by omega),rd_at hlt,if_neg h,w2.out]
theorem sl03In (l : List Int) (x : Int) (hl : l.length ≤ 100000000) : Ev (fun k=>spec_l03In.f k l x) (inL l x):=by
  unfold spec_l03In.f
  exact sl03In_go l x hl l.length 0 (by omega)

theorem sFree_go (s : List ByteArray) (p : List S143) (u : List Int) (hs : s.length ≤ 1048576) (hp : p.length ≤ 1048576) (hu : u.length ≤ 1048576) (hd : devOk s p = true) : ∀ (d i : Nat) (acc : List Int),d = s.length - i → acc.length ≤ i → Ev (fun k=>spec_FreeOf.l0 k u acc (i : Int) s p) (freeF u d i acc)
  | 0,i,acc,hi,ha=>by
    refine Ev.to (f:=fun k=>spec_FreeOf.j1 k u acc (i : Int) false s p) ((Ev.now acc).to fun k=>by simp only [spec_FreeOf.j1,Bool.false_eq_true,if_false]) fun k=>?_
    simp only [spec_FreeOf.l0]
    rw [if_neg (by omega)]
  | d + 1,i,acc,hi,ha=>by
    have w2 : wrap64 ((i : Int) + 1) = ((i + 1 : Nat) : Int):=by rw [wid (by omega) (by omega)];rfl
    refine Ev.to (f:=fun k=>(spec_DeviceOk.f k s p).bind fun t=>spec_FreeOf.j1 k u acc (i : Int) t s p) ((sDeviceOk s p hs hp).bind ?_) fun k=>by simp only [spec_FreeOf.l0];rw [if_pos (by omega)]
    rw [hd,freeF]
    refine Ev.to (f:=fun k=>(spec_l03In.f k u (i : Int)).bind fun t=>if t = true then spec_FreeOf.l0 k u acc ((i + 1 : Nat) : Int) s p else if acc.length < 17592186044416 then spec_FreeOf.l0 k u (acc ++ [(i : Int)]) ((i + 1 : Nat) : Int) s p else none) ((sl03In u (i : Int) (by omega)).bind ?_) fun k=>by simp only [spec_FreeOf.j1,w2,if_true]
    by_cases h : inL u (i : Int) = true
    · rw [if_pos h]
      exact Ev.ifp h (sFree_go s p u hs hp hu hd d (i + 1) acc (by omega) (by omega))
    · rw [if_neg h]
      exact Ev.ifn h (Ev.ifp (by omega) (sFree_go s p u hs hp hu hd d (i + 1) _ (by omega) (by simp;omega)))
theorem sFreeOf (s : List ByteArray) (p : List S143) (u : List Int) (hs : s.length ≤ 1048576) (hp : p.length ≤ 1048576) (hu : u.length ≤ 1048576) : Ev (fun k=>spec_FreeOf.f k s p u) (freeOf s p u):=by
  unfold spec_FreeOf.f freeOf
  by_cases hd : devOk s p = true
  · rw [if_pos hd]
    exact sFree_go s p u hs hp hu hd (s.length - 2) 2 [] rfl (by simp)
  · rw [if_neg hd]
    by_cases h2 : 2 < s.length
    · refine Ev.to (f:=fun k=>(spec_DeviceOk.f k s p).bind fun t=>spec_FreeOf.j1 k u [] 2 t s p) ((sDeviceOk s p hs hp).bind ?_) fun k=>by simp only [spec_FreeOf.l0];rw [if_pos (by omega)]
      rw [Bool.eq_false_iff.2 hd]
      exact (Ev.now _).to fun k=>by simp only [spec_FreeOf.j1,Bool.false_eq_true,if_false]
    · refine Ev.to (f:=fun k=>spec_FreeOf.j1 k u [] 2 false s p) ((Ev.now _).to fun k=>by simp only [spec_FreeOf.j1,Bool.false_eq_true,if_false]) fun k=>?_
      simp only [spec_FreeOf.l0]
      rw [if_neg (by omega)]

theorem i_in (a b c : Int) : impl_in.f a b c = some (decide (b ≤ a ∧ a ≤ c)):=by
  unfold impl_in.f
  by_cases h : a ≥ b
  · rw [if_pos h];simp [show b ≤ a from h]
  · rw [if_neg h];simp [show ¬ b ≤ a from h]
theorem i_in_t {a b c : Int} (h : b ≤ a ∧ a ≤ c) : impl_in.f a b c = some true:=by rw [i_in,decide_eq_true h]
theorem i_in_f {a b c : Int} (h : ¬ (b ≤ a ∧ a ≤ c)) : impl_in.f a b c = some false:=by rw [i_in,decide_eq_false h]

theorem iDO_l1 (s : List ByteArray) (p : List S143) (hs : s.length ≤ 400) (hp : p.length ≤ 1048576) : ∀ (d i : Nat),i + d = p.length → Ev (fun k=>impl_DeviceOk.l1 k p (p.length : Int) (i : Int) s p) ((p.drop i).all fun x=>putOk s.length x)
  | 0,i,hi=>by
    rw [List.drop_of_length_le (by omega)]
    exact (Ev.now _).to fun k=>by simp only [impl_DeviceOk.l1];rw [if_neg (by omega)];rfl
  | d + 1,i,hi=>by
    have hlt : i < p.length:=by omega
    have ih:=iDO_l1 s p hs hp d (i + 1) (by omega)
    rw [List.drop_eq_getElem_cons hlt,List.all_cons]
    have w : qn (wrap64 ((s.length : Int) - 1) = (s.length : Int) - 1):=⟨wid (by omega) (by omega)⟩
    cases hb : putOk s.length p[i] with
    | false =>
      rw [Bool.false_and]
      refine (Ev.now _).to fun k=>?_
      simp only [impl_DeviceOk.l1]
      rw [if_pos (by omega),if_pos (by omega),if_pos (by omega),ri_Put hlt,w.out,i_in]
      simp only [Option.bind_some]
      unfold putOk at hb
      rw [decide_eq_false_iff_not] at hb
      by_cases h : 0 ≤ p[i].f0 ∧ p[i].f0 ≤ (s.length : Int) - 1
      · rw [if_pos (decide_eq_true h),if_pos (by omega)]
      · rw [if_neg (by simpa using h)]
    | true =>
      rw [Bool.true_and]
      refine ih.to fun k=>?_
      simp only [impl_DeviceOk.l1]
      rw [if_pos (by omega),if_pos (by omega),if_pos (by omega),ri_Put hlt,w.out,i_in]
      simp only [Option.bind_some]
      unfold putOk at hb
      rw [decide_eq_true_eq] at hb
      rw [if_pos (decide_eq_true ⟨hb.1,by omega⟩),if_neg (by omega),wid (by omega) (by omega)]
      rfl
theorem iDO_l0 (s : List ByteArray) (p : List S143) (hs : s.length ≤ 400) (hp : p.length ≤ 1048576) : ∀ (d i : Nat),i + d = s.length → Ev (fun k=>impl_DeviceOk.l0 k s (s.length : Int) (i : Int) s p) (((s.drop i).all fun x=>decide (x.size ≤ 64)) && (p.all fun x=>putOk s.length x))
  | 0,i,hi=>by
    rw [List.drop_of_length_le (by omega)]
    refine Ev.to (iDO_l1 s p hs hp p.length 0 (by omega)) fun k=>?_
    simp only [impl_DeviceOk.l0];rw [if_neg (by omega)];rfl
  | d + 1,i,hi=>by
    have hlt : i < s.length:=by omega
    have ih:=iDO_l0 s p hs hp d (i + 1) (by omega)
    rw [List.drop_eq_getElem_cons hlt,List.all_cons]
    by_cases hb : s[i].size ≤ 64
    · rw [decide_eq_true hb,Bool.true_and]
      refine ih.to fun k=>?_
      simp only [impl_DeviceOk.l0]
      rw [if_pos (by omega),if_pos (by omega),if_pos (by omega),rdOf_at _ hlt,if_neg (by omega),wid (by omega) (by omega)]
      rfl
    · rw [decide_eq_false hb,Bool.false_and,Bool.false_and]
      refine (Ev.now _).to fun k=>?_
      simp only [impl_DeviceOk.l0]
      rw [if_pos (by omega),if_pos (by omega),if_pos (by omega),rdOf_at _ hlt,if_pos (by omega)]
theorem iDeviceOk (s : List ByteArray) (p : List S143) (hs : s.length ≤ 1048576) (hp : p.length ≤ 1048576) : Ev (fun k=>impl_DeviceOk.f k s p) (devOk s p):=by
  unfold impl_DeviceOk.f devOk
  by_cases h : 1 ≤ (s.length : Int) ∧ (s.length : Int) ≤ 400
  · rw [i_in_t h]
    simp only [Option.bind_some,if_true]
    by_cases h2 : p.length ≤ 400
    · rw [decide_eq_false (show ¬ (p.length : Int) > 400 by omega),decide_eq_true (show 1 ≤ s.length ∧ s.length ≤ 400 ∧ p.length ≤ 400 by omega),Bool.true_and]
      exact (iDO_l0 s p (by omega) hp s.length 0 (by omega)).to fun k=>by simp only [impl_DeviceOk.j0];rw [if_neg (by decide)];rfl
    · rw [decide_eq_true (show (p.length : Int) > 400 by omega),decide_eq_false (show ¬ (1 ≤ s.length ∧ s.length ≤ 400 ∧ p.length ≤ 400) by omega),Bool.false_and]
      exact (Ev.now _).to fun k=>by simp only [impl_DeviceOk.j0,if_true]
  · rw [i_in_f h,decide_eq_false (show ¬ (1 ≤ s.length ∧ s.length ≤ 400 ∧ p.length ≤ 400) by omega),Bool.false_and]
    simp only [Option.bind_some,Bool.false_eq_true,if_false]
    exact (Ev.now _).to fun k=>by simp only [impl_DeviceOk.j0,if_true]

theorem ihasInt_go (l : List Int) (x : Int) (hl : l.length ≤ 100000000) : ∀ (d i : Nat),i + d = l.length → Ev (fun k=>impl_hasInt.l0 k x l (l.length : Int) (i : Int)) (inL (l.drop i) x)
  | 0,i,hi=>by
    rw [List.drop_of_length_le (by omega)]
    exact (Ev.now _).to fun k=>by simp only [impl_hasInt.l0];rw [if_neg (by omega)];rfl
  | d + 1,i,hi=>by
    have hlt : i < l.length:=by omega
    have w2 : qn (wrap64 ((i : Int) + 1) = ((i + 1 : Nat) : Int)):=⟨by rw [wid (by omega) (by omega)];rfl⟩
    rw [List.drop_eq_getElem_cons hlt,inL_cons]
    by_cases h : l[i] = x
    · rw [if_pos h]
      refine (Ev.now _).to fun k=>?_
      simp only [impl_hasInt.l0]
      rw [if_pos (by omega),if_pos (by omega),if_pos (by omega),rd_at hlt,if_pos h]
    · rw [if_neg h]
      refine (ihasInt_go l x hl d (i + 1) (by omega)).to fun k=>?_
      simp only [impl_hasInt.l0]
      rw [if_pos (by omega),if_pos (by omega),if_pos (by omega),rd_at hlt,if_neg h,w2.out]
theorem ihasInt (l : List Int) (x : Int) (hl : l.length ≤ 100000000) : Ev (fun k=>impl_hasInt.f k l x) (inL l x):=by
  unfold impl_hasInt.f
  exact ihasInt_go l x hl l.length 0 (by omega)

theorem iFree_go (s : List ByteArray) (p : List S143) (u : List Int) (hs : s.length ≤ 1048576) (hu : u.length ≤ 1048576) : ∀ (d i : Nat) (acc : List Int),d = s.length - i → acc.length ≤ i → Ev (fun k=>impl_FreeOf.l0 k u acc (i : Int) s p) (freeF u d i acc)
  | 0,i,acc,hi,ha=>by
    refine (Ev.now acc).to fun k=>?_
    simp only [impl_FreeOf.l0]
    rw [if_neg (by omega)]
  | d + 1,i,acc,hi,ha=>by
    have w2 : wrap64 ((i : Int) + 1) = ((i + 1 : Nat) : Int):=by rw [wid (by omega) (by omega)];rfl
    rw [freeF]
    refine Ev.to (f:=fun k=>(impl_hasInt.f k u (i : Int)).bind fun t=>if t = true then impl_FreeOf.l0 k u acc ((i + 1 : Nat) : Int) s p else if acc.length < 17592186044416 then impl_FreeOf.l0 k u (acc ++ [(i : Int)]) ((i + 1 : Nat) : Int) s p else none) ((ihasInt u (i : Int) (by omega)).bind ?_) fun k=>by simp only [impl_FreeOf.l0,w2];clear w2;rw [if_pos (by omega)]
    by_cases h : inL u (i : Int) = true
    · rw [if_pos h]
      exact Ev.ifp h (iFree_go s p u hs hu d (i + 1) acc (by omega) (by omega))
    · rw [if_neg h]
      exact Ev.ifn h (Ev.ifp (by omega) (iFree_go s p u hs hu d (i + 1) _ (by omega) (by simp;omega)))
theorem iFreeOf (s : List ByteArray) (p : List S143) (u : List Int) (hs : s.length ≤ 1048576) (hp : p.length ≤ 1048576) (hu : u.length ≤ 1048576) : Ev (fun k=>impl_FreeOf.f k s p u) (freeOf s p u):=by
  unfold impl_FreeOf.f freeOf
  refine (iDeviceOk s p hs hp).bind ?_
  by_cases hd : devOk s p = true
  · rw [if_pos hd]
    exact Ev.ifp hd (iFree_go s p u hs hu (s.length - 2) 2 [] rfl (by simp))
  · rw [if_neg hd]
    exact Ev.ifn hd (Ev.now _)

theorem FnExactFreeOf : laws_FnExactFreeOf.Pure:=by
  intro s0 p0 u hs hp hu
  refine Ev.rounds (g:=fun k=>laws_FnExactFreeOf.f k s0 p0 u) ?_
  unfold laws_FnExactFreeOf.f
  by_cases hb : (u.length : Int) > 1048576
  · exact Ev.ifp hb (Ev.now _)
  refine Ev.ifn hb ?_
  have hul : u.length ≤ 1048576:=by omega
  obtain ⟨r,hr,hc⟩:=szDevice s0 p0 hs.1 hs.2 hp.1 (fun x hx=>(hp.2 x hx).2) 1048576 (by decide) (by decide)
  refine hr.bind ?_
  by_cases h : r < 0
  · exact Ev.ifp h (Ev.now _)
  refine Ev.ifn h ?_
  obtain ⟨_,h1,_,h2,_⟩:=hc.resolve_left h
  have hm : (p0.map cvPut).length ≤ 1048576:=by rw [List.length_map];exact h2
  have hto:=toDevice s0 p0 h1 h2
  have htu:=toIntS u hul
  have hS:=sFreeOf s0 (p0.map cvPut) u h1 hm hul
  have hI:=iFreeOf s0 (p0.map cvPut) u h1 hm hul
  have hl:=freeOf_len s0 (p0.map cvPut) u h1
  have hE0:=eqDevice s0 (p0.map cvPut) (by omega) (by omega)
  have hM0:=mark0 s0 (p0.map cvPut) h1 hm
  have hEu:=eqIntS u (by omega)
  generalize freeOf s0 (p0.map cvPut) u = z at *
  have hE:=eqIntS z (by omega)
  have hMu:=markIntS u (1 + s0.length + 2 * (p0.map cvPut).length) (by omega) (by omega) (by omega)
  have hMz:=markIntS z 1 (by omega) (by omega) (by omega)
  have hHz:=heldIntS z 1 (by omega) (by omega) (by omega)
  refine hto.bind (htu.bind (hS.bind (hto.bind (htu.bind (hI.bind (hE.bind (Ev.ifp rfl (hto.bind (hE0.bind (Ev.ifp rfl (htu.bind (hEu.bind (Ev.ifp rfl (hM0.bind (hMu.bind (Ev.ifn ?_ (hE.bind ?_)))))))))))))))))
  · simp only;omega
  generalize hP0 : p0.map cvPut = q0 at *
  refine Ev.to (f:=fun k=>(laws_markIntS.f k z 1).bind fun bt241=>(laws_heldIntS.f k bt241.2 1).bind fun t243=>if t243 < 0 then some false else if t243 = bt241.1 then (laws_toDevice.f k s0 p0).bind fun bt244=>(laws_toIntS.f k u).bind fun t250=>(impl_FreeOf.f k bt244.1 bt244.2 t250).bind fun t253=>(laws_eqIntS.f k t253 z).bind fun t256=>if t256 = true then (laws_heldIntS.f k bt241.2 1).bind fun t257=>if t257 < 0 then some false else if t257 = bt241.1 then some true else some false else some false else some false) (r:=true) ?_ fun k=>by simp only [laws_FnExactFreeOf.j0];rw [if_neg (by decide)]
  exact hMz.bind (hHz.bind (Ev.ifn (by omega) (Ev.ifp rfl (hto.bind (htu.bind (hI.bind (hE.bind (Ev.ifp rfl (hHz.bind (Ev.ifn (by omega) (Ev.ifp rfl (Ev.now _))))))))))))

end Go.Proofs.Ytbonjmnpcklciaa.Pure
