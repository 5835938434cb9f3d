import Derived.Below
import Derived.Deep.Draws
import Derived.Deep.AppendLies
import Derived.Maps.AppendAt
import Derived.OwnWalk
import Derived.Laws.BytesArg
import Derived.Laws.MakeOwn
import Derived.Laws.OwnMore
import Derived.Deep.OwnRows
import Derived.Tactics
import Derived.Lib.ConvBytes
import Derived.Laws.Slices
import Derived.WalkKit
import Derived.KernelRfl
import Derived.RowKit3
import Derived.Deep.LoopGhost
import Derived.Deep.QuietTactic
import Derived.BigQuiet
import Derived.WideLaws
import Derived.Deep.DeepCutAuto
import Derived.Deep.CutBlock
import Derived.Deep.RegionHeld3
import Derived.Laws.Rows
import Derived.Lib.AppendStr
import Derived.ArgAppend
import Derived.Laws.IdiomCopy
import Derived.RowKit
import Derived.OrdersHeld
import Derived.Laws.BitsLemmas
import Derived.Laws.StructEq
set_option linter.all false
section
namespace Go.Proofs.YtnffimpoekjkpaaGreatW.PrintWords
open Go.RowKit
structure qz (p : Prop) : Prop where mk :: (o : p)
theorem qz.out {p : Prop} (h : qz p) : p:=h.o
structure re' (w w' : World) : Prop where mk :: (out : ∃ n,w' = w.drewN n)
theorem cb_ {w w' : World} {a : Addr} {v : Value} (HB : qz (Below w.heap.size w w')) (h : w.cell? a = some v) : w'.cell? a = some v:=(HB.o.cell (World.block_lt_of_cell? w _ h)).trans h
theorem re'.refl (w : World) : re' w w:=⟨⟨0,rfl⟩⟩
theorem re'.step {w w' : World} (h : re' w w') (n : Nat) : re' w (w'.drewN n):=by
  obtain ⟨m,rfl⟩:=h
  exact ⟨⟨m + n,World.drewN_drewN ..⟩⟩
def rd (xs : List Int) (i : Int) : Int:=xs.getD i.toNat 0
theorem qo {w W : World} (h : Below w.heap.size w W) (o : Obj) : Below w.heap.size w (W.alloc o):=h.alloc h.size o
theorem Mi' {B : Nat} {w W : World} (h : Below B w W) : Below B w W.drew:=⟨h.os,h.tape,h.output,h.size,h.block⟩
theorem qd {B : Nat} {w W : World} (h : Below B w W) (n : Nat) : Below B w (W.drewN n):=⟨h.os,h.tape,h.output,h.size,h.block⟩
theorem yo' {B : Nat} {w w1 w2 : World} (h : Below B w w1) (hB : B ≤ w1.heap.size) (k : Below w1.heap.size w1 w2) : Below B w w2 :=
  h.trans ⟨k.os,k.tape,k.output,k.size,fun i hi=>k.block i (Nat.lt_of_lt_of_le hi hB)⟩
theorem vd' {w w1 : World} (h : Below w.heap.size w w1) {a : Addr} {v : Value} (hc : w.cell? a = some v) : w1.cell? a = some v:=(h.cell (World.block_lt_of_cell? w a hc)).trans hc
theorem jj' (g j : Nat) : (⟨g,0,none⟩ : Addr).add j = ⟨g,j,none⟩:=by unfold Addr.add;split <;> simp_all
theorem own_nil (W : World) (base : Nat) (e : TypeId) (size : Nat) : W.ownsRow base e size (.slice none 0 0) 0 []:=⟨by simp,.inl ⟨rfl,rfl⟩⟩
theorem Yh' {w : World} {base : Nat} {e : TypeId} {size n : Nat} {v : Value} {xs : List Value} (h : w.ownsRow base e size v n xs) (k : Nat) (hk : v.ownBlock = some k) : base ≤ k:=by
  rcases h.2 with ⟨rfl,_⟩|⟨g,cap,cur,rfl,hb,_⟩
  · simp [Value.ownBlock] at hk
  · have : g = k:=by simpa [Value.ownBlock] using hk
    omega
theorem To' {w : World} {base : Nat} {e : TypeId} {size n : Nat} {v : Value} {xs : List Value} (h : w.ownsRow base e size v n xs) (k : Nat) (hk : v.ownBlock = some k) : k < w.heap.size:=by
  rcases h.2 with ⟨rfl,_⟩|⟨g,cap,cur,rfl,hb,hh,_⟩
  · simp [Value.ownBlock] at hk
  · have : g = k:=by simpa [Value.ownBlock] using hk
    subst this
    exact (Array.getElem?_eq_some_iff.1 hh).1
theorem Uo' {w : World} {base n : Nat} {e : TypeId} {size : Nat} {v : Value} {xs : List Value} (h : w.ownsRow base e size v n xs) : ∃ A c,v = .slice A n c:=by
  rcases h.2 with ⟨rfl,rfl⟩|⟨g,cap,cur,rfl,_⟩
  · exact ⟨none,0,rfl⟩
  · exact ⟨_,cap,rfl⟩
section
variable {P : Program} {ops : Array Oper} {rest : List Oper} {o : Oper} {a : Act} {Q : Exit → Act → World → Prop}
end
section
variable {P : Program}
end
section
variable {P : Program} {ops : Array Oper} {rest : List Oper} {o : Oper} {a : Act} {Q : Exit → Act → World → Prop}
end
def ef' {α : Type} (R : α → List Value → Prop) (size : Nat) (ps : List α) (cs : List Value) : Prop :=
  cs.length = ps.length * size ∧ ∀ j p,ps[j]? = some p → R p ((cs.drop (j * size)).take size)
theorem ef'.none {α : Type} (R : α → List Value → Prop) (size : Nat) : ef' R size [] []:=⟨by simp,fun j p h=>by simp at h⟩
theorem ef'.snoc {α : Type} {R : α → List Value → Prop} {size : Nat} {ps : List α} {cs c : List Value} {p : α} (h : ef' R size ps cs) (hp : R p c) (hc : c.length = size) : ef' R size (ps ++ [p]) (cs ++ c):=by
  refine ⟨by rw [List.length_append,h.1,hc,List.length_append,List.length_singleton,Nat.add_mul,Nat.one_mul],fun j q hq=>?_⟩
  rcases Nat.lt_or_ge j ps.length with hj|hj
  · rw [List.getElem?_append_left hj] at hq
    have h1 : j * size + size ≤ cs.length:=by rw [h.1,← Nat.succ_mul];exact Nat.mul_le_mul_right _ hj
    have h2:=h.2 j q hq
    rw [List.drop_append_of_le_length (by omega),List.take_append_of_le_length (by rw [List.length_drop];omega)]
    exact h2
  · have hj' : j = ps.length:=by
      have:=(List.getElem?_eq_some_iff.1 hq).1
      rw [List.length_append,List.length_singleton] at this
      omega
    subst hj'
    have hq' : p = q:=by simpa using hq
    subst hq'
    rw [← h.1,List.drop_left,← hc,List.take_length]
    exact hp
theorem ef'.imp_ {α : Type} {R R' : α → List Value → Prop} {size : Nat} {ps : List α} {cs : List Value} (h : ef' R size ps cs) (hR : ∀ p c,R p c → R' p c) : ef' R' size ps cs:=⟨h.1,fun j p hj=>hR _ _ (h.2 j p hj)⟩
def Ke' {α : Type} (R : α → List Value → Prop) (size : Nat) (w : World) (A : Option Addr) (n : Nat) (ps : List α) : Prop :=
  ps.length = n ∧ n ≤ 9223372036854775807 ∧ (0 < n → ∃ ad,A = some ad ∧ ∀ j p,ps[j]? = some p → ∃ c,c.length = size ∧ R p c ∧ ∀ i u,c[i]? = some u → w.cell? (ad.add (j * size + i)) = some u)
theorem Ke'.get_ {α : Type} {R : α → List Value → Prop} {size : Nat} {w : World} {A : Option Addr} {n : Nat} {ps : List α} (h : Ke' R size w A n ps) (d : α) (i : Int) (h0 : 0 ≤ i) (h1 : i < n) :
    ∃ ad c,A = some ad ∧ c.length = size ∧ R (ps.getD i.toNat d) c ∧ ∀ j u,c[j]? = some u → w.cell? (ad.add (i.toNat * size + j)) = some u:=by
  obtain ⟨ad,e,hc⟩:=h.2.2 (by omega)
  have hl : i.toNat < ps.length:=by have:=h.1;omega
  obtain ⟨c,hs,hr,hcell⟩:=hc i.toNat _ (List.getElem?_eq_getElem hl)
  refine ⟨ad,c,e,hs,?_,hcell⟩
  rw [List.getD_eq_getElem?_getD,List.getElem?_eq_getElem hl]
  exact hr
theorem Ke'.imp_ {α : Type} {R R' : α → List Value → Prop} {size : Nat} {w w1 : World} {A : Option Addr} {n : Nat} {ps : List α} (h : Ke' R size w A n ps) (hb : Below w.heap.size w w1) (hR : ∀ p c,R p c → R' p c) : Ke' R' size w1 A n ps :=
  ⟨h.1,h.2.1,fun hn=>by
    obtain ⟨ad,e,hc⟩:=h.2.2 hn
    refine ⟨ad,e,fun j p hj=>?_⟩
    obtain ⟨c,hs,hr,hcell⟩:=hc j p hj
    exact ⟨c,hs,hR _ _ hr,fun i u hu=>vd' hb (hcell i u hu)⟩⟩
theorem em' {α : Type} {R : α → List Value → Prop} {w : World} {base n size : Nat} {e : TypeId} {v : Value} {ps : List α} {cs : List Value} (h : w.ownsRow base e size v n cs) (hR : ef' R size ps cs) (hn : ps.length = n) :
    ∃ A c,v = .slice A n c ∧ Ke' R size w A n ps:=by
  rcases Nat.eq_zero_or_pos n with h0|h0
  · rcases h.2 with ⟨rfl,rfl⟩|⟨g,cap,cur,rfl,_⟩
    · exact ⟨none,0,rfl,hn,by omega,fun hp=>absurd hp (by omega)⟩
    · exact ⟨_,cap,rfl,hn,by omega,fun hp=>absurd hp (by omega)⟩
  · obtain ⟨g,cap,rfl,_,_⟩:=h.form h0
    have hm : n ≤ 9223372036854775807:=by
      rcases h.2 with ⟨_,h1⟩|⟨g',cap',cur,he,_,_,h1,h2,_⟩
      · omega
      · simp only [maxLen] at h2
        omega
    refine ⟨_,cap,rfl,hn,hm,fun _=>⟨_,rfl,fun j p hj=>⟨(cs.drop (j * size)).take size,?_,hR.2 j p hj,fun i u hu=>?_⟩⟩⟩
    · have hjl:=(List.getElem?_eq_some_iff.1 hj).1
      have h1 : j * size + size ≤ cs.length:=by rw [hR.1,← Nat.succ_mul];exact Nat.mul_le_mul_right _ hjl
      rw [List.length_take,List.length_drop]
      omega
    · refine h.cells (g:=g) rfl _ u ?_
      rw [List.getElem?_take] at hu
      split at hu
      · rw [List.getElem?_drop] at hu
        exact hu
      · cases hu
theorem Ng' (ad : Addr) (m j : Nat) (hj : 0 < j) : ad.add (m + j) = ⟨(ad.add m).block,(ad.add m).off + j,none⟩:=by
  unfold Addr.add
  by_cases hm : m = 0
  · subst hm
    simp [Nat.ne_of_gt hj]
  · simp [hm,Nat.add_assoc]
section
variable {P : Program} {ops : Array Oper} {rest : List Oper} {o : Oper} {a : Act} {Q : Exit → Act → World → Prop}
theorem kj' {w0 W : World} (base : Nat) (hgd : o.guard = none) (s x : Operand) (t e : TypeId) (z : Value) (size bytes : Nat)
    (ho : o.op = .call { callee:=.builtin .append,args:=#[s,x],argTypes:=#[t,t] })
    (ht : P.underlying t = some (.slice e)) (hinfo : (P.info? e).map (fun i=>(i.zero,i.size,i.bytes)) = some (some z,size,bytes)) (hz : z.cells.size = size) (hs0 : 0 < size) (hb0 : 0 < bytes)
    (v : Value) (n : Nat) (xs ys : List Value) (hs : a.eval s = v) (hx : a.eval x = .slice (some ⟨W.heap.size,0,none⟩) 1 1) (hys : ys.length = size) (h1 : ∀ u ∈ ys,u.oneCell' = true)
    (HO : W.ownsRow base e size v n xs) (HB : Below base w0 W) (hbase : base ≤ W.heap.size) (hl : (n + 1) * bytes ≤ 140737488355328)
    (h : ∀ v1 w1,w1.ownsRow base e size v1 (n + 1) (xs ++ ys) → Below base w0 w1 → W.grownBy w1 v.ownBlock → (v1.ownBlock = v.ownBlock ∨ ∃ b,v1.ownBlock = some b ∧ W.heap.size ≤ b) → wpList P ops Q rest (a.put o.dst v1) w1) :
    wpList P ops Q (o :: rest) a (W.alloc (.cells ys.toArray e)):=by
  obtain ⟨i0,hi,hzz⟩:=Option.map_eq_some_iff.1 hinfo
  simp only [Prod.mk.injEq] at hzz
  obtain ⟨hz0,hz1,hz2⟩:=hzz
  have hlen : n + 1 ≤ 140737488355328:=Nat.le_trans (Nat.le_mul_of_pos_right _ hb0) hl
  refine wpList_append_own_at (W.alloc (.cells ys.toArray e)) hgd s x t ho base e i0 z size bytes ht hi hz0 hz1 hz2 hz hs0 v n xs hs (HO.alloc _) ⟨W.heap.size,0,none⟩ 1 1 ys hx (by rw [hys];simp)
    (by simpa using World.news_of_block (cs:=ys.toArray) (t:=e) (fr:=(0,0)) (heap_alloc_new W (.cells ys.toArray e))) h1 (by simp only [maxLen];omega) hl (by simp;omega) ?_
  intro v1 w1 hown hg _ hat
  refine h v1 w1 hown ((HB.alloc hbase _).grown hg (by simp;omega) (Yh' HO)) (World.grownBy.trans (World.grownBy_alloc W _ _) hg) ?_
  rcases hat with hat|hat
  · exact .inl hat
  · exact .inr ⟨_,hat,by simp⟩
end
theorem own_ne {w : World} {base : Nat} {e t : TypeId} {size n g : Nat} {v : Value} {xs : List Value} {cs : Array Value} (h : w.ownsRow base e size v n xs) (hg : w.heap[g]? = some (.cells cs t (0,0))) (hne : e ≠ t) : some g ≠ v.ownBlock:=by
  rcases h.2 with ⟨rfl,_⟩|⟨g',cap,cur,rfl,_,hh,_⟩
  · simp [Value.ownBlock]
  · intro he
    have : g = g':=by simpa [Value.ownBlock] using he
    subst this
    rw [hg] at hh
    injection hh with hh
    injection hh with _ ht
    exact hne ht.symm
theorem be' {w : World} {g : Nat} {t : TypeId} {cs : Array Value} (h : w.heap[g]? = some (.cells cs t (0,0))) (i : Nat) (u : Value) : (w.setCell ⟨g,i,none⟩ u).heap[g]? = some (.cells (cs.setIfInBounds i u) t (0,0)):=by
  simp [World.setCell,Array.getElem?_modify,h]
theorem Og' {w : World} {g : Nat} {t : TypeId} {cs : Array Value} (h : w.heap[g]? = some (.cells cs t (0,0))) {p : Addr} (hp : g ≠ p.block) (u : Value) : (w.setCell p u).heap[g]? = some (.cells cs t (0,0)):=(Below.heap_setCell w p u g hp).trans h
theorem ke' {w : World} {g : Nat} {o : Obj} (h : w.heap[g]? = some o) : g < w.heap.size:=(Array.getElem?_eq_some_iff.1 h).1
theorem qq {w : World} {g : Nat} {t : TypeId} {cs : Array Value} (h : w.heap[g]? = some (.cells cs t (0,0))) (i : Nat) : w.cell? ⟨g,i,none⟩ = cs[i]?:=cell_of_row w g i cs t (0,0) h
theorem qu {w : World} {g : Nat} {t : TypeId} {cs : Array Value} (h : w.heap[g]? = some (.cells cs t (0,0))) (i : Nat) : w.frozen? ⟨g,i,none⟩ = false:=by simp [World.frozen?,h]
theorem le' {w w1 : World} {g : Nat} {o : Obj} {row : Option Nat} (h : w.heap[g]? = some o) (hg : w.grownBy w1 row) (hne : some g ≠ row) : w1.heap[g]? = some o:=(hg.block g (ke' h) hne).trans h
theorem sm' {w : World} {g g' : Nat} {t t' : TypeId} {cs cs' : Array Value} (h : w.heap[g]? = some (.cells cs t (0,0))) (h' : w.heap[g']? = some (.cells cs' t' (0,0))) (hne : t ≠ t') : g ≠ g':=by
  rintro rfl
  rw [h] at h'
  injection h' with h'
  injection h' with _ ht
  exact hne ht
def ce' (w w' : World) (g : Nat) (row : Option Nat) : Prop:=w.heap.size ≤ w'.heap.size ∧ ∀ i,i < w.heap.size → i ≠ g → some i ≠ row → w'.heap[i]? = w.heap[i]?
theorem ce'.refl (w : World) (g : Nat) (row : Option Nat) : ce' w w g row:=⟨Nat.le_refl _,fun _ _ _ _=>rfl⟩
theorem ce'.of_below {w w1 : World} (h : Below w.heap.size w w1) (g : Nat) (row : Option Nat) : ce' w w1 g row:=⟨h.size,fun i hi _ _=>h.block i hi⟩
theorem ce'.set_ {w w1 : World} {g : Nat} {row : Option Nat} (h : ce' w w1 g row) (j : Nat) (u : Value) : ce' w (w1.setCell ⟨g,j,none⟩ u) g row :=
  ⟨by simpa [World.setCell] using h.1,fun i hi hg hr=>(Below.heap_setCell w1 ⟨g,j,none⟩ u i hg).trans (h.2 i hi hg hr)⟩
theorem ce'.trans {w w1 w2 : World} {g : Nat} {row row1 : Option Nat} (h : ce' w w1 g row) (k : ce' w1 w2 g row1) (hr : row1 = row ∨ ∃ b,row1 = some b ∧ w.heap.size ≤ b) : ce' w w2 g row :=
  ⟨Nat.le_trans h.1 k.1,fun i hi hg hn=>by
    refine (k.2 i (Nat.lt_of_lt_of_le hi h.1) hg ?_).trans (h.2 i hi hg hn)
    rcases hr with rfl|⟨b,rfl,hb⟩
    · exact hn
    · intro e
      injection e with e
      omega⟩
theorem ce'.blk {w w1 : World} {g g' : Nat} {row : Option Nat} {o : Obj} (h : ce' w w1 g row) (hb : w.heap[g']? = some o) (hg : g' ≠ g) (hr : some g' ≠ row) : w1.heap[g']? = some o:=(h.2 g' (ke' hb) hg hr).trans hb
def Ev {α : Type} (g : Nat → Option α) (r : α) : Prop:=∃ K,∀ k,K ≤ k → g k = some r
theorem Ev.now {α : Type} (r : α) : Ev (fun _=>some r) r:=⟨0,fun _ _=>rfl⟩
theorem Ev.bind {α β : Type} {g : Nat → Option α} {f : Nat → α → Option β} {a : α} {r : β} (h : Ev g a) (k : Ev (fun n=>f n a) r) : Ev (fun n=>(g n).bind (f n)) r:=by
  obtain ⟨K,h⟩:=h
  obtain ⟨K',k⟩:=k
  refine ⟨max K K',fun n hn=>?_⟩
  have h1:=h n (by omega)
  have h2:=k n (by omega)
  simp only [h1,Option.bind_some]
  exact h2
theorem Ev.step {α : Type} {g f : Nat → Option α} {r : α} (h : ∀ k,g (k + 1) = f k) (k : Ev f r) : Ev g r:=by
  obtain ⟨K,k⟩:=k
  refine ⟨K + 1,fun n hn=>?_⟩
  obtain ⟨m,rfl⟩ : ∃ m,n = m + 1:=⟨n - 1,by omega⟩
  rw [h]
  exact k m (by omega)
section
variable {P : Program} {ops : Array Oper} {o : Oper} {a : Act} {Q : Exit → Act → World → Prop} {K : Act → World → Prop}
theorem Uj' {w0 W : World} (base : Nat) (hw : Region.wanted o (yielded ops a.tmps) = true) (s x : Operand) (t e : TypeId) (z : Value) (size bytes : Nat)
    (ho : o.op = .call { callee:=.builtin .append,args:=#[s,x],argTypes:=#[t,t] })
    (ht : P.underlying t = some (.slice e)) (hinfo : (P.info? e).map (fun i=>(i.zero,i.size,i.bytes)) = some (some z,size,bytes)) (hz : z.cells.size = size) (hs0 : 0 < size) (hb0 : 0 < bytes)
    (v : Value) (n : Nat) (xs ys : List Value) (hs : a.eval s = v) (hx : a.eval x = .slice (some ⟨W.heap.size,0,none⟩) 1 1) (hys : ys.length = size) (h1 : ∀ u ∈ ys,u.oneCell' = true)
    (HO : W.ownsRow base e size v n xs) (HB : Below base w0 W) (hbase : base ≤ W.heap.size) (hl : (n + 1) * bytes ≤ 140737488355328)
    (h : ∀ v1 w1,w1.ownsRow base e size v1 (n + 1) (xs ++ ys) → Below base w0 w1 → W.grownBy w1 v.ownBlock → (v1.ownBlock = v.ownBlock ∨ ∃ b,v1.ownBlock = some b ∧ W.heap.size ≤ b) → K (a.put o.dst v1) w1) :
    if Region.wanted o (yielded ops a.tmps) = true then Oper.wp P o a (W.alloc (.cells ys.toArray e)) K Q else K (a.put o.dst undef) (W.alloc (.cells ys.toArray e)):=by
  obtain ⟨i0,hi,hzz⟩:=Option.map_eq_some_iff.1 hinfo
  simp only [Prod.mk.injEq] at hzz
  obtain ⟨hz0,hz1,hz2⟩:=hzz
  have hlen : n + 1 ≤ 140737488355328:=Nat.le_trans (Nat.le_mul_of_pos_right _ hb0) hl
  rw [if_pos hw]
  obtain ⟨v1,w1,hr,hown,hg,_,hat⟩:=run_append_own_at (P:=P) (W.alloc (.cells ys.toArray e)) base t o.type e i0 z size bytes ht hi hz0 hz1 hz2 hz hs0 v n xs (HO.alloc _) ⟨W.heap.size,0,none⟩ 1 1 ys (by rw [hys];simp)
    (by simpa using World.news_of_block (cs:=ys.toArray) (t:=e) (fr:=(0,0)) (heap_alloc_new W (.cells ys.toArray e))) h1 (by simp only [maxLen];omega) hl (by simp;omega)
  unfold Oper.wp execOp
  simp only [ho,resolve,invoke,builtin,Sem.run_bind,Sem.run_pure,Result.andThen_ok,List.map_toArray,List.map_cons,List.map_nil,hs,hx,hr]
  refine h v1 w1 hown ((HB.alloc hbase _).grown hg (by simp;omega) (Yh' HO)) (World.grownBy.trans (World.grownBy_alloc W _ _) hg) ?_
  rcases hat with hat|hat
  · exact .inl hat
  · exact .inr ⟨_,hat,by simp⟩
end
theorem zo' {w : World} {base base' : Nat} {e : TypeId} {size n : Nat} {v : Value} {xs : List Value} (h : w.ownsRow base e size v n xs) (hb : base' ≤ base) : w.ownsRow base' e size v n xs:=by
  obtain ⟨h1,h2⟩:=h
  refine ⟨h1,?_⟩
  rcases h2 with h2|⟨g,cap,cur,rfl,hg,r⟩
  · exact .inl h2
  · exact .inr ⟨g,cap,cur,rfl,Nat.le_trans hb hg,r⟩
section
variable {α : Type} {enc : α → Value} {d : α}
def Cg' (enc : α → Value) (xs : List α) : List Value:=xs.map enc
def rdOf (d : α) (xs : List α) (i : Int) : α:=xs.getD i.toNat d
theorem Vj' (xs : List α) : (Cg' enc xs).length = xs.length:=by simp [Cg']
def Jj' (enc : α → Value) (d : α) (w : World) (A : Option Addr) (n : Nat) (xs : List α) : Prop :=
  xs.length = n ∧ n ≤ 9223372036854775807 ∧ (0 < n → ∃ ad,A = some ad ∧ ∀ j,j < n → w.cell? (ad.add j) = some (enc (xs.getD j d)))
theorem Jj'.at_ {w : World} {A : Option Addr} {n : Nat} {xs : List α} (h : Jj' enc d w A n xs) (i : Int) (h0 : 0 ≤ i) (h1 : i < n) : ∃ ad,A = some ad ∧ w.cell? (ad.add i.toNat) = some (enc (rdOf d xs i)):=by
  obtain ⟨ad,e,hc⟩:=h.2.2 (by omega)
  exact ⟨ad,e,hc _ (by omega)⟩
theorem tm' {W : World} {base g n cap : Nat} {e : TypeId} {xs : List α} (h : W.ownsRow base e 1 (.slice (some ⟨g,0,none⟩) n cap) n (Cg' enc xs)) (i : Int) (x : α) :
    (W.setCell ⟨g,i.toNat,none⟩ (enc x)).ownsRow base e 1 (.slice (some ⟨g,0,none⟩) n cap) n (Cg' enc (xs.set i.toNat x)) ∧ W.grownBy (W.setCell ⟨g,i.toNat,none⟩ (enc x)) (some g):=by
  have hs:=h.stored i.toNat (enc x)
  have he : (Cg' enc xs).set i.toNat (enc x) = Cg' enc (xs.set i.toNat x):=by simp [Cg',List.map_set]
  rwa [he] at hs
end
section
variable {α : Type} {P : Program} {ops : Array Oper} {rest : List Oper} {o : Oper} {a : Act} {Q : Exit → Act → World → Prop}
end
theorem qg {w : World} {g : Nat} {o : Obj} (h : w.heap[g]? = some o) (o' : Obj) : (w.alloc o').heap[g]? = some o:=(Below.heap_alloc w o' g (ke' h)).trans h
theorem qk {w : World} {g : Nat} {o : Obj} (h : w.heap[g]? = some o) : w.drew.heap[g]? = some o:=h
theorem qf {w : World} {g : Nat} {o : Obj} (h : w.heap[g]? = some o) (n : Nat) : (w.drewN n).heap[g]? = some o:=h
theorem qx {w w1 : World} {g : Nat} {o : Obj} (h : w.heap[g]? = some o) (hb : Below w.heap.size w w1) : w1.heap[g]? = some o:=(hb.block g (ke' h)).trans h
theorem yd' (w : World) (o : Obj) : (w.alloc o).heap[w.heap.size]? = some o:=heap_alloc_new w o
section
variable {P : Program}
theorem Ni' {fn : Func} {p u : Tmp} {ty : TypeId} (h : fn.results = #[.cell p ty,.tmp u]) (tmps : Array Value) (w : World) (g : Nat) (t : TypeId) (cs : Array Value) (fr : Nat × Nat) (d : TypeDesc)
    (hp : tmps.getD p undef = .pointer (some ⟨g,0,none⟩)) (hg : w.heap[g]? = some (.cells cs t fr))
    (hu : P.underlying ty = some d) (hd : (match d with | .struct _ | .array _ _=>true|_=>false) = true) (hi : (P.info? ty).map (·.size) = some cs.size) :
    (results fn tmps).run P w = .ok (.tuple #[.agg cs,tmps.getD u undef]) w:=by
  have hp' : tmps[p]?.getD undef = .pointer (some ⟨g,0,none⟩):=by simpa using hp
  simp [results,h,hp',asAddr,run_loadVar_row w g t ty cs fr d hg hu hd hi]
end
theorem own_le {w : World} {base n m c size : Nat} {e : TypeId} {A : Option Addr} {xs : List Value} (h : w.ownsRow base e size (.slice A m c) n xs) : m ≤ c:=by
  rcases h.2 with ⟨he,_⟩|⟨g,cap,cur,he,_,_,hnc,_⟩
  · injection he with _ h2 h3
    omega
  · injection he with _ h2 h3
    omega
def Tf' {α : Type} (R : α → List Value → Prop) (e : TypeId) (size : Nat) (w : World) (base : Nat) (v : Value) (ps : List α) : Prop :=
  ∃ inner,w.ownsRow base e size v ps.length inner ∧ ef' R size ps inner
section
variable {α : Type} {R R' : α → List Value → Prop} {e : TypeId} {size : Nat} {w w1 : World} {base : Nat} {v : Value} {ps : List α}
theorem Tf'.none_ (R : α → List Value → Prop) (e : TypeId) (size : Nat) (w : World) (base : Nat) : Tf' R e size w base (.slice none 0 0) []:=⟨[],own_nil _ _ _ _,ef'.none _ _⟩
theorem Tf'.imp_ (h : Tf' R e size w base v ps) (hR : ∀ p c,R p c → R' p c) : Tf' R' e size w base v ps:=by
  obtain ⟨inner,ho,hr⟩:=h
  exact ⟨inner,ho,hr.imp_ hR⟩
theorem Tf'.reads (h : Tf' R e size w base v ps) : ∃ A c,v = .slice A ps.length c ∧ ps.length ≤ c ∧ Ke' R size w A ps.length ps:=by
  obtain ⟨inner,ho,hr⟩:=h
  obtain ⟨A,c,rfl,hrow⟩:=em' ho hr rfl
  exact ⟨A,c,rfl,own_le ho,hrow⟩
theorem Tf'.ne_block (h : Tf' R e size w base v ps) {g : Nat} {t : TypeId} {cells : Array Value} (hb : w.heap[g]? = some (.cells cells t (0,0))) (ht : e ≠ t) : some g ≠ v.ownBlock:=by
  obtain ⟨inner,ho,hr⟩:=h
  exact own_ne ho hb ht
end
section
variable {P : Program} {ops : Array Oper} {rest : List Oper} {o : Oper} {a : Act} {Q : Exit → Act → World → Prop} {α : Type} {R : α → List Value → Prop}
end
section
variable {P : Program} {ops : Array Oper} {o : Oper} {a : Act} {Q : Exit → Act → World → Prop} {K : Act → World → Prop} {α : Type} {R : α → List Value → Prop}
end
theorem Ke'.inner_ {α : Type} {R : α → List Value → Prop} {size : Nat} {w : World} {ad : Addr} {n : Nat} {ps : List α} (h : Ke' R size w (some ad) n ps) :
    ∃ inner,ef' R size ps inner ∧ ∀ j u,inner[j]? = some u → w.cell? (ad.add j) = some u:=by
  have key : ∀ m,m ≤ ps.length → ∃ inner,ef' R size (ps.take m) inner ∧ ∀ j u,inner[j]? = some u → w.cell? (ad.add j) = some u:=by
    intro m
    induction m with
    | zero=>exact fun _=>⟨[],ef'.none _ _,fun j u hu=>by simp at hu⟩
    | succ m ih =>
      intro hm
      obtain ⟨inner,hr,hc⟩:=ih (by omega)
      obtain ⟨ad',he,hcell⟩:=h.2.2 (by have:=h.1;omega)
      injection he with he
      subst he
      obtain ⟨c,hcl,hp,hcc⟩:=hcell m _ (List.getElem?_eq_getElem (show m < ps.length by omega))
      refine ⟨inner ++ c,?_,fun j u hu=>?_⟩
      · rw [List.take_succ_eq_append_getElem (show m < ps.length by omega)]
        exact hr.snoc hp hcl
      · have hil : inner.length = m * size:=by rw [hr.1,List.length_take,Nat.min_eq_left (by omega)]
        rcases Nat.lt_or_ge j inner.length with hj|hj
        · rw [List.getElem?_append_left hj] at hu
          exact hc j u hu
        · rw [List.getElem?_append_right hj] at hu
          have:=hcc (j - inner.length) u hu
          rwa [hil,Nat.add_sub_cancel' (by omega)] at this
  obtain ⟨inner,hr,hc⟩:=key ps.length (Nat.le_refl _)
  rw [List.take_length] at hr
  exact ⟨inner,hr,hc⟩
section
variable {α : Type} {P : Program}
end
section
variable {P : Program} {ops : Array Oper} {rest : List Oper} {o : Oper} {a : Act} {Q : Exit → Act → World → Prop}
end
structure Kd (α : Type) where
  sz : Nat
  E : List Nat
  K : World → α → List Value → Prop
  M : World → Nat → (Nat → Prop) → α → List Value → Prop
  K_len : ∀ {w x cs},K w x cs → cs.length = sz
  K_one : ∀ {w x cs},K w x cs → ∀ u ∈ cs,u.oneCell' = true
  K_below : ∀ {w w1 : World} {x cs},Below w.heap.size w w1 → K w x cs → K w1 x cs
  K_of_M : ∀ {w base ok x cs},M w base ok x cs → K w x cs
  M_mono : ∀ {w base ok ok' x cs},(∀ k,ok k → ok' k) → M w base ok x cs → M w base ok' x cs
  M_bound : ∀ {w : World} {base ok x cs},M w base ok x cs → M w base (fun k=>ok k ∧ base ≤ k ∧ k < w.heap.size ∧ ∃ q,q ∈ E ∧ ∃ cells,w.heap[k]? = some (.cells cells q (0,0))) x cs
  M_move : ∀ {w w1 : World} {base ok x cs},(∀ k,ok k → w1.heap[k]? = w.heap[k]?) → M w base ok x cs → M w1 base ok x cs
  M_lower : ∀ {w base base' ok x cs},base' ≤ base → M w base ok x cs → M w base' ok x cs
theorem bq' {w w1 : World} {base : Nat} {e : TypeId} {size n : Nat} {v : Value} {xs : List Value} (h : w.ownsRow base e size v n xs) (hm : ∀ k,v.ownBlock = some k → w1.heap[k]? = w.heap[k]?) : w1.ownsRow base e size v n xs:=by
  obtain ⟨h1,h2⟩:=h
  refine ⟨h1,?_⟩
  rcases h2 with h2|⟨g,cap,cur,rfl,hg,hh,r⟩
  · exact .inl h2
  · exact .inr ⟨g,cap,cur,rfl,hg,(hm g (by simp [Value.ownBlock])).trans hh,r⟩
theorem ni' {w : World} {base : Nat} {e : TypeId} {size n : Nat} {v : Value} {xs : List Value} (h : w.ownsRow base e size v n xs) (k : Nat) (hk : v.ownBlock = some k) : ∃ cells,w.heap[k]? = some (.cells cells e (0,0)):=by
  rcases h.2 with ⟨rfl,_⟩|⟨g,cap,cur,rfl,hg,hh,r⟩
  · simp [Value.ownBlock] at hk
  · have : g = k:=by simpa [Value.ownBlock] using hk
    subst this
    exact ⟨cur,hh⟩
namespace Kd
def C {α : Type} (d : Kd α) (w : World) (A : Option Addr) (n : Nat) (xs : List α) : Prop:=Ke' (d.K w) d.sz w A n xs
def R {α : Type} (d : Kd α) (e : Nat) (w : World) (base : Nat) (ok : Nat → Prop) (v : Value) (xs : List α) : Prop :=
  (∀ k,v.ownBlock = some k → ok k) ∧ Tf' (d.M w base (fun k=>ok k ∧ some k ≠ v.ownBlock)) e d.sz w base v xs
section
variable {α : Type} {d : Kd α} {e : Nat} {w w1 : World} {base : Nat} {ok ok' : Nat → Prop} {v : Value} {xs : List α}
theorem C_below {A : Option Addr} {n : Nat} (h : d.C w A n xs) (hb : Below w.heap.size w w1) : d.C w1 A n xs:=Ke'.imp_ h hb (fun _ _ hp=>d.K_below hb hp)
theorem R_nil (d : Kd α) (e : Nat) (w : World) (base : Nat) (ok : Nat → Prop) : d.R e w base ok (.slice none 0 0) []:=⟨fun k hk=>by simp [Value.ownBlock] at hk,Tf'.none_ _ _ _ _ _⟩
theorem R_mono (h : d.R e w base ok v xs) (hok : ∀ k,ok k → ok' k) : d.R e w base ok' v xs:=⟨fun k hk=>hok k (h.1 k hk),h.2.imp_ (fun _ _ hp=>d.M_mono (fun k hk=>⟨hok k hk.1,hk.2⟩) hp)⟩
theorem R_bound (h : d.R e w base ok v xs) : d.R e w base (fun k=>ok k ∧ base ≤ k ∧ k < w.heap.size ∧ ∃ q,q ∈ e :: d.E ∧ ∃ cells,w.heap[k]? = some (.cells cells q (0,0))) v xs:=by
  obtain ⟨h0,inner,ho,hr⟩:=h
  refine ⟨fun k hk=>?_,inner,ho,hr.imp_ (fun _ _ hp=>d.M_mono (fun k hk=>?_) (d.M_bound hp))⟩
  · obtain ⟨cells,hc⟩:=ni' ho k hk
    exact ⟨h0 k hk,Yh' ho k hk,To' ho k hk,e,List.mem_cons_self,cells,hc⟩
  · obtain ⟨⟨h1,h2⟩,h3,h4,q,hq,hc⟩:=hk
    exact ⟨⟨h1,h3,h4,q,List.mem_cons_of_mem _ hq,hc⟩,h2⟩
theorem um' (h : d.R e w base ok v xs) (hm : ∀ k,ok k → w1.heap[k]? = w.heap[k]?) : d.R e w1 base ok v xs:=by
  obtain ⟨h0,inner,ho,hr⟩:=h
  exact ⟨h0,inner,bq' ho (fun k hk=>hm k (h0 k hk)),hr.imp_ (fun _ _ hp=>d.M_move (fun k hk=>hm k hk.1) hp)⟩
theorem R_lower {base' : Nat} (h : d.R e w base ok v xs) (hb : base' ≤ base) : d.R e w base' ok v xs:=by
  obtain ⟨h0,inner,ho,hr⟩:=h
  exact ⟨h0,inner,zo' ho hb,hr.imp_ (fun _ _ hp=>d.M_lower hb hp)⟩
theorem R_step (h : d.R e w base ok v xs) (hm : ∀ k,ok k → k < w.heap.size → w1.heap[k]? = w.heap[k]?) : d.R e w1 base ok v xs :=
  R_mono (um' (R_bound h) (fun k hk=>hm k hk.1 hk.2.2.1)) (fun _ hk=>hk.1)
theorem M_step {x : α} {cs : List Value} (h : d.M w base ok x cs) (hm : ∀ k,ok k → k < w.heap.size → w1.heap[k]? = w.heap[k]?) : d.M w1 base ok x cs :=
  d.M_mono (fun _ hk=>hk.1) (d.M_move (fun k hk=>hm k hk.1 hk.2.2.1) (d.M_bound h))
theorem R_below (h : d.R e w base ok v xs) (hb : Below w.heap.size w w1) : d.R e w1 base ok v xs:=R_step h (fun k _ hk=>hb.block k hk)
theorem Qn' {x : α} {cs : List Value} (h : d.M w base ok x cs) (hb : Below w.heap.size w w1) : d.M w1 base ok x cs:=M_step h (fun k _ hk=>hb.block k hk)
theorem R_grown (h : d.R e w base ok v xs) {row : Option Nat} (hg : w.grownBy w1 row) (hok : ∀ k,ok k → some k ≠ row) : d.R e w1 base ok v xs:=R_step h (fun k ho hk=>hg.block k hk (hok k ho))
theorem R_far (h : d.R e w base ok v xs) {p : Addr} (hok : ∀ k,ok k → k ≠ p.block) (u : Value) : d.R e (w.setCell p u) base ok v xs:=R_step h (fun k ho _=>Below.heap_setCell w p u k (hok k ho))
theorem R_keep (h : d.R e w base ok v xs) {g : Nat} (hk : ce' w w1 g none) (hok : ∀ k,ok k → k ≠ g) : d.R e w1 base ok v xs:=R_step h (fun k ho hlt=>hk.2 k hlt (hok k ho) (by simp))
theorem R_types (h : d.R e w base ok v xs) {g t : Nat} {cells : Array Value} (hb : w.heap[g]? = some (.cells cells t (0,0))) (ht : ∀ q,q ∈ e :: d.E → q ≠ t) : d.R e w base (fun k=>ok k ∧ k ≠ g) v xs :=
  R_mono (R_bound h) (fun k hk=>⟨hk.1,by
    obtain ⟨_,_,_,q,hq,cells',hc⟩:=hk
    rintro rfl
    rw [hc] at hb
    injection hb with hb
    injection hb with _ hb
    exact ht q hq hb⟩)
theorem R_set (h : d.R e w base ok v xs) {g t : Nat} {cells : Array Value} (hb : w.heap[g]? = some (.cells cells t (0,0))) (ht : ∀ q,q ∈ e :: d.E → q ≠ t) (j : Nat) (u : Value) : d.R e (w.setCell ⟨g,j,none⟩ u) base ok v xs :=
  R_mono (R_far (p:=⟨g,j,none⟩) (R_types h hb ht) (fun _ hk=>hk.2) u) (fun _ hk=>hk.1)
theorem R_reads (h : d.R e w base ok v xs) : ∃ A c,v = .slice A xs.length c ∧ xs.length ≤ c ∧ d.C w A xs.length xs:=by
  obtain ⟨A,c,he,hl,hr⟩:=Tf'.reads h.2
  exact ⟨A,c,he,hl,hr.imp_ (Below.refl _ _) (fun _ _ hp=>d.K_of_M hp)⟩
theorem R_slice (h : d.R e w base ok v xs) : ∃ A c,v = .slice A xs.length c:=by
  obtain ⟨A,c,he,_⟩:=R_reads h
  exact ⟨A,c,he⟩
theorem rm' (h : d.R e w base ok v xs) : ∃ inner,w.ownsRow base e d.sz v xs.length inner:=by
  obtain ⟨_,inner,ho,_⟩:=h
  exact ⟨inner,ho⟩
theorem R_ne (h : d.R e w base ok v xs) {g t : Nat} {cells : Array Value} (hb : w.heap[g]? = some (.cells cells t (0,0))) (ht : e ≠ t) : some g ≠ v.ownBlock:=Tf'.ne_block h.2 hb ht
end
def Ye' {α : Type} (enc : α → Value) (h1 : ∀ x,(enc x).oneCell' = true) : Kd α where
  sz:=1
  E:=[]
  K:=fun _ x cs=>cs = [enc x]
  M:=fun _ _ _ x cs=>cs = [enc x]
  K_len:=fun h=>by rw [h];rfl
  K_one:=fun h u hu=>by
    rw [h] at hu
    rw [List.mem_singleton.1 hu]
    exact h1 _
  K_below:=fun _ h=>h
  K_of_M:=fun h=>h
  M_mono:=fun _ h=>h
  M_bound:=fun h=>h
  M_move:=fun _ h=>h
  M_lower:=fun _ h=>h
def int (k : IntKind) : Kd Int:=Ye' (Value.int k) (fun _=>rfl)
def bool : Kd Bool:=Ye' Value.bool (fun _=>rfl)
def string : Kd ByteArray:=Ye' Value.string (fun _=>rfl)
def slice {α : Type} (e : Nat) (d : Kd α) : Kd (List α) where
  sz:=1
  E:=e :: d.E
  K:=fun w xs cs=>∃ A c,cs = [.slice A xs.length c] ∧ xs.length ≤ c ∧ d.C w A xs.length xs
  M:=fun w base ok xs cs=>∃ v,cs = [v] ∧ d.R e w base ok v xs
  K_len:=by
    rintro w x cs ⟨A,c,rfl,_⟩
    rfl
  K_one:=by
    rintro w x cs ⟨A,c,rfl,_⟩ u hu
    rw [List.mem_singleton.1 hu]
    rfl
  K_below:=by
    rintro w w1 x cs hb ⟨A,c,rfl,hl,hr⟩
    exact ⟨A,c,rfl,hl,C_below hr hb⟩
  K_of_M:=by
    rintro w base ok x cs ⟨v,rfl,h⟩
    obtain ⟨A,c,rfl,hl,hr⟩:=R_reads h
    exact ⟨A,c,rfl,hl,hr⟩
  M_mono:=by
    rintro w base ok ok' x cs hok ⟨v,rfl,h⟩
    exact ⟨v,rfl,R_mono h hok⟩
  M_bound:=by
    rintro w base ok x cs ⟨v,rfl,h⟩
    exact ⟨v,rfl,R_bound h⟩
  M_move:=by
    rintro w w1 base ok x cs hm ⟨v,rfl,h⟩
    exact ⟨v,rfl,um' h hm⟩
  M_lower:=by
    rintro w base base' ok x cs hb ⟨v,rfl,h⟩
    exact ⟨v,rfl,R_lower h hb⟩
def pair {α β : Type} (a : Kd α) (b : Kd β) : Kd (α × β) where
  sz:=a.sz + b.sz
  E:=a.E ++ b.E
  K:=fun w x cs=>∃ c0 c1,cs = c0 ++ c1 ∧ a.K w x.1 c0 ∧ b.K w x.2 c1
  M:=fun w base ok x cs=>∃ c0 c1,cs = c0 ++ c1 ∧ a.M w base ok x.1 c0 ∧ b.M w base ok x.2 c1
  K_len:=by
    rintro w x cs ⟨c0,c1,rfl,h0,h1⟩
    rw [List.length_append,a.K_len h0,b.K_len h1]
  K_one:=by
    rintro w x cs ⟨c0,c1,rfl,h0,h1⟩ u hu
    rcases List.mem_append.1 hu with hu|hu
    · exact a.K_one h0 u hu
    · exact b.K_one h1 u hu
  K_below:=by
    rintro w w1 x cs hb ⟨c0,c1,rfl,h0,h1⟩
    exact ⟨c0,c1,rfl,a.K_below hb h0,b.K_below hb h1⟩
  K_of_M:=by
    rintro w base ok x cs ⟨c0,c1,rfl,h0,h1⟩
    exact ⟨c0,c1,rfl,a.K_of_M h0,b.K_of_M h1⟩
  M_mono:=by
    rintro w base ok ok' x cs hok ⟨c0,c1,rfl,h0,h1⟩
    exact ⟨c0,c1,rfl,a.M_mono hok h0,b.M_mono hok h1⟩
  M_bound:=by
    rintro w base ok x cs ⟨c0,c1,rfl,h0,h1⟩
    refine ⟨c0,c1,rfl,a.M_mono ?_ (a.M_bound h0),b.M_mono ?_ (b.M_bound h1)⟩
    · rintro k ⟨h2,h3,h4,q,hq,hc⟩
      exact ⟨h2,h3,h4,q,List.mem_append_left _ hq,hc⟩
    · rintro k ⟨h2,h3,h4,q,hq,hc⟩
      exact ⟨h2,h3,h4,q,List.mem_append_right _ hq,hc⟩
  M_move:=by
    rintro w w1 base ok x cs hm ⟨c0,c1,rfl,h0,h1⟩
    exact ⟨c0,c1,rfl,a.M_move hm h0,b.M_move hm h1⟩
  M_lower:=by
    rintro w base base' ok x cs hb ⟨c0,c1,rfl,h0,h1⟩
    exact ⟨c0,c1,rfl,a.M_lower hb h0,b.M_lower hb h1⟩
def iso {α β : Type} (d : Kd α) (f : β → α) : Kd β where
  sz:=d.sz
  E:=d.E
  K:=fun w x cs=>d.K w (f x) cs
  M:=fun w base ok x cs=>d.M w base ok (f x) cs
  K_len:=d.K_len
  K_one:=d.K_one
  K_below:=d.K_below
  K_of_M:=d.K_of_M
  M_mono:=d.M_mono
  M_bound:=d.M_bound
  M_move:=d.M_move
  M_lower:=d.M_lower
def bot {α : Type} (sz : Nat) (E : List Nat) : Kd α where
  sz:=sz
  E:=E
  K:=fun _ _ _=>False
  M:=fun _ _ _ _ _=>False
  K_len:=fun h=>h.elim
  K_one:=fun h=>h.elim
  K_below:=fun _ h=>h
  K_of_M:=fun h=>h
  M_mono:=fun _ h=>h
  M_bound:=fun h=>h
  M_move:=fun _ h=>h
  M_lower:=fun _ h=>h
def upto {α : Type} (F : Kd α → Kd α) (sz : Nat) (E : List Nat) : Nat → Kd α
  | 0=>bot sz E
  | n + 1=>F (upto F sz E n)
theorem C_get {α : Type} {d : Kd α} {w : World} {A : Option Addr} {n : Nat} {xs : List α} (h : d.C w A n xs) (z : α) (i : Int) (h0 : 0 ≤ i) (h1 : i < n) :
    ∃ ad c,A = some ad ∧ c.length = d.sz ∧ d.K w (xs.getD i.toNat z) c ∧ ∀ j u,c[j]? = some u → w.cell? (ad.add (i.toNat * d.sz + j)) = some u:=Ke'.get_ h z i h0 h1
theorem Ak' {α : Type} {d : Kd α} {e base : Nat} {ok okp : Nat → Prop} {W w1 : World} {v v1 : Value} {xs : List α} {p : α} {inner cs : List Value} (h0 : ∀ k,v.ownBlock = some k → ok k) (hr : ef' (d.M W base (fun k=>ok k ∧ some k ≠ v.ownBlock)) d.sz xs inner) (hp : d.M W base okp p cs) (hokp : ∀ k,okp k → ok k ∧ some k ≠ v.ownBlock) (hfresh : ∀ k,W.heap.size ≤ k → ok k)
    (hown : w1.ownsRow base e d.sz v1 (xs.length + 1) (inner ++ cs)) (hg : W.grownBy w1 v.ownBlock) (hat : v1.ownBlock = v.ownBlock ∨ ∃ b,v1.ownBlock = some b ∧ W.heap.size ≤ b) : d.R e w1 base ok v1 (xs ++ [p]):=by
  have hne : ∀ k,some k ≠ v.ownBlock → k < W.heap.size → some k ≠ v1.ownBlock:=by
    intro k hk hlt
    rcases hat with hat|⟨b,hb,hle⟩
    · rw [hat];exact hk
    · rw [hb]
      intro he
      injection he with he
      omega
  have step : ∀ {q : α} {c : List Value} {o : Nat → Prop},d.M W base o q c → (∀ k,o k → ok k ∧ some k ≠ v.ownBlock) → d.M w1 base (fun k=>ok k ∧ some k ≠ v1.ownBlock) q c:=by
    intro q c o hq ho
    have h1:=d.M_move (w1:=w1) (fun k hk=>hg.block k hk.2.2.1 (ho k hk.1).2) (d.M_bound hq)
    exact d.M_mono (fun k hk=>⟨(ho k hk.1).1,hne k (ho k hk.1).2 hk.2.2.1⟩) h1
  refine ⟨fun k hk=>?_,inner ++ cs,by rw [List.length_append,List.length_singleton];exact hown,?_⟩
  · rcases hat with hat|⟨b,hb,hle⟩
    · exact h0 k (hat ▸ hk)
    · rw [hb] at hk
      injection hk with hk
      exact hfresh k (by omega)
  · exact (hr.imp_ (fun _ _ hq=>step hq (fun _ hk=>hk))).snoc (step hp hokp) (d.K_len (d.K_of_M hp))
section
variable {P : Program} {ops : Array Oper} {rest : List Oper} {o : Oper} {a : Act} {Q : Exit → Act → World → Prop} {α : Type}
theorem R_append (d : Kd α) {w0 W : World} (base : Nat) (hgd : o.guard = none) (s x : Operand) (t e : TypeId) (z : Value) (bytes : Nat)
    (ho : o.op = .call { callee:=.builtin .append,args:=#[s,x],argTypes:=#[t,t] })
    (ht : P.underlying t = some (.slice e)) (hinfo : (P.info? e).map (fun i=>(i.zero,i.size,i.bytes)) = some (some z,d.sz,bytes)) (hz : z.cells.size = d.sz) (hs0 : 0 < d.sz) (hb0 : 0 < bytes)
    (v : Value) (xs : List α) (p : α) (cs : List Value) (ok okp : Nat → Prop) (hs : a.eval s = v) (hx : a.eval x = .slice (some ⟨W.heap.size,0,none⟩) 1 1) (hp : d.M W base okp p cs) (hokp : ∀ k,okp k → ok k ∧ some k ≠ v.ownBlock) (hfresh : ∀ k,W.heap.size ≤ k → ok k)
    (HO : d.R e W base ok v xs) (HB : Below base w0 W) (hbase : base ≤ W.heap.size) (hl : (xs.length + 1) * bytes ≤ 140737488355328)
    (h : ∀ v1 w1,d.R e w1 base ok v1 (xs ++ [p]) → Below base w0 w1 → W.grownBy w1 v.ownBlock → (v1.ownBlock = v.ownBlock ∨ ∃ b,v1.ownBlock = some b ∧ W.heap.size ≤ b) → wpList P ops Q rest (a.put o.dst v1) w1) :
    wpList P ops Q (o :: rest) a (W.alloc (.cells cs.toArray e)):=by
  obtain ⟨h0,inner,hown,hr⟩:=HO
  refine kj' base hgd s x t e z d.sz bytes ho ht hinfo hz hs0 hb0 v xs.length inner cs hs hx (d.K_len (d.K_of_M hp)) (d.K_one (d.K_of_M hp)) hown HB hbase hl ?_
  intro v1 w1 hown1 hb1 hg1 hat1
  exact h v1 w1 (Ak' h0 hr hp hokp hfresh hown1 hg1 hat1) hb1 hg1 hat1
end
section
variable {P : Program} {ops : Array Oper} {o : Oper} {a : Act} {Q : Exit → Act → World → Prop} {Kc : Act → World → Prop} {α : Type}
theorem R_append_step (d : Kd α) {w0 W : World} (base : Nat) (hw : Region.wanted o (yielded ops a.tmps) = true) (s x : Operand) (t e : TypeId) (z : Value) (bytes : Nat)
    (ho : o.op = .call { callee:=.builtin .append,args:=#[s,x],argTypes:=#[t,t] })
    (ht : P.underlying t = some (.slice e)) (hinfo : (P.info? e).map (fun i=>(i.zero,i.size,i.bytes)) = some (some z,d.sz,bytes)) (hz : z.cells.size = d.sz) (hs0 : 0 < d.sz) (hb0 : 0 < bytes)
    (v : Value) (xs : List α) (p : α) (cs : List Value) (ok okp : Nat → Prop) (hs : a.eval s = v) (hx : a.eval x = .slice (some ⟨W.heap.size,0,none⟩) 1 1) (hp : d.M W base okp p cs) (hokp : ∀ k,okp k → ok k ∧ some k ≠ v.ownBlock) (hfresh : ∀ k,W.heap.size ≤ k → ok k)
    (HO : d.R e W base ok v xs) (HB : Below base w0 W) (hbase : base ≤ W.heap.size) (hl : (xs.length + 1) * bytes ≤ 140737488355328)
    (h : ∀ v1 w1,d.R e w1 base ok v1 (xs ++ [p]) → Below base w0 w1 → W.grownBy w1 v.ownBlock → (v1.ownBlock = v.ownBlock ∨ ∃ b,v1.ownBlock = some b ∧ W.heap.size ≤ b) → Kc (a.put o.dst v1) w1) :
    if Region.wanted o (yielded ops a.tmps) = true then Oper.wp P o a (W.alloc (.cells cs.toArray e)) Kc Q else Kc (a.put o.dst undef) (W.alloc (.cells cs.toArray e)):=by
  obtain ⟨h0,inner,hown,hr⟩:=HO
  refine Uj' base hw s x t e z d.sz bytes ho ht hinfo hz hs0 hb0 v xs.length inner cs hs hx (d.K_len (d.K_of_M hp)) (d.K_one (d.K_of_M hp)) hown HB hbase hl ?_
  intro v1 w1 hown1 hb1 hg1 hat1
  exact h v1 w1 (Ak' h0 hr hp hokp hfresh hown1 hg1 hat1) hb1 hg1 hat1
end
theorem Fn' {α : Type} {enc : α → Value} (xs : List α) : ef' (fun (x : α) (cs : List Value)=>cs = [enc x]) 1 xs (Cg' enc xs):=by
  refine ⟨by simp [Cg'],fun j p hj=>?_⟩
  obtain ⟨hl,hp⟩:=List.getElem?_eq_some_iff.1 hj
  have hl' : j < (Cg' enc xs).length:=by rw [Vj'];exact hl
  rw [Nat.mul_one,List.drop_eq_getElem_cons hl']
  simp [Cg',hp]
theorem cq' {α : Type} {enc : α → Value} {h1 : ∀ x,(enc x).oneCell' = true} {e : Nat} {w : World} {base : Nat} {ok : Nat → Prop} {v : Value} {xs : List α} (ho : w.ownsRow base e 1 v xs.length (Cg' enc xs)) (hok : ∀ k,v.ownBlock = some k → ok k) : (Ye' enc h1).R e w base ok v xs:=⟨hok,Cg' enc xs,ho,Fn' xs⟩
theorem dq' {α : Type} {enc : α → Value} {h1 : ∀ x,(enc x).oneCell' = true} {e : Nat} {w : World} {base : Nat} {ok : Nat → Prop} {v : Value} {xs : List α} (h : (Ye' enc h1).R e w base ok v xs) : w.ownsRow base e 1 v xs.length (Cg' enc xs):=by
  obtain ⟨_,inner,ho,hr⟩:=h
  have : inner = Cg' enc xs:=by
    apply List.ext_getElem?
    intro j
    rcases Nat.lt_or_ge j xs.length with hj|hj
    · have h2:=hr.2 j _ (List.getElem?_eq_getElem hj)
      have hl : j < inner.length:=by have:=hr.1;simp [Ye'] at this;omega
      have h3 : (inner.drop (j * 1)).take 1 = [enc xs[j]]:=h2
      rw [Nat.mul_one,List.drop_eq_getElem_cons hl] at h3
      have h4 : inner[j] = enc xs[j]:=by
        have h5:=congrArg List.head? h3
        rw [List.take_succ_cons] at h5
        exact Option.some.inj h5
      rw [List.getElem?_eq_getElem hl,h4]
      simp [Cg',List.getElem?_eq_getElem hj]
    · have h3 : inner.length = xs.length:=by have:=hr.1;simp [Ye'] at this;omega
      rw [List.getElem?_eq_none (by omega),List.getElem?_eq_none (by rw [Vj'];omega)]
  rw [← this]
  exact ho
theorem Ao' {α : Type} {enc : α → Value} {d : α} {h1 : ∀ x,(enc x).oneCell' = true} {w : World} {A : Option Addr} {n : Nat} {xs : List α} (h : (Ye' enc h1).C w A n xs) : Jj' enc d w A n xs:=by
  refine ⟨h.1,h.2.1,fun hn=>?_⟩
  obtain ⟨ad,e,hc⟩:=h.2.2 hn
  refine ⟨ad,e,fun j hj=>?_⟩
  have hl : j < xs.length:=by have:=h.1;omega
  obtain ⟨c,_,hK,hcell⟩:=hc j _ (List.getElem?_eq_getElem hl)
  have hK' : c = [enc xs[j]]:=hK
  subst hK'
  have:=hcell 0 _ rfl
  simpa [Ye',List.getD_eq_getElem?_getD,List.getElem?_eq_getElem hl] using this
end Kd
namespace Kd
structure Mono {α β : Type} (F : Kd α → Kd β) : Prop where
  sz : ∀ d d' : Kd α,d.sz = d'.sz → (F d).sz = (F d').sz
  K : ∀ d d' : Kd α,d.sz = d'.sz → (∀ w x cs,d.K w x cs → d'.K w x cs) → ∀ w x cs,(F d).K w x cs → (F d').K w x cs
  M : ∀ d d' : Kd α,d.sz = d'.sz → (∀ w base ok x cs,d.M w base ok x cs → d'.M w base ok x cs) → ∀ w base ok x cs,(F d).M w base ok x cs → (F d').M w base ok x cs
section
variable {α : Type} {F : Kd α → Kd α} {sz : Nat} {E : List Nat} {hs : ∀ n, (upto F sz E n).sz = sz} {hE : ∀ n q, q ∈ (upto F sz E n).E → q ∈ E}
end
end Kd
namespace Kd
end Kd
namespace Kd
section
variable {α β : Type} {d : Kd α} {d' : Kd β} {e e' : Nat} {w w1 W : World} {base b b' : Nat} {ok ok' okv oku : Nat → Prop} {v u : Value} {xs : List α} {ys : List β}
theorem R_alloc (h : d.R e w base ok v xs) (o : Obj) : d.R e (w.alloc o) base ok v xs:=R_below h (qo (Below.refl _ _) o)
theorem R_drew (h : d.R e w base ok v xs) : d.R e w.drew base ok v xs:=R_below h (Mi' (Below.refl _ _))
theorem R_drewN (h : d.R e w base ok v xs) (m : Nat) : d.R e (w.drewN m) base ok v xs:=R_below h (qd (Below.refl _ _) m)
theorem C_alloc {A : Option Addr} {n : Nat} (h : d.C w A n xs) (o : Obj) : d.C (w.alloc o) A n xs:=C_below h (qo (Below.refl _ _) o)
theorem C_drew {A : Option Addr} {n : Nat} (h : d.C w A n xs) : d.C w.drew A n xs:=C_below h (Mi' (Below.refl _ _))
theorem C_drewN {A : Option Addr} {n : Nat} (h : d.C w A n xs) (m : Nat) : d.C (w.drewN m) A n xs:=C_below h (qd (Below.refl _ _) m)
theorem C_max {A : Option Addr} {n : Nat} (h : d.C w A n xs) : n ≤ 9223372036854775807:=h.2.1
theorem R_reads' {A : Option Addr} {n c : Nat} (h : d.R e w base ok (.slice A n c) xs) : n = xs.length ∧ n ≤ c ∧ d.C w A xs.length xs:=by
  obtain ⟨A',c',he,hl,hr⟩:=R_reads h
  injection he with h1 h2 h3
  subst h1
  exact ⟨h2,by omega,hr⟩
theorem R_lt (h : d.R e w base ok v xs) : ∀ k,v.ownBlock = some k → k < w.heap.size:=by
  obtain ⟨inner,ho⟩:=rm' h
  exact To' ho
theorem R_base (h : d.R e w base ok v xs) : ∀ k,v.ownBlock = some k → base ≤ k:=by
  obtain ⟨inner,ho⟩:=rm' h
  exact Yh' ho
theorem R_form (h : d.R e w base ok v xs) (hp : 0 < xs.length) : ∃ g cap,v = .slice (some ⟨g,0,none⟩) xs.length cap ∧ base ≤ g ∧ g < w.heap.size ∧ ∃ cells,w.heap[g]? = some (.cells cells e (0,0)):=by
  obtain ⟨inner,ho⟩:=rm' h
  obtain ⟨g,cap,he,hb,hl⟩:=ho.form hp
  obtain ⟨cells,hc⟩:=ni' ho g (by rw [he];simp [Value.ownBlock])
  exact ⟨g,cap,he,hb,hl,cells,hc⟩
end
section
variable {w W : World} {A : Option Addr} {n : Nat}
theorem at_int {k : IntKind} {xs : List Int} (h : (Kd.int k).C w A n xs) (i : Int) (h0 : 0 ≤ i) (h1 : i < n) : ∃ ad,A = some ad ∧ w.cell? (ad.add i.toNat) = some (.int k (rd xs i)) :=
  Jj'.at_ (Ao' (enc:=Value.int k) (d:=(0 : Int)) (h1:=fun _=>rfl) h) i h0 h1
variable {α : Type} {enc : α → Value} {h1 : ∀ x, (enc x).oneCell' = true} {e base g cap : Nat} {ok : Nat → Prop} {xs : List α}
theorem R_put (h : (Ye' enc h1).R e W base ok (.slice (some ⟨g,0,none⟩) xs.length cap) xs) (i : Int) (x : α) : (Ye' enc h1).R e (W.setCell ⟨g,i.toNat,none⟩ (enc x)) base ok (.slice (some ⟨g,0,none⟩) xs.length cap) (xs.set i.toNat x) ∧ W.grownBy (W.setCell ⟨g,i.toNat,none⟩ (enc x)) (some g):=by
  obtain ⟨ho,hg⟩:=tm' (dq' h) i x
  exact ⟨cq' (by rw [List.length_set];exact ho) h.1,hg⟩
end
section
variable {P : Program} {ops : Array Oper} {rest : List Oper} {o : Oper} {a : Act} {Q : Exit → Act → World → Prop}
theorem event_run {W w1 : World} {v : Value} (hgd : o.guard = none) (hrun : (execOp a.eval o).run P W = .ok (.value v) w1) (h : wpList P ops Q rest (a.put o.dst v) w1) : wpList P ops Q (o :: rest) a W:=by
  refine wpList_plain hgd fun K hK=>?_
  unfold Oper.wp
  rw [hrun]
  exact hK _ _ h
variable {α : Type}
theorem R_lit (d : Kd α) {w0 W : World} (base e : Nat) (hgd : o.guard = none) {N : Tmp} (_hd : o.dst = some N) {xs : List α} {inner : List Value} {ok okp : Nat → Prop}
    (hrun : (execOp a.eval o).run P W = .ok (.value (.slice (some ⟨W.heap.size,0,none⟩) xs.length xs.length)) (W.alloc (.cells inner.toArray e)))
    (hrep : ef' (d.M W base okp) d.sz xs inner) (hok : ∀ k,okp k → ok k) (hfresh : ok W.heap.size) (HB : Below base w0 W) (hbase : base ≤ W.heap.size) (hm : xs.length ≤ 9223372036854775807)
    (h : ∀ v1 w1,d.R e w1 base ok v1 xs → Below base w0 w1 → W.grownBy w1 none → (∃ b,v1.ownBlock = some b ∧ W.heap.size ≤ b) → wpList P ops Q rest (a.put o.dst v1) w1) : wpList P ops Q (o :: rest) a W:=by
  refine event_run hgd hrun (h _ _ ⟨fun k hk=>?_,inner,?_,?_⟩ (HB.alloc hbase _) (World.grownBy_alloc W _ none) ⟨W.heap.size,by simp [Value.ownBlock],Nat.le_refl _⟩)
  · have : W.heap.size = k:=by simpa [Value.ownBlock] using hk
    subst this
    exact hfresh
  · have h2:=World.ownsRow_lit (base:=base) (e:=e) (size:=d.sz) W inner.toArray xs.length hbase (by simpa [maxLen] using hm) (by simpa using hrep.1)
    simpa using h2
  · refine hrep.imp_ (fun p c hp=>d.M_mono (fun k hk=>⟨hok k hk.1,fun he=>?_⟩) (Qn' (d.M_bound hp) (qo (Below.refl _ _) _)))
    have h3 : k = W.heap.size:=by simpa [Value.ownBlock] using he
    have:=hk.2.2.1
    omega
theorem Dl' {α : Type} {R : α → List Value → Prop} {z : Value} {size : Nat} {z0 : α} (hz : z.cells.size = size) (hs : 0 < size) (h0 : R z0 z.cells.toList) (m : Nat) : ef' R size (List.replicate m z0) (madeCells z.cells (m * size)).toList:=by
  refine ⟨by simp [size_madeCells],fun j p hj=>?_⟩
  obtain ⟨hjl,hp⟩:=List.getElem?_eq_some_iff.1 hj
  have hjm : j < m:=by simpa using hjl
  have hp' : z0 = p:=by simpa using hp
  subst hp'
  have hle : j * size + size ≤ m * size:=by rw [← Nat.succ_mul];exact Nat.mul_le_mul_right _ hjm
  have : ((madeCells z.cells (m * size)).toList.drop (j * size)).take size = z.cells.toList:=by
    apply List.ext_getElem
    · simp [size_madeCells,hz]
      omega
    · intro i h1 h2
      have hi : i < size:=by rw [Array.length_toList,hz] at h2;exact h2
      have hmod : (j * size + i) % size = i:=by
        rw [Nat.mul_comm,Nat.mul_add_mod]
        exact Nat.mod_eq_of_lt hi
      simp [madeCells,hz,hmod]
      rw [getElem!_pos z.cells i (by omega)]
  rw [this]
  exact h0
theorem R_make (d : Kd α) {w0 W : World} (base e : Nat) (hgd : o.guard = none) {N : Tmp} (hd : o.dst = some N) (t : TypeId) (x y : Operand) (ho : o.op = .makeSlice t x y) (n : Int) (hx : a.eval x = .int .i64 n) (hy : a.eval y = .int .i64 n)
    (ht : P.underlying t = some (.slice e)) (z : Value) (bytes : Nat) (hinfo : (P.info? e).map (fun i=>(i.zero,i.size,i.bytes)) = some (some z,d.sz,bytes)) (hz : z.cells.size = d.sz) (hs0 : 0 < d.sz) (hb0 : 0 < bytes)
    (z0 : α) {ok okp : Nat → Prop} (hzero : d.M W base okp z0 z.cells.toList) (hok : ∀ k,okp k → ok k) (hfresh : ok W.heap.size) (h0 : 0 ≤ n) (hl : n.toNat * bytes ≤ 281474976710656) (HB : Below base w0 W) (hbase : base ≤ W.heap.size)
    (h : ∀ v1 w1,d.R e w1 base ok v1 (List.replicate n.toNat z0) → Below base w0 w1 → W.grownBy w1 none → (∃ b,v1.ownBlock = some b ∧ W.heap.size ≤ b) → wpList P ops Q rest (a.put o.dst v1) w1) : wpList P ops Q (o :: rest) a W:=by
  obtain ⟨m,rfl⟩:=Int.eq_ofNat_of_zero_le h0
  simp only [Int.toNat_natCast] at hl h
  obtain ⟨i0,hi,hzz⟩:=Option.map_eq_some_iff.1 hinfo
  simp only [Prod.mk.injEq] at hzz
  obtain ⟨hz0,hz1,hz2⟩:=hzz
  have hm : m ≤ 281474976710656:=Nat.le_trans (Nat.le_mul_of_pos_right _ hb0) hl
  have hr:=run_make (P:=P) W t e i0 z ht hi hz0 .i64 .i64 (m : Int) (m : Int) (by omega) (by omega)
    (by
      have h3 : ((i0.bytes * m : Nat) : Int) ≤ 281474976710656:=by rw [hz2,Nat.mul_comm];omega
      rwa [Int.natCast_mul] at h3) (by omega)
  simp only [Int.toNat_natCast] at hr
  rw [hz1] at hr
  refine R_lit d base e hgd hd (xs:=List.replicate m z0) (inner:=(madeCells z.cells (m * d.sz)).toList) (okp:=okp) (ok:=ok) ?_ (Dl' hz hs0 hzero m) hok hfresh HB hbase (by simp;omega) h
  simp [execOp,ho,hx,hy,hr]
end
end Kd
theorem eq' {w : World} {base n m c size : Nat} {e : TypeId} {A : Option Addr} {xs : List Value} (h : w.ownsRow base e size (.slice A n c) n xs) (hm : m ≤ n) : w.ownsRow base e size (.slice A m c) m (xs.take (m * size)):=by
  obtain ⟨h1,h2⟩:=h
  refine ⟨by rw [List.length_take,h1];exact Nat.min_eq_left (Nat.mul_le_mul_right _ hm),?_⟩
  rcases h2 with ⟨he,h0⟩|⟨g,cap,cur,he,hb,hh,hnc,hcm,hcs,ht⟩
  · injection he with ha _ hc
    subst ha;subst hc
    exact .inl ⟨by rw [show m = 0 by omega],by omega⟩
  · injection he with ha _ hc
    subst ha;subst hc
    refine .inr ⟨g,c,cur,rfl,hb,hh,by omega,hcm,hcs,?_⟩
    rw [← ht,List.take_take,Nat.min_eq_left (Nat.mul_le_mul_right _ hm)]
section
variable {P : Program}
end
def QRow (w : World) (base : Nat) (e : TypeId) (size : Nat) (v : Value) (n : Nat) (xs : List Value) : Prop :=
  xs.length = n * size ∧
  ((n = 0 ∧ ∃ A,v = .slice A 0 0 ∧ ∀ a,A = some a → base ≤ a.block ∧ ∃ cur,w.heap[a.block]? = some (.cells cur e (0,0))) ∨
   ∃ g off cap cur,v = .slice (some ⟨g,off * size,none⟩) n cap ∧ base ≤ g ∧ w.heap[g]? = some (.cells cur e (0,0)) ∧ n ≤ cap ∧ off + cap ≤ maxLen ∧ cur.size = (off + cap) * size ∧ (cur.toList.drop (off * size)).take (n * size) = xs)
section
variable {w w1 : World} {base n size : Nat} {e : TypeId} {v : Value} {xs : List Value}
theorem q_typed (h : QRow w base e size v n xs) (k : Nat) (hk : v.ownBlock = some k) : base ≤ k ∧ ∃ cells,w.heap[k]? = some (.cells cells e (0,0)):=by
  rcases h.2 with ⟨_,A,rfl,hA⟩|⟨g,off,cap,cur,rfl,hg,hh,r⟩
  · cases A with
    | none=>simp [Value.ownBlock] at hk
    | some a =>
      have : a.block = k:=by simpa [Value.ownBlock] using hk
      subst this
      exact hA a rfl
  · have : g = k:=by simpa [Value.ownBlock] using hk
    subst this
    exact ⟨hg,cur,hh⟩
theorem q_slice (h : QRow w base e size v n xs) : ∃ A c,v = .slice A n c ∧ n ≤ c:=by
  rcases h.2 with ⟨h0,A,rfl,_⟩|⟨g,off,cap,cur,rfl,hg,hh,hnc,r⟩
  · exact ⟨A,0,by rw [h0],by omega⟩
  · exact ⟨_,cap,rfl,hnc⟩
theorem q_max (h : QRow w base e size v n xs) : n ≤ 9223372036854775807:=by
  rcases h.2 with ⟨h0,_⟩|⟨g,off,cap,cur,rfl,hg,hh,hnc,hm,r⟩
  · omega
  · simp only [maxLen] at hm
    omega
theorem Vo' (g o j : Nat) : (⟨g,o,none⟩ : Addr).add j = ⟨g,o + j,none⟩:=by unfold Addr.add;split <;> simp_all
theorem Rn' {A : Option Addr} {c : Nat} (h : QRow w base e size (.slice A n c) n xs) (hn : 0 < n) : ∃ ad,A = some ad ∧ ∀ j u,xs[j]? = some u → w.cell? (ad.add j) = some u:=by
  rcases h.2 with ⟨h0,_⟩|⟨g,off,cap,cur,he,hg,hh,hnc,hm,hcs,ht⟩
  · omega
  · injection he with ha _ hc
    subst ha
    refine ⟨_,rfl,fun j u hu=>?_⟩
    rw [Vo',cell_of_row w g _ cur e (0,0) hh]
    rw [← ht,List.getElem?_take] at hu
    split at hu
    · rw [List.getElem?_drop] at hu
      rw [← Array.getElem?_toList]
      exact hu
    · cases hu
theorem Zh' {g : Nat} : ∀ (vs : List Value) (o : Nat) {w : World} (k : Nat),k ≠ g → (w.setCells g o vs).heap[k]? = w.heap[k]?
  | [],_,_,_,_=>rfl
  | v :: r,o,w,k,hk=>by
    rw [World.setCells,Zh' r (o + 1) k hk]
    exact Below.heap_setCell w ⟨g,o,none⟩ v k hk
theorem Eh' (g : Nat) : ∀ (vs : List Value) (o : Nat) (w : World),(w.setCells g o vs).os = w.os ∧ (w.setCells g o vs).tape = w.tape ∧ (w.setCells g o vs).output = w.output ∧ (w.setCells g o vs).heap.size = w.heap.size
  | [],_,_=>⟨rfl,rfl,rfl,rfl⟩
  | v :: r,o,w=>by
    obtain ⟨h1,h2,h3,h4⟩:=Eh' g r (o + 1) (w.setCell ⟨g,o,none⟩ v)
    rw [World.setCells]
    exact ⟨h1,h2,h3,by rw [h4];simp [World.setCell]⟩
theorem ai' {g : Nat} {e : TypeId} : ∀ (vs : List Value) (o : Nat) (w : World) (cur : Array Value),w.heap[g]? = some (.cells cur e (0,0)) → o + vs.length ≤ cur.size →
    ∃ cur',(w.setCells g o vs).heap[g]? = some (.cells cur' e (0,0)) ∧ cur'.size = cur.size ∧ cur'.toList = cur.toList.take o ++ vs ++ cur.toList.drop (o + vs.length)
  | [],o,w,cur,h,_=>⟨cur,h,rfl,by simp⟩
  | v :: r,o,w,cur,h,hl=>by
    have h2:=be' h o v
    simp only [List.length_cons] at hl
    obtain ⟨cur',h3,h4,h5⟩:=ai' r (o + 1) (w.setCell ⟨g,o,none⟩ v) _ h2 (by simp;omega)
    refine ⟨cur',h3,by rw [h4];simp,?_⟩
    rw [h5,Array.toList_setIfInBounds]
    have ho : o < cur.toList.length:=by rw [Array.length_toList];omega
    rw [List.take_set,List.drop_set_of_lt (by omega)]
    simp only [List.length_cons]
    rw [show o + 1 + r.length = o + (r.length + 1) by omega]
    congr 1
    rw [List.take_succ_eq_append_getElem ho,List.set_append_right _ _ (by rw [List.length_take];omega)]
    have ho' : o < cur.size:=by omega
    simp [Nat.min_eq_left (Nat.le_of_lt ho')]
end
section
variable {P : Program}
end
namespace Kd
theorem Wo' {α : Type} {R : α → List Value → Prop} {size m : Nat} {ps : List α} {cs : List Value} (h : ef' R size ps cs) (hm : m ≤ ps.length) : ef' R size (ps.take m) (cs.take (m * size)):=by
  refine ⟨by rw [List.length_take,List.length_take,h.1,Nat.min_eq_left hm,Nat.min_eq_left (Nat.mul_le_mul_right _ hm)],fun j p hj=>?_⟩
  rw [List.getElem?_take] at hj
  split at hj
  · rename_i hjm
    have:=h.2 j p hj
    have hle : j * size + size ≤ m * size:=by rw [← Nat.succ_mul];exact Nat.mul_le_mul_right _ hjm
    rw [List.drop_take,List.take_take,Nat.min_eq_left (by omega)]
    exact this
  · cases hj
theorem R_take {α : Type} {d : Kd α} {e m n c : Nat} {w : World} {base : Nat} {ok : Nat → Prop} {A : Option Addr} {xs : List α} (h : d.R e w base ok (.slice A n c) xs) (hm : m ≤ xs.length) : d.R e w base ok (.slice A m c) (xs.take m):=by
  obtain ⟨h0,inner,ho,hr⟩:=h
  have hn : n = xs.length:=by
    obtain ⟨A',c',he⟩:=Uo' ho
    injection he
  subst hn
  have hb : ∀ x y : Nat,(Value.slice A x c).ownBlock = (Value.slice A y c).ownBlock:=by
    intro x y
    cases A <;> rfl
  refine ⟨fun k hk=>h0 k (by rw [hb _ m];exact hk),inner.take (m * d.sz),?_,?_⟩
  · rw [List.length_take,Nat.min_eq_left hm]
    exact eq' ho hm
  · rw [hb m xs.length]
    exact Wo' hr hm
def Q {α : Type} (d : Kd α) (e : Nat) (w : World) (base : Nat) (ok : Nat → Prop) (v : Value) (xs : List α) : Prop :=
  (∀ k,v.ownBlock = some k → ok k) ∧ ∃ inner,QRow w base e d.sz v xs.length inner ∧ ef' (d.M w base (fun k=>ok k ∧ some k ≠ v.ownBlock)) d.sz xs inner
section
variable {α : Type} {d : Kd α} {e : Nat} {w w1 W : World} {base : Nat} {ok ok' : Nat → Prop} {v : Value} {xs : List α}
theorem ik' {A : Option Addr} {n c : Nat} (h : d.Q e w base ok (.slice A n c) xs) : n = xs.length ∧ n ≤ c ∧ d.C w A xs.length xs:=by
  obtain ⟨_,inner,ho,hr⟩:=h
  obtain ⟨A',c',he,hl⟩:=q_slice ho
  injection he with h1 h2 h3
  subst h1;subst h2;subst h3
  refine ⟨rfl,hl,rfl,q_max ho,fun hp=>?_⟩
  obtain ⟨ad,ha,hc⟩:=Rn' ho hp
  refine ⟨ad,ha,fun j p hj=>⟨(inner.drop (j * d.sz)).take d.sz,?_,d.K_of_M (hr.2 j p hj),fun i u hu=>?_⟩⟩
  · have hjl:=(List.getElem?_eq_some_iff.1 hj).1
    have h1 : j * d.sz + d.sz ≤ inner.length:=by rw [hr.1,← Nat.succ_mul];exact Nat.mul_le_mul_right _ hjl
    rw [List.length_take,List.length_drop]
    omega
  · refine hc _ u ?_
    rw [List.getElem?_take] at hu
    split at hu
    · rw [List.getElem?_drop] at hu
      exact hu
    · cases hu
end
section
variable {P : Program} {ops : Array Oper} {rest : List Oper} {o : Oper} {a : Act} {Q' : Exit → Act → World → Prop} {Kc : Act → World → Prop} {α : Type}
end
end Kd
namespace Kd
section
variable {α : Type} {d : Kd α} {e e' : Nat} {w w1 W : World} {base : Nat} {ok : Nat → Prop} {u v : Value} {xs : List α}
theorem R_typed (h : d.R e w base ok v xs) : ∀ k,v.ownBlock = some k → ∃ cells,w.heap[k]? = some (.cells cells e (0,0)):=by
  obtain ⟨inner,ho⟩:=rm' h
  exact fun k hk=>ni' ho k hk
end
end Kd
theorem gg' {α : Type} (a seg : List α) (o : Nat) (h : o + seg.length ≤ a.length) (q : Nat) :
    (a.take o ++ seg ++ a.drop (o + seg.length))[q]? = if q < o then a[q]? else if q < o + seg.length then seg[q - o]? else a[q]?:=by
  have hl : (a.take o).length = o:=by rw [List.length_take];omega
  rw [List.append_assoc]
  by_cases h1 : q < o
  · rw [if_pos h1,List.getElem?_append_left (by omega),List.getElem?_take,if_pos h1]
  · rw [if_neg h1,List.getElem?_append_right (by omega),hl]
    by_cases h2 : q < o + seg.length
    · rw [if_pos h2,List.getElem?_append_left (by omega)]
    · rw [if_neg h2,List.getElem?_append_right (by omega),List.getElem?_drop]
      congr 1
      omega
namespace Kd
section
variable {α : Type} {d : Kd α} {e base g n cap : Nat} {ok okp : Nat → Prop} {W : World} {xs : List α}
theorem R_elem (h : d.R e W base ok (.slice (some ⟨g,0,none⟩) n cap) xs) (z : α) (i : Int) (h0 : 0 ≤ i) (h1 : i < n) :
    ∃ c,c.length = d.sz ∧ d.M W base (fun k=>ok k ∧ k ≠ g) (xs.getD i.toNat z) c ∧ (∀ j u,c[j]? = some u → W.cell? ⟨g,i.toNat * d.sz + j,none⟩ = some u) ∧ ∀ j,W.frozen? ⟨g,i.toNat * d.sz + j,none⟩ = false:=by
  obtain ⟨hn,hnc,hC⟩:=R_reads' h
  obtain ⟨_,inner,ho,hr⟩:=h
  have hil : i.toNat < xs.length:=by omega
  have hseg : i.toNat * d.sz + d.sz ≤ inner.length:=by rw [hr.1,← Nat.succ_mul];exact Nat.mul_le_mul_right _ hil
  have hM:=hr.2 i.toNat _ (List.getElem?_eq_getElem hil)
  refine ⟨(inner.drop (i.toNat * d.sz)).take d.sz,by rw [List.length_take,List.length_drop];omega,?_,fun j u hu=>?_,fun j=>?_⟩
  · rw [List.getD_eq_getElem?_getD,List.getElem?_eq_getElem hil]
    exact d.M_mono (fun k hk=>⟨hk.1,fun he=>hk.2 (by rw [he];simp [Value.ownBlock])⟩) hM
  · rw [List.getElem?_take] at hu
    split at hu
    · rw [List.getElem?_drop] at hu
      have:=ho.cells (g:=g) (by simp [Value.ownBlock]) _ u hu
      rwa [jj'] at this
    · cases hu
  · obtain ⟨cells,hc⟩:=ni' ho g (by simp [Value.ownBlock])
    exact qu hc _
theorem R_seg (h : d.R e W base ok (.slice (some ⟨g,0,none⟩) n cap) xs) (i : Int) (h0 : 0 ≤ i) (h1 : i < n) {c seg : List Value} {j : Nat} (hcl : c.length = d.sz) (hcc : ∀ j u,c[j]? = some u → W.cell? ⟨g,i.toNat * d.sz + j,none⟩ = some u)
    (hj : j + seg.length ≤ d.sz) {x' : α} (hM : d.M W base okp x' (c.take j ++ seg ++ c.drop (j + seg.length))) (hokp : ∀ k,okp k → ok k ∧ k ≠ g) :
    d.R e (W.setCells g (i.toNat * d.sz + j) seg) base ok (.slice (some ⟨g,0,none⟩) n cap) (xs.set i.toNat x') ∧ W.grownBy (W.setCells g (i.toNat * d.sz + j) seg) (some g):=by
  obtain ⟨hn,hnc,_⟩:=R_reads' h
  obtain ⟨hok,inner,ho,hr⟩:=h
  have hil : i.toNat < xs.length:=by omega
  have hseg : i.toNat * d.sz + d.sz ≤ inner.length:=by rw [hr.1,← Nat.succ_mul];exact Nat.mul_le_mul_right _ hil
  have hin : inner.length = n * d.sz:=by rw [hr.1,hn]
  obtain ⟨ho1,ho2⟩:=ho
  rcases ho2 with ⟨hv,_⟩|⟨g',cap',cur,hv,hb,hh,hnc',hcm,hcs,ht⟩
  · cases hv
  injection hv with ha _ hc
  injection ha with ha
  injection ha with hg
  subst hg;subst hc
  have hfit : i.toNat * d.sz + j + seg.length ≤ cur.size:=by
    have : n * d.sz ≤ cap * d.sz:=Nat.mul_le_mul_right _ hnc
    omega
  obtain ⟨cur',h3,h4,h5⟩:=ai' seg (i.toNat * d.sz + j) W cur hh hfit
  obtain ⟨s1,s2,s3,s4⟩:=Eh' g seg (i.toNat * d.sz + j) W
  have hfar : ∀ k,k ≠ g → (W.setCells g (i.toNat * d.sz + j) seg).heap[k]? = W.heap[k]?:=fun k hk=>Zh' seg _ k hk
  have hcin : ∀ q,q < d.sz → c[q]? = inner[i.toNat * d.sz + q]?:=by
    intro q hq
    have hq' : q < c.length:=by omega
    have h6:=hcc q _ (List.getElem?_eq_getElem hq')
    rw [cell_of_row W g _ cur e (0,0) hh] at h6
    rw [List.getElem?_eq_getElem hq',← h6,← ht,List.getElem?_take,if_pos (by rw [← hn];omega),Array.getElem?_toList]
  refine ⟨⟨hok,inner.take (i.toNat * d.sz + j) ++ seg ++ inner.drop (i.toNat * d.sz + j + seg.length),⟨?_,.inr ⟨g,cap,cur',by rw [List.length_set,hn],hb,h3,by rw [List.length_set,← hn];exact hnc,hcm,by rw [h4,hcs],?_⟩⟩,?_⟩,
    ⟨s1,s2,s3,by rw [s4];exact Nat.le_refl _,fun k _ hk=>hfar k (fun he=>hk (by rw [he]))⟩⟩
  · rw [List.length_set]
    simp only [List.length_append,List.length_take,List.length_drop]
    rw [hr.1] at hseg ⊢
    omega
  · rw [List.length_set,← hn]
    apply List.ext_getElem?
    intro q
    rw [List.getElem?_take,h5]
    rw [gg' cur.toList seg (i.toNat * d.sz + j) (by rw [Array.length_toList];omega) q,gg' inner seg (i.toNat * d.sz + j) (by omega) q]
    have hcur : ∀ q,q < n * d.sz → cur.toList[q]? = inner[q]?:=by
      intro q hq
      rw [← ht,List.getElem?_take,if_pos (by rw [← hn];exact hq)]
    by_cases hq : q < n * d.sz
    · rw [if_pos hq,hcur q hq]
    · rw [if_neg hq,if_neg (by omega),if_neg (by omega),List.getElem?_eq_none (by omega)]
  · refine ⟨?_,fun m p hm=>?_⟩
    · rw [List.length_set]
      simp only [List.length_append,List.length_take,List.length_drop]
      rw [hr.1] at hseg ⊢
      omega
    · have hml : m < xs.length:=by
        have:=(List.getElem?_eq_some_iff.1 hm).1
        rwa [List.length_set] at this
      have hmfit : m * d.sz + d.sz ≤ inner.length:=by rw [hr.1,← Nat.succ_mul];exact Nat.mul_le_mul_right _ hml
      have hgo : some g = (Value.slice (some ⟨g,0,none⟩) n cap).ownBlock:=by simp [Value.ownBlock]
      by_cases hmi : m = i.toNat
      · subst hmi
        rw [List.getElem?_set_self (by omega)] at hm
        injection hm with hm
        subst hm
        have hcells : ((inner.take (i.toNat * d.sz + j) ++ seg ++ inner.drop (i.toNat * d.sz + j + seg.length)).drop (i.toNat * d.sz)).take d.sz = c.take j ++ seg ++ c.drop (j + seg.length):=by
          apply List.ext_getElem?
          intro q
          rw [List.getElem?_take,List.getElem?_drop,gg' inner seg _ (by omega),gg' c seg j (by omega) q]
          by_cases hq : q < d.sz
          · rw [if_pos hq,hcin q hq]
            by_cases hq1 : q < j
            · rw [if_pos (by omega),if_pos hq1]
            · rw [if_neg (by omega),if_neg hq1]
              by_cases hq2 : q < j + seg.length
              · rw [if_pos (by omega),if_pos hq2]
                congr 1
                omega
              · rw [if_neg (by omega),if_neg hq2]
          · rw [if_neg hq,if_neg (by omega),if_neg (by omega),List.getElem?_eq_none (by omega)]
        rw [hcells]
        refine d.M_mono (fun k hk=>?_) (d.M_move (w1:=W.setCells g (i.toNat * d.sz + j) seg) (fun k hk=>hfar k (hokp k hk).2) hM)
        exact ⟨(hokp k hk).1,fun he=>(hokp k hk).2 (by rw [← hgo] at he;injection he)⟩
      · rw [List.getElem?_set_ne (by omega)] at hm
        have hold:=hr.2 m p hm
        have hcells : ((inner.take (i.toNat * d.sz + j) ++ seg ++ inner.drop (i.toNat * d.sz + j + seg.length)).drop (m * d.sz)).take d.sz = (inner.drop (m * d.sz)).take d.sz:=by
          apply List.ext_getElem?
          intro q
          rw [List.getElem?_take,List.getElem?_take,List.getElem?_drop,List.getElem?_drop,gg' inner seg _ (by omega)]
          by_cases hq : q < d.sz
          · rw [if_pos hq,if_pos hq]
            rcases Nat.lt_or_gt_of_ne hmi with hlt|hgt
            · have : m * d.sz + d.sz ≤ i.toNat * d.sz:=by rw [← Nat.succ_mul];exact Nat.mul_le_mul_right _ hlt
              rw [if_pos (by omega)]
            · have : i.toNat * d.sz + d.sz ≤ m * d.sz:=by rw [← Nat.succ_mul];exact Nat.mul_le_mul_right _ hgt
              rw [if_neg (by omega),if_neg (by omega)]
          · rw [if_neg hq,if_neg hq]
        rw [hcells]
        refine d.M_move (fun k hk=>hfar k (fun he=>hk.2 (by rw [he];exact hgo))) hold
end
end Kd
namespace Kd
def fixed {α : Type} (d : Kd α) (w0 : World) : Kd α where
  sz:=d.sz
  E:=[]
  K:=fun _ x cs=>d.K w0 x cs
  M:=fun _ _ _ x cs=>d.K w0 x cs
  K_len:=d.K_len
  K_one:=d.K_one
  K_below:=fun _ h=>h
  K_of_M:=fun h=>h
  M_mono:=fun _ h=>h
  M_bound:=fun h=>h
  M_move:=fun _ h=>h
  M_lower:=fun _ h=>h
def or_ {α : Type} (a b : Kd α) (h : b.sz = a.sz) : Kd α where
  sz:=a.sz
  E:=a.E ++ b.E
  K:=fun w x cs=>a.K w x cs ∨ b.K w x cs
  M:=fun w base ok x cs=>a.M w base ok x cs ∨ b.M w base ok x cs
  K_len:=fun hk=>hk.elim a.K_len (fun hk=>(b.K_len hk).trans h)
  K_one:=fun hk=>hk.elim a.K_one b.K_one
  K_below:=fun hb hk=>hk.imp (a.K_below hb) (b.K_below hb)
  K_of_M:=fun hk=>hk.imp a.K_of_M b.K_of_M
  M_mono:=fun hok hk=>hk.imp (a.M_mono hok) (b.M_mono hok)
  M_bound:=fun hk=>hk.imp
    (fun hk=>a.M_mono (fun _ ⟨h1,h2,h3,q,hq,hc⟩=>⟨h1,h2,h3,q,List.mem_append_left _ hq,hc⟩) (a.M_bound hk))
    (fun hk=>b.M_mono (fun _ ⟨h1,h2,h3,q,hq,hc⟩=>⟨h1,h2,h3,q,List.mem_append_right _ hq,hc⟩) (b.M_bound hk))
  M_move:=fun hm hk=>hk.imp (a.M_move hm) (b.M_move hm)
  M_lower:=fun hb hk=>hk.imp (a.M_lower hb) (b.M_lower hb)
section
variable {α : Type} {F : Kd α → Kd α} {sz : Nat} {E : List Nat} {hs : ∀ n, (upto F sz E n).sz = sz} {hE : ∀ n q, q ∈ (upto F sz E n).E → q ∈ E}
end
end Kd
namespace Kd
theorem Gn' {α : Type} {R : α → List Value → Prop} {size : Nat} {ps qs : List α} {cs ds : List Value} (h : ef' R size ps cs) (h' : ef' R size qs ds) : ef' R size (ps ++ qs) (cs ++ ds):=by
  refine ⟨by rw [List.length_append,List.length_append,h.1,h'.1,Nat.add_mul],fun j p hj=>?_⟩
  rcases Nat.lt_or_ge j ps.length with hlt|hge
  · rw [List.getElem?_append_left hlt] at hj
    have hle : j * size + size ≤ cs.length:=by rw [h.1,← Nat.succ_mul];exact Nat.mul_le_mul_right _ hlt
    rw [List.drop_append_of_le_length (by omega),List.take_append_of_le_length (by rw [List.length_drop];omega)]
    exact h.2 j p hj
  · rw [List.getElem?_append_right hge] at hj
    have h2:=h'.2 (j - ps.length) p hj
    have hle : ps.length * size ≤ j * size:=Nat.mul_le_mul_right _ hge
    rw [List.drop_append,List.drop_eq_nil_of_le (by rw [h.1];exact hle),List.nil_append,h.1,← Nat.sub_mul]
    exact h2
section
variable {P : Program} {ops : Array Oper} {rest : List Oper} {o : Oper} {a : Act} {Q : Exit → Act → World → Prop} {α : Type}
theorem R_append_rows (d : Kd α) {Rr : α → List Value → Prop} {w0 W : World} (base : Nat) (hgd : o.guard = none) (s x : Operand) (t e : TypeId) (z : Value) (bytes : Nat)
    (ho : o.op = .call { callee:=.builtin .append,args:=#[s,x],argTypes:=#[t,t] })
    (ht : P.underlying t = some (.slice e)) (hinfo : (P.info? e).map (fun i=>(i.zero,i.size,i.bytes)) = some (some z,d.sz,bytes)) (hz : z.cells.size = d.sz) (hs0 : 0 < d.sz) (hb0 : 0 < bytes)
    (v : Value) (xs ys : List α) (A : Option Addr) (m c : Nat) (ok okp : Nat → Prop) (hs : a.eval s = v) (hx : a.eval x = .slice A m c)
    (HO : d.R e W base ok v xs) (HR : Ke' Rr d.sz W A m ys) (hKM : ∀ x cs,Rr x cs → d.M W base okp x cs) (hokp : ∀ k,okp k → ok k ∧ some k ≠ v.ownBlock) (hfresh : ∀ k,W.heap.size ≤ k → ok k)
    (HB : Below base w0 W) (hbase : base ≤ W.heap.size) (hl : (xs.length + m) * bytes ≤ 140737488355328)
    (h : ∀ v1 w1,d.R e w1 base ok v1 (xs ++ ys) → Below base w0 w1 → W.grownBy w1 v.ownBlock → (v1.ownBlock = v.ownBlock ∨ ∃ b,v1.ownBlock = some b ∧ W.heap.size ≤ b) → wpList P ops Q rest (a.put o.dst v1) w1) :
    wpList P ops Q (o :: rest) a W:=by
  obtain ⟨i0,hi,hzz⟩:=Option.map_eq_some_iff.1 hinfo
  simp only [Prod.mk.injEq] at hzz
  obtain ⟨hz0,hz1,hz2⟩:=hzz
  have hm : ys.length = m:=HR.1
  have hlen : xs.length + m ≤ 140737488355328:=Nat.le_trans (Nat.le_mul_of_pos_right _ hb0) hl
  obtain ⟨hok,inner,hown,hr⟩:=HO
  have hrun : ∃ v1 w1,(Builtin.append_ #[t,t] o.type #[v,.slice A m c]).run P W = .ok v1 w1 ∧ d.R e w1 base ok v1 (xs ++ ys) ∧ W.grownBy w1 v.ownBlock ∧ (v1.ownBlock = v.ownBlock ∨ ∃ b,v1.ownBlock = some b ∧ W.heap.size ≤ b):=by
    rcases A with _|ad
    · have h0 : m = 0:=by
        rcases Nat.eq_zero_or_pos m with h0|h0
        · exact h0
        · obtain ⟨ad,h,_⟩:=HR.2.2 h0
          cases h
      subst h0
      obtain rfl : ys = []:=List.eq_nil_of_length_eq_zero hm
      refine ⟨v,W,?_,by rw [List.append_nil];exact ⟨hok,inner,hown,hr⟩,World.grownBy.refl W _,.inl rfl⟩
      rcases hown.2 with ⟨rfl,hn⟩|⟨g,cap,cur,rfl,_,_,hnc,_⟩
      · simp [Builtin.append_,run_underlying ht,sizeOf,typeInfo,hi,Builtin.lenOf,Builtin.firstCells]
      · simp [Builtin.append_,run_underlying ht,sizeOf,typeInfo,hi,Builtin.lenOf,Builtin.firstCells,hnc,storeCells]
    · obtain ⟨news,hnr,hnc⟩:=Ke'.inner_ HR
      have hnM : ef' (d.M W base okp) d.sz ys news:=hnr.imp_ (fun p c hp=>hKM p c hp)
      have hone : ∀ u ∈ news,u.oneCell' = true:=by
        intro u hu
        obtain ⟨q,hq,rfl⟩:=List.mem_iff_getElem.1 hu
        have hql : q / d.sz < ys.length:=by
          rw [Nat.div_lt_iff_lt_mul hs0]
          rw [← hnM.1]
          exact hq
        have hc:=hnM.2 (q / d.sz) _ (List.getElem?_eq_getElem hql)
        refine d.K_one (d.K_of_M hc) _ ?_
        rw [List.mem_iff_getElem?]
        refine ⟨q % d.sz,?_⟩
        rw [List.getElem?_take,if_pos (Nat.mod_lt _ hs0),List.getElem?_drop,Nat.mul_comm,Nat.div_add_mod,List.getElem?_eq_getElem hq]
      obtain ⟨v1,w1,hrun,h2,hg,_,hat⟩:=run_append_own_at (P:=P) W base t o.type e i0 z d.sz bytes ht hi hz0 hz1 hz2 hz hs0 v xs.length inner hown ad m c news (by rw [hnM.1,hm]) hnc hone (by simp only [maxLen];omega) hl hbase
      have hat' : v1.ownBlock = v.ownBlock ∨ ∃ b,v1.ownBlock = some b ∧ W.heap.size ≤ b:=by
        rcases hat with hat|hat
        · exact .inl hat
        · exact .inr ⟨_,hat,Nat.le_refl _⟩
      have hne : ∀ k,some k ≠ v.ownBlock → k < W.heap.size → some k ≠ v1.ownBlock:=by
        intro k hk hlt
        rcases hat' with hat|⟨b,hb,hle⟩
        · rw [hat];exact hk
        · rw [hb]
          intro he
          injection he with he
          omega
      have step : ∀ {q : α} {c : List Value} {o : Nat → Prop},d.M W base o q c → (∀ k,o k → ok k ∧ some k ≠ v.ownBlock) → d.M w1 base (fun k=>ok k ∧ some k ≠ v1.ownBlock) q c:=by
        intro q c o hq ho
        have h1:=d.M_move (w1:=w1) (fun k hk=>hg.block k hk.2.2.1 (ho k hk.1).2) (d.M_bound hq)
        exact d.M_mono (fun k hk=>⟨(ho k hk.1).1,hne k (ho k hk.1).2 hk.2.2.1⟩) h1
      refine ⟨v1,w1,hrun,⟨fun k hk=>?_,inner ++ news,by rw [List.length_append,hm];exact h2,Gn' (hr.imp_ (fun _ _ hq=>step hq (fun _ hk=>hk))) (hnM.imp_ (fun _ _ hq=>step hq hokp))⟩,hg,hat'⟩
      rcases hat' with hat|⟨b,hb,hle⟩
      · exact hok k (hat ▸ hk)
      · rw [hb] at hk
        injection hk with hk
        exact hfresh k (by omega)
  obtain ⟨v1,w1,hr1,h1,hg,hat⟩:=hrun
  refine wpList_plain hgd fun K hK=>?_
  unfold Oper.wp execOp
  simp only [ho,resolve,invoke,builtin,Sem.run_bind,Sem.run_pure,Result.andThen_ok,List.map_toArray,List.map_cons,List.map_nil,hs,hx,hr1]
  exact hK _ _ (h v1 w1 h1 (HB.grown hg hbase (Yh' hown)) hg hat)
end
end Kd
namespace Kd
section
variable {P : Program} {ops : Array Oper} {rest : List Oper} {o : Oper} {a : Act} {Q : Exit → Act → World → Prop} {α : Type}
end
end Kd
theorem add_add (a : Addr) (i j : Nat) : (a.add i).add j = a.add (i + j):=by
  unfold Addr.add
  by_cases h1 : i = 0 <;> by_cases h2 : j = 0 <;> simp [h1,h2,Nat.add_assoc]
namespace Kd
section
variable {α : Type} {k : Kd α} {w : World} {A : Option Addr} {xs : List α} {m c : Nat}
theorem C_take (h : k.C w A xs.length xs) (hm : m ≤ xs.length) : k.C w A (xs.take m).length (xs.take m):=by
  have hl : (xs.take m).length = m:=by rw [List.length_take];omega
  refine ⟨rfl,by rw [hl];have:=h.2.1;omega,fun hp=>?_⟩
  obtain ⟨ad,e,hc⟩:=h.2.2 (by omega)
  refine ⟨ad,e,fun j p hj=>hc j p ?_⟩
  rw [List.getElem?_take] at hj
  split at hj
  · exact hj
  · cases hj
theorem C_drop (h : k.C w A xs.length xs) (hm : m ≤ xs.length) (hc : xs.length ≤ c) : k.C w (if c = m then A else A.map (·.add (m * k.sz))) (xs.drop m).length (xs.drop m):=by
  have hl : (xs.drop m).length = xs.length - m:=List.length_drop
  refine ⟨rfl,by rw [hl];have:=h.2.1;omega,fun hp=>?_⟩
  rw [hl] at hp
  obtain ⟨ad,rfl,hcell⟩:=h.2.2 (by omega)
  rw [if_neg (by omega)]
  refine ⟨ad.add (m * k.sz),rfl,fun j p hj=>?_⟩
  rw [List.getElem?_drop] at hj
  obtain ⟨cs,h1,h2,h3⟩:=hcell (m + j) p hj
  refine ⟨cs,h1,h2,fun i u hu=>?_⟩
  rw [add_add,show m * k.sz + (j * k.sz + i) = (m + j) * k.sz + i by rw [Nat.add_mul];omega]
  exact h3 i u hu
end
end Kd
section
variable {P : Program}
end
theorem qv {w W : World} (h : Below w.heap.size w W) : w.heap.size ≤ W.heap.size:=h.size
theorem qy {w W w2 : World} (h : Below w.heap.size w W) (k : Below W.heap.size W w2) : Below w.heap.size w w2:=yo' h h.size k
theorem qp {w W : World} {g j : Nat} {v : Value} (h : Below w.heap.size w W) (hg : w.heap.size ≤ g) : Below w.heap.size w (W.setCell ⟨g,j,none⟩ v):=h.setCell hg _
theorem Bo' {w W : World} {g : Nat} {row : Option Nat} (h : ce' w W g row) (m : Nat) : ce' w (W.drewN m) g row:=h
theorem qw (a : Addr) (i : Nat) : (a.add i).block = a.block:=by unfold Addr.add;split <;> rfl
theorem keep_size {w W : World} {g : Nat} {row : Option Nat} (h : ce' w W g row) : w.heap.size ≤ W.heap.size:=h.1
theorem Pg' {w : World} {g : Nat} {t : TypeId} {cs cs' : Array Value} (h : w.heap[g]? = some (.cells cs t (0,0))) (i : Nat) (u : Value) (e : cs.setIfInBounds i u = cs') : (w.setCell ⟨g,i,none⟩ u).heap[g]? = some (.cells cs' t (0,0)):=e ▸ be' h i u
theorem qh {base : Nat} {w W : World} (h : Below base w W) : Below base w W.drew:=h.drew
theorem lj' {w W : World} {g : Nat} {row : Option Nat} (h : ce' w W g row) : ce' w W.drew g row:=h
namespace Kd
section
variable {α β : Type} {d : Kd α} {d' : Kd β} {e e' base base' n : Nat} {ok ok' : Nat → Prop} {w W w1 W1 : World} {v u : Value} {xs : List α} {ys : List β} {A : Option Addr} {c : Nat}
end
section
variable {α : Type} {enc : α → Value} {h1 : ∀ x, (enc x).oneCell' = true} {w W : World} {A : Option Addr} {n g : Nat} {xs : List α}
end
end Kd
namespace Kd
section
variable {α : Type} {d : Kd α} {e base g : Nat} {ok : Nat → Prop} {w w1 : World} {v : Value} {xs : List α} {o : Obj}
end
end Kd
section
variable {P : Program} {ops : Array Oper} {rest : List Oper} {o : Oper} {a : Act} {Q : Exit → Act → World → Prop}
theorem yf' {W : World} (hgd : o.guard = none) {N : Tmp} (_hd : o.dst = some N) {cs : Array Value} {t : TypeId}
    (hrun : (execOp a.eval o).run P W = .ok (.value (.pointer (some ⟨W.heap.size,0,none⟩))) (W.alloc (.cells cs t (0,0))))
    (h : ∀ g,g = W.heap.size → ∀ w1,w1.heap[g]? = some (.cells cs t (0,0)) → Below W.heap.size W w1 → wpList P ops Q rest (a.put o.dst (.pointer (some ⟨g,0,none⟩))) w1) : wpList P ops Q (o :: rest) a W :=
  Kd.event_run hgd hrun (h _ rfl _ (yd' W _) (qo (Below.refl _ _) _))
end
namespace Kd
section
variable {α : Type} {enc : α → Value} {h1 : ∀ x, (enc x).oneCell' = true} {e base g n cap : Nat} {ok : Nat → Prop} {W : World} {xs : List α}
theorem R_putn (h : (Ye' enc h1).R e W base ok (.slice (some ⟨g,0,none⟩) n cap) xs) (i : Int) (x : α) : (Ye' enc h1).R e (W.setCell ⟨g,i.toNat,none⟩ (enc x)) base ok (.slice (some ⟨g,0,none⟩) n cap) (xs.set i.toNat x):=by
  obtain ⟨rfl,_⟩:=R_reads' h
  exact (R_put h i x).1
end
end Kd
section
variable {P : Program} {ops : Array Oper} {rest : List Oper} {o : Oper} {a : Act} {Q : Exit → Act → World → Prop}
theorem Hn' {W w1 : World} (hgd : o.guard = none) {t : TypeId} {p : Tmp} {v : Operand} (_ho : o.op = .store t (.tmp p) v) (hN : o.dst = none)
    (hrun : (execOp a.eval o).run P W = .ok .skip w1) (h : ∀ w',w' = w1 → wpList P ops Q rest a w') : wpList P ops Q (o :: rest) a W:=by
  refine wpList_plain hgd fun K hK=>?_
  unfold Oper.wp
  rw [hrun]
  show K (a.put o.dst undef) w1
  rw [hN]
  exact hK _ _ (h _ rfl)
end
namespace Kd
section
variable {α : Type} {enc : α → Value} {h1 : ∀ x, (enc x).oneCell' = true} {e base g n cap : Nat} {ok : Nat → Prop} {W : World} {xs : List α}
end
end Kd
section
variable {P : Program} {ops : Array Oper} {rest : List Oper} {o : Oper} {a : Act} {Q : Exit → Act → World → Prop} {W : World}
theorem Af' {N : Tmp} (_hN : o.dst = some N) (h : wpList P ops Q (o :: rest) a W) : wpList P ops Q (o :: rest) a W:=h
theorem Co' {t : TypeId} {p : Tmp} {v : Operand} (_ho : o.op = .store t (.tmp p) v) (h : wpList P ops Q (o :: rest) a W) : wpList P ops Q (o :: rest) a W:=h
end
section
variable {P : Program} {ops : Array Oper} {o : Oper} {a : Act} {Q : Exit → Act → World → Prop} {Kc : Act → World → Prop}
theorem Do' {W w1 : World} {v : Value} (hw : Region.wanted o (yielded ops a.tmps) = true) (hrun : (execOp a.eval o).run P W = .ok (.value v) w1) (h : Kc (a.put o.dst v) w1) : if Region.wanted o (yielded ops a.tmps) = true then Oper.wp P o a W Kc Q else Kc (a.put o.dst undef) W:=by
  rw [if_pos hw]
  unfold Oper.wp
  rw [hrun]
  exact h
namespace Kd
variable {α : Type}
theorem Eo' (d : Kd α) {w0 W : World} (base e : Nat) (hw : Region.wanted o (yielded ops a.tmps) = true) {N : Tmp} (_hd : o.dst = some N) {xs : List α} {inner : List Value} {ok okp : Nat → Prop}
    (hrun : (execOp a.eval o).run P W = .ok (.value (.slice (some ⟨W.heap.size,0,none⟩) xs.length xs.length)) (W.alloc (.cells inner.toArray e)))
    (hrep : ef' (d.M W base okp) d.sz xs inner) (hok : ∀ k,okp k → ok k) (hfresh : ok W.heap.size) (HB : Below base w0 W) (hbase : base ≤ W.heap.size) (hm : xs.length ≤ 9223372036854775807)
    (h : ∀ v1 w1,d.R e w1 base ok v1 xs → Below base w0 w1 → W.grownBy w1 none → (∃ b,v1.ownBlock = some b ∧ W.heap.size ≤ b) → Kc (a.put o.dst v1) w1) : if Region.wanted o (yielded ops a.tmps) = true then Oper.wp P o a W Kc Q else Kc (a.put o.dst undef) W:=by
  refine Do' hw hrun (h _ _ ⟨fun k hk=>?_,inner,?_,?_⟩ (HB.alloc hbase _) (World.grownBy_alloc W _ none) ⟨W.heap.size,by simp [Value.ownBlock],Nat.le_refl _⟩)
  · have : W.heap.size = k:=by simpa [Value.ownBlock] using hk
    subst this
    exact hfresh
  · have h2:=World.ownsRow_lit (base:=base) (e:=e) (size:=d.sz) W inner.toArray xs.length hbase (by simpa [maxLen] using hm) (by simpa using hrep.1)
    simpa using h2
  · refine hrep.imp_ (fun p c hp=>d.M_mono (fun k hk=>⟨hok k hk.1,fun he=>?_⟩) (Qn' (d.M_bound hp) (qo (Below.refl _ _) _)))
    have h3 : k = W.heap.size:=by simpa [Value.ownBlock] using he
    have:=hk.2.2.1
    omega
theorem R_make_step (d : Kd α) {w0 W : World} (base e : Nat) (hw : Region.wanted o (yielded ops a.tmps) = true) {N : Tmp} (hd : o.dst = some N) (t : TypeId) (x y : Operand) (ho : o.op = .makeSlice t x y) (n : Int) (hx : a.eval x = .int .i64 n) (hy : a.eval y = .int .i64 n)
    (ht : P.underlying t = some (.slice e)) (z : Value) (bytes : Nat) (hinfo : (P.info? e).map (fun i=>(i.zero,i.size,i.bytes)) = some (some z,d.sz,bytes)) (hz : z.cells.size = d.sz) (hs0 : 0 < d.sz) (hb0 : 0 < bytes)
    (z0 : α) {ok okp : Nat → Prop} (hzero : d.M W base okp z0 z.cells.toList) (hok : ∀ k,okp k → ok k) (hfresh : ok W.heap.size) (h0 : 0 ≤ n) (hl : n.toNat * bytes ≤ 281474976710656) (HB : Below base w0 W) (hbase : base ≤ W.heap.size)
    (h : ∀ v1 w1,d.R e w1 base ok v1 (List.replicate n.toNat z0) → Below base w0 w1 → W.grownBy w1 none → (∃ b,v1.ownBlock = some b ∧ W.heap.size ≤ b) → Kc (a.put o.dst v1) w1) : if Region.wanted o (yielded ops a.tmps) = true then Oper.wp P o a W Kc Q else Kc (a.put o.dst undef) W:=by
  obtain ⟨m,rfl⟩:=Int.eq_ofNat_of_zero_le h0
  simp only [Int.toNat_natCast] at hl h
  obtain ⟨i0,hi,hzz⟩:=Option.map_eq_some_iff.1 hinfo
  simp only [Prod.mk.injEq] at hzz
  obtain ⟨hz0,hz1,hz2⟩:=hzz
  have hm : m ≤ 281474976710656:=Nat.le_trans (Nat.le_mul_of_pos_right _ hb0) hl
  have hr:=run_make (P:=P) W t e i0 z ht hi hz0 .i64 .i64 (m : Int) (m : Int) (by omega) (by omega)
    (by
      have h3 : ((i0.bytes * m : Nat) : Int) ≤ 281474976710656:=by rw [hz2,Nat.mul_comm];omega
      rwa [Int.natCast_mul] at h3) (by omega)
  simp only [Int.toNat_natCast] at hr
  rw [hz1] at hr
  refine Eo' d base e hw hd (xs:=List.replicate m z0) (inner:=(madeCells z.cells (m * d.sz)).toList) (okp:=okp) (ok:=ok) ?_ (Dl' hz hs0 hzero m) hok hfresh HB hbase (by simp;omega) h
  simp [execOp,ho,hx,hy,hr]
end Kd
end
inductive mj' (P : Program) (tmps : Array Value) (w : World) : List ResultVar → List Value → Prop where
  | nil : mj' P tmps w [] []
  | tmp {u : Tmp} {rs : List ResultVar} {vs : List Value} (h : mj' P tmps w rs vs) : mj' P tmps w (.tmp u :: rs) (tmps.getD u undef :: vs)
  | cell {p : Tmp} {ty : TypeId} {rs : List ResultVar} {vs : List Value} (g : Nat) (t : TypeId) (cs : Array Value) (fr : Nat × Nat) (d : TypeDesc)
      (hp : tmps.getD p undef = .pointer (some ⟨g,0,none⟩)) (hg : w.heap[g]? = some (.cells cs t fr))
      (hu : P.underlying ty = some d) (hd : (match d with | .struct _ | .array _ _=>true|_=>false) = true) (hi : (P.info? ty).map (·.size) = some cs.size)
      (h : mj' P tmps w rs vs) : mj' P tmps w (.cell p ty :: rs) (.agg cs :: vs)
section
variable {P : Program} {tmps : Array Value} {w : World}
theorem wm' {rs : List ResultVar} {vs : List Value} (hv : mj' P tmps w rs vs) (f : ResultVar → Sem Value) (hf : ∀ u,f (.tmp u) = pure (tmps.getD u undef)) (hc : ∀ a t,f (.cell a t) = (do loadVar t (← asAddr (tmps.getD a undef)))) :
    (rs.mapM f).run P w = .ok vs w:=by
  induction hv with
  | nil=>simp
  | tmp h ih=>simp [List.mapM_cons,hf,ih]
  | cell g t cs fr d hp hg hu hd hi h ih =>
    rw [List.mapM_cons,hc,hp]
    simp [asAddr,run_loadVar_row w g t _ cs fr d hg hu hd hi,ih]
theorem Ug' {fn : Func} {rs : List ResultVar} {vs : List Value} (h : fn.results = rs.toArray) (hl : vs.length ≠ 1) (hv : mj' P tmps w rs vs) : (results fn tmps).run P w = .ok (.tuple vs.toArray) w:=by
  unfold results
  rw [h,List.mapM_toArray]
  simp only [Sem.run_bind,Sem.run_map]
  rw [wm' hv]
  · simp [hl]
  · intro u
    rfl
  · intro a t
    rfl
theorem il' {fn : Func} {r : ResultVar} {v : Value} (h : fn.results = #[r]) (hv : mj' P tmps w [r] [v]) : (results fn tmps).run P w = .ok v w:=by
  unfold results
  rw [show fn.results = [r].toArray from h,List.mapM_toArray]
  simp only [Sem.run_bind,Sem.run_map]
  rw [wm' hv]
  · simp
  · intro u
    rfl
  · intro a t
    rfl
end
namespace Kd
section
variable {P : Program} {α : Type}
end
section
variable {P : Program} {ops : Array Oper} {rest : List Oper} {o : Oper} {a : Act} {Q : Exit → Act → World → Prop} {Kc : Act → World → Prop} {α : Type}
end
end Kd
end Go.Proofs.YtnffimpoekjkpaaGreatW.PrintWords
end
section
namespace Go.Proofs.YtnffimpoekjkpaaGreatW.PrintLast
section
variable {P : Program} {ops : Array Oper} {Q : Exit → Act → World → Prop} {md : Region.Mode} {S : World → Prop} {ds : List Nat}
def Region.reachB (md : Region.Mode) (ops : Array Oper) (i : Nat) : Nat → Nat → Bool
  | 0,_=>false
  | fuel + 1,d=>match ops[d]? with
    | some o=>o.after.any fun e=>Region.binds md e && (e.on == i || Region.reachB md ops i fuel e.on)
    | none=>false
def Region.closedB (md : Region.Mode) (ops : Array Oper) (listed : Array Bool) : Bool :=
  (List.range ops.size).all fun j=>!listed.getD j false || match ops[j]? with
    | some o=>o.after.all fun e=>!Region.binds md e || listed.getD e.on false
    | none=>true
def Region.lastB (md : Region.Mode) (ops : Array Oper) (listed : Array Bool) (ds : List Nat) (i : Nat) : Bool :=
  ds.all fun d=>listed.getD d true || Region.reachB md ops i ops.size d
def Bf' (md : Region.Mode) (ops : Array Oper) (listed : Array Bool) : Prop :=
  ∀ j oj,ops[j]? = some oj → listed.getD j false = true → ∀ e ∈ oj.after,Region.binds md e = true → listed.getD e.on false = true
theorem Region.closedB_spec {listed : Array Bool} (h : Region.closedB md ops listed = true) : Bf' md ops listed:=by
  intro j oj hj hl e he hb
  have hlt : j < ops.size:=(Array.getElem?_eq_some_iff.1 hj).1
  have h1:=List.all_eq_true.1 h j (List.mem_range.2 hlt)
  simp only [hl,hj,Bool.not_true,Bool.false_or] at h1
  have h2:=Array.all_eq_true_iff_forall_mem.1 h1 e he
  simpa [hb] using h2
theorem Bf'.set {listed : Array Bool} {i : Nat} (h : Bf' md ops listed) (hi : i ∈ Region.ready md ops listed) : Bf' md ops (listed.setIfInBounds i true):=by
  obtain ⟨_,oi,hoi,hall⟩:=mem_ready.1 hi
  intro j oj hj hl e he hb
  by_cases hij : i = j
  · subst hij
    have : oj = oi:=Option.some.inj (hj.symm.trans hoi)
    subst this
    exact getD_set_true (hall e he hb)
  · rw [getD_set_ne false hij] at hl
    exact getD_set_true (h j oj hj hl e he hb)
theorem Region.reach_listed {listed : Array Bool} {i : Nat} (hc : Bf' md ops listed) : ∀ (fuel d : Nat),Region.reachB md ops i fuel d = true → listed.getD d false = true → listed.getD i false = true
  | 0,_,h,_=>by simp [Region.reachB] at h
  | fuel + 1,d,h,hl=>by
    unfold Region.reachB at h
    cases ho : ops[d]? with
    | none=>rw [ho] at h;simp at h
    | some o =>
      rw [ho] at h
      obtain ⟨e,he,h1⟩:=Array.any_eq_true'.1 h
      simp only [Bool.and_eq_true,Bool.or_eq_true,beq_iff_eq] at h1
      have hle:=hc d o ho hl e he h1.1
      rcases h1.2 with h2|h2
      · rw [← h2];exact hle
      · exact Region.reach_listed hc fuel e.on h2 hle
theorem Region.reach_not_ready {listed : Array Bool} {i d fuel : Nat} (hc : Bf' md ops listed) (hr : Region.reachB md ops i fuel d = true) (hun : listed.getD i true = false) : d ∉ Region.ready md ops listed:=by
  intro hd
  obtain ⟨_,o,ho,hall⟩:=mem_ready.1 hd
  have hi : listed.getD i false = true:=by
    cases fuel with
    | zero=>simp [Region.reachB] at hr
    | succ n =>
      unfold Region.reachB at hr
      rw [ho] at hr
      obtain ⟨e,he,h1⟩:=Array.any_eq_true'.1 hr
      simp only [Bool.and_eq_true,Bool.or_eq_true,beq_iff_eq] at h1
      have hle:=hall e he h1.1
      rcases h1.2 with h2|h2
      · rw [← h2];exact hle
      · exact Region.reach_listed hc n e.on h2 hle
  rcases Nat.lt_or_ge i listed.size with h'|h'
  · simp [h'] at hun hi
    rw [hun] at hi
    cases hi
  · simp [Array.getElem?_eq_none h'] at hun
def Fd' (P : Program) (md : Region.Mode) (ops : Array Oper) (Q : Exit → Act → World → Prop) (S : World → Prop) (ds : List Nat) : Nat → Array Bool → Act → World → Prop
  | 0,listed,a,w=>Region.ready md ops listed = [] ∧ Q .normal a w
  | fuel + 1,listed,a,w =>
    (Region.ready md ops listed = [] → Q .normal a w) ∧
    ∀ i ∈ Region.ready md ops listed,wpOp P ops Q i (fun a' w'=>(i ∉ ds → S w → S w') ∧ Fd' P md ops Q S ds fuel (listed.setIfInBounds i true) a' w') a w
theorem fj' : ∀ (fuel : Nat) (listed : Array Bool) (a : Act) (w : World),Fd' P md ops Q S ds fuel listed a w → wpAny P md ops Q fuel listed a w
  | 0,_,_,_,h=>h
  | fuel + 1,_,_,_,h=>⟨h.1,fun i hi=>wpOp_mono (fun a' w' h'=>fj' fuel _ a' w' h'.2) (h.2 i hi)⟩
theorem Bk' {i : Nat} {oi : Oper} {v : Value} (hi : ops[i]? = some oi) (hsel : ∀ (j : Nat) (o : Oper) cs b,ops[j]? = some o → o.op ≠ .select cs b)
    (hQ : ∀ c a w,Q (.panic c) (a.put oi.dst v) w → Q (.panic c) a w) (n : Nat) :
    ∀ (fuel : Nat) (listed : Array Bool) (a : Act) (w : World),
      (∀ j oj,ops[j]? = some oj → j ≠ i → listed.getD j true = false → (∀ e ∈ oj.after,Region.binds md e = true → e.on ≠ i) → oi.apart ops oj = true) →
      Bf' md ops listed → (∀ d ∈ ds,listed.getD d true = false → Region.reachB md ops i n d = true) →
      i ∈ Region.ready md ops listed → YieldsIf P ops S oi v a → S w →
      Fd' P md ops Q S ds fuel (listed.setIfInBounds i true) (a.put oi.dst v) w → Fd' P md ops Q S ds (fuel + 1) listed a w:=by
  intro fuel
  induction fuel with
  | zero =>
    intro listed a w _ _ _ hr hy hS H
    refine ⟨fun h=>(by rw [h] at hr;cases hr),fun j hj=>?_⟩
    by_cases hji : j = i
    · subst hji;exact hy.wpOp hi hS ⟨fun _ h=>h,H⟩
    · have:=ready_mono hj hji
      rw [H.1] at this
      cases this
  | succ fuel ih =>
    intro listed a w hfree hc hd hr hy hS H
    refine ⟨fun h=>(by rw [h] at hr;cases hr),fun j hj=>?_⟩
    by_cases hji : j = i
    · subst hji;exact hy.wpOp hi hS ⟨fun _ h=>h,H⟩
    · have h1:=H.2 j (ready_mono hj hji)
      obtain ⟨hjun,oj,hoj,hall⟩:=mem_ready.1 hj
      have hiun:=(mem_ready.1 hr).1
      have hnot : ∀ e ∈ oj.after,Region.binds md e = true → e.on ≠ i:=fun e he hb heq=>by
        have h1:=hall e he hb
        rw [heq] at h1
        rcases Nat.lt_or_ge i listed.size with h'|h'
        · simp [h'] at hiun h1;rw [hiun] at h1;cases h1
        · simp [Array.getElem?_eq_none h'] at h1
      have hjd : j ∉ ds:=fun hm=>Region.reach_not_ready hc (hd j hm hjun) hiun hj
      have h2:=wpOp_putIf hoj (hfree j oj hoj hji hjun hnot) (fun cs b=>hsel i oi cs b hi) (fun cs b=>hsel j oj cs b hoj) hQ hy h1
      have hfree' : ∀ k ok,ops[k]? = some ok → k ≠ i → (listed.setIfInBounds j true).getD k true = false →
          (∀ e ∈ ok.after,Region.binds md e = true → e.on ≠ i) → oi.apart ops ok = true:=fun k ok hk hki hun hno=>by
        refine hfree k ok hk hki ?_ hno
        by_cases hjk : j = k
        · subst hjk;exact hjun
        · rw [getD_set_ne true hjk] at hun;exact hun
      have hd' : ∀ d ∈ ds,(listed.setIfInBounds j true).getD d true = false → Region.reachB md ops i n d = true:=fun d hm hun=>by
        refine hd d hm ?_
        by_cases hjk : j = d
        · subst hjk;exact hjun
        · rw [getD_set_ne true hjk] at hun;exact hun
      refine wpOp_mono (fun a' w' h3=>⟨h3.2.1,ih (listed.setIfInBounds j true) a' w' hfree' (hc.set hj) hd' (ready_mono hr (Ne.symm hji)) h3.1 (h3.2.1 hjd hS) ?_⟩) h2
      rw [Array.setIfInBounds_comm _ _ hji]
      exact h3.2.2
theorem fm' {i : Nat} {oi : Oper} {v : Value} (hi : ops[i]? = some oi) (hsel : ∀ (j : Nat) (o : Oper) cs b,ops[j]? = some o → o.op ≠ .select cs b)
    (hQ : ∀ c a w,Q (.panic c) (a.put oi.dst v) w → Q (.panic c) a w) :
    ∀ (fuel : Nat) (listed : Array Bool) (a : Act) (w : World),
      (∀ j oj,ops[j]? = some oj → j ≠ i → listed.getD j true = false → (∀ e ∈ oj.after,Region.binds md e = true → e.on ≠ i) → oi.apart ops oj = true) →
      i ∈ Region.ready md ops listed → Yields P ops oi v a →
      Fd' P md ops Q S ds fuel (listed.setIfInBounds i true) (a.put oi.dst v) w → Fd' P md ops Q S ds (fuel + 1) listed a w:=by
  intro fuel
  induction fuel with
  | zero =>
    intro listed a w _ hr hy H
    refine ⟨fun h=>(by rw [h] at hr;cases hr),fun j hj=>?_⟩
    by_cases hji : j = i
    · subst hji;exact (hy.yieldsIf (S:=fun _=>True)).wpOp hi trivial ⟨fun _ h=>h,H⟩
    · have:=ready_mono hj hji
      rw [H.1] at this
      cases this
  | succ fuel ih =>
    intro listed a w hfree hr hy H
    refine ⟨fun h=>(by rw [h] at hr;cases hr),fun j hj=>?_⟩
    by_cases hji : j = i
    · subst hji;exact (hy.yieldsIf (S:=fun _=>True)).wpOp hi trivial ⟨fun _ h=>h,H⟩
    · have h1:=H.2 j (ready_mono hj hji)
      obtain ⟨hjun,oj,hoj,hall⟩:=mem_ready.1 hj
      have hiun:=(mem_ready.1 hr).1
      have hnot : ∀ e ∈ oj.after,Region.binds md e = true → e.on ≠ i:=fun e he hb heq=>by
        have h1:=hall e he hb
        rw [heq] at h1
        rcases Nat.lt_or_ge i listed.size with h'|h'
        · simp [h'] at hiun h1;rw [hiun] at h1;cases h1
        · simp [Array.getElem?_eq_none h'] at h1
      have h2:=wpOp_put hoj (hfree j oj hoj hji hjun hnot) (fun cs b=>hsel i oi cs b hi) (fun cs b=>hsel j oj cs b hoj) hQ hy h1
      have hfree' : ∀ k ok,ops[k]? = some ok → k ≠ i → (listed.setIfInBounds j true).getD k true = false →
          (∀ e ∈ ok.after,Region.binds md e = true → e.on ≠ i) → oi.apart ops ok = true:=fun k ok hk hki hun hno=>by
        refine hfree k ok hk hki ?_ hno
        by_cases hjk : j = k
        · subst hjk;exact hjun
        · rw [getD_set_ne true hjk] at hun;exact hun
      refine wpOp_mono (fun a' w' h3=>⟨h3.2.1,ih (listed.setIfInBounds j true) a' w' hfree' (ready_mono hr (Ne.symm hji)) h3.1 ?_⟩) h2
      rw [Array.setIfInBounds_comm _ _ hji]
      exact h3.2.2
theorem jl' {i : Nat} {oi : Oper} {v : Value} {fuel : Nat} {listed : Array Bool} {a : Act} {w : World} (hi : ops[i]? = some oi)
    (hs : Region.noSelect ops = true) (hf : Region.free md ops listed i = true) (hr : (Region.ready md ops listed).contains i = true)
    (hc : Region.closedB md ops listed = true) (hl : Region.lastB md ops listed ds i = true)
    (hQ : ∀ c a w,Q (.panic c) (a.put oi.dst v) w → Q (.panic c) a w) (hy : YieldsIf P ops S oi v a) (hS : S w)
    (h : Fd' P md ops Q S ds fuel (listed.setIfInBounds i true) (a.put oi.dst v) w) : Fd' P md ops Q S ds (fuel + 1) listed a w :=
  Bk' hi (Region.noSelect_spec hs) hQ ops.size fuel listed a w (Region.free_spec hi hf) (Region.closedB_spec hc)
    (fun d hm hun=>by have:=List.all_eq_true.1 hl d hm;rw [hun] at this;simpa using this) (by simpa using hr) hy hS h
theorem gm' {rs : List Nat} {fuel : Nat} {listed : Array Bool} {a : Act} {w : World} (hr : Region.ready md ops listed = rs) (hne : rs ≠ [])
    (h : ∀ i ∈ rs,wpOp P ops Q i (fun a' w'=>(i ∉ ds → S w → S w') ∧ Fd' P md ops Q S ds fuel (listed.setIfInBounds i true) a' w') a w) : Fd' P md ops Q S ds (fuel + 1) listed a w :=
  ⟨fun h0=>absurd (hr ▸ h0) hne,hr ▸ h⟩
theorem kl' {listed : Array Bool} {a : Act} {w : World} (hr : Region.ready md ops listed = []) (h : Q .normal a w) :
    ∀ fuel,Fd' P md ops Q S ds fuel listed a w
  | 0=>⟨hr,h⟩
  | _ + 1=>⟨fun _=>h,by rw [hr];simp⟩
theorem ll' {id : Nat} {a : Act} {w : World} (hm : P.follows .mixedOrders = true)
    (h : Fd' P .any ops Q S ds ops.size (Array.replicate ops.size false) a { w with drawn:=w.drawn + 1 }) : (Code.region id ops true).wp P Q a w :=
  wp_region_any hm (fj' _ _ _ _ h)
end
section
variable {P : Program} {ops : Array Oper} {Q : Exit → Act → World → Prop} {md : Region.Mode} {S : World → Prop} {ds : List Nat}
def qe' (P : Program) (md : Region.Mode) (ops : Array Oper) (Q : Exit → Act → World → Prop) (S : World → Prop) (ds : List Nat) (fuel : Nat) (listed : Array Bool) (a : Act) (w : World) (rs : List Nat) : Prop :=
  ∀ i ∈ rs,wpOp P ops Q i (fun a' w'=>(i ∉ ds → S w → S w') ∧ Fd' P md ops Q S ds fuel (listed.setIfInBounds i true) a' w') a w
theorem qe'.nil {fuel : Nat} {listed : Array Bool} {a : Act} {w : World} : qe' P md ops Q S ds fuel listed a w []:=fun _ h=>by cases h
theorem qe'.cons {fuel : Nat} {listed : Array Bool} {a : Act} {w : World} {i : Nat} {o : Oper} {rs : List Nat} (ho : ops[i]? = some o) (hd : i ∉ ds)
    (h : ∀ K' : Act → World → Prop,Shut (∀ a w,S w → (S w → Fd' P md ops Q S ds fuel (listed.setIfInBounds i true) a w) → K' a w) → if Region.wanted o (yielded ops a.tmps) = true then Oper.wp P o a w K' Q else K' (a.put o.dst undef) w)
    (hs : qe' P md ops Q S ds fuel listed a w rs) : qe' P md ops Q S ds fuel listed a w (i :: rs):=fun j hj=>by
  rcases List.mem_cons.1 hj with rfl|hj
  · exact wpOp_step ho (fun K' hK=>h K' (fun a w hS hW=>hK a w ⟨fun _ _=>hS,hW hS⟩))
  · exact hs j hj
theorem qe'.cons_last {fuel : Nat} {listed : Array Bool} {a : Act} {w : World} {i : Nat} {o : Oper} {rs : List Nat} (ho : ops[i]? = some o) (hd : i ∈ ds)
    (h : ∀ K' : Act → World → Prop,Shut (∀ a w,Fd' P md ops Q S ds fuel (listed.setIfInBounds i true) a w → K' a w) → if Region.wanted o (yielded ops a.tmps) = true then Oper.wp P o a w K' Q else K' (a.put o.dst undef) w)
    (hs : qe' P md ops Q S ds fuel listed a w rs) : qe' P md ops Q S ds fuel listed a w (i :: rs):=fun j hj=>by
  rcases List.mem_cons.1 hj with rfl|hj
  · exact wpOp_step ho (fun K' hK=>h K' (fun a w hW=>hK a w ⟨fun hn=>absurd hd hn,hW⟩))
  · exact hs j hj
theorem jg' {rs : List Nat} {fuel : Nat} {listed : Array Bool} {a : Act} {w : World} (hr : Region.ready md ops listed = rs) (hne : rs ≠ [])
    (h : qe' P md ops Q S ds fuel listed a w rs) : Fd' P md ops Q S ds (fuel + 1) listed a w:=gm' hr hne h
theorem Md' {id n : Nat} {a : Act} {w : World} (l : Array Bool) (hm : P.follows .mixedOrders = true) (hn : ops.size = n) (hl : Array.replicate n false = l) (hS : S w.drew)
    (h : S w.drew → Fd' P .any ops Q S ds n l a w.drew) : (Code.region id ops true).wp P Q a w:=by
  subst hn
  subst hl
  exact ll' hm (h hS)
def takeB (md : Region.Mode) (ops : Array Oper) (ds : List Nat) (l l' : Array Bool) (i : Nat) : Bool :=
  Region.noSelect ops && Region.free md ops l i && (Region.ready md ops l).contains i && Region.closedB md ops l && Region.lastB md ops l ds i && (l.setIfInBounds i true == l')
theorem Kj' {i : Nat} {N : Option Tmp} {oi : Oper} {v : Value} {fuel : Nat} {l : Array Bool} {a : Act} {w : World} (l' : Array Bool) (hi : ops[i]? = some oi) (hN : oi.dst = N) (hc : takeB md ops ds l l' i = true)
    (hQ : ∀ c a w,Q (.panic c) (a.put oi.dst v) w → Q (.panic c) a w) (hy : YieldsIf P ops S oi v a) (hS : S w) {a' : Act} (ha : a.put N v = a')
    (h : Fd' P md ops Q S ds fuel l' a' w) : Fd' P md ops Q S ds (fuel + 1) l a w:=by
  subst ha
  subst hN
  simp only [takeB,Bool.and_eq_true,beq_iff_eq] at hc
  obtain ⟨⟨⟨⟨⟨h1,h2⟩,h3⟩,h4⟩,h5⟩,h6⟩:=hc
  subst h6
  exact jl' hi h1 h2 h3 h4 h5 hQ hy hS h
def anyB (md : Region.Mode) (ops : Array Oper) (l l' : Array Bool) (i : Nat) : Bool :=
  Region.noSelect ops && Region.free md ops l i && (Region.ready md ops l).contains i && (l.setIfInBounds i true == l')
theorem pure_ {i : Nat} {N : Option Tmp} {oi : Oper} {v : Value} {fuel : Nat} {l : Array Bool} {a : Act} {w : World} (l' : Array Bool) (hi : ops[i]? = some oi) (hN : oi.dst = N) (hc : anyB md ops l l' i = true)
    (hQ : ∀ c a w,Q (.panic c) (a.put oi.dst v) w → Q (.panic c) a w) (hy : Yields P ops oi v a) {a' : Act} (ha : a.put N v = a')
    (h : Fd' P md ops Q S ds fuel l' a' w) : Fd' P md ops Q S ds (fuel + 1) l a w:=by
  subst ha
  subst hN
  simp only [anyB,Bool.and_eq_true,beq_iff_eq] at hc
  obtain ⟨⟨⟨h1,h2⟩,h3⟩,h6⟩:=hc
  subst h6
  exact fm' hi (Region.noSelect_spec h1) hQ fuel l a w (Region.free_spec hi h2) (by simpa using h3) hy h
def Ck' (md : Region.Mode) (ops : Array Oper) (l l' : Array Bool) (i : Nat) : Bool:=(Region.ready md ops l == [i]) && (l.setIfInBounds i true == l')
theorem Td' {i : Nat} {N : Option Tmp} {oi : Oper} {fuel : Nat} {l : Array Bool} {a : Act} {w : World} (l' : Array Bool) (hi : ops[i]? = some oi) (hN : oi.dst = N) (hc : Ck' md ops l l' i = true) (hd : i ∉ ds)
    (h : ∀ K : Act → World → Prop,Shut (∀ a' w',S w' → (S w' → Fd' P md ops Q S ds fuel l' a' w') → K a' w') → if Region.wanted oi (yielded ops a.tmps) = true then Oper.wp P oi a w K Q else K (a.put N undef) w) :
    Fd' P md ops Q S ds (fuel + 1) l a w:=by
  subst hN
  simp only [Ck',Bool.and_eq_true,beq_iff_eq] at hc
  obtain ⟨h1,h2⟩:=hc
  subst h2
  exact jg' h1 (by simp) (qe'.cons hi hd (fun K hK=>h K hK) qe'.nil)
theorem de' {i : Nat} {N : Option Tmp} {oi : Oper} {fuel : Nat} {l : Array Bool} {a : Act} {w : World} (l' : Array Bool) (hi : ops[i]? = some oi) (hN : oi.dst = N) (hc : Ck' md ops l l' i = true) (hd : i ∈ ds)
    (h : ∀ K : Act → World → Prop,Shut (∀ a' w',Fd' P md ops Q S ds fuel l' a' w' → K a' w') → if Region.wanted oi (yielded ops a.tmps) = true then Oper.wp P oi a w K Q else K (a.put N undef) w) :
    Fd' P md ops Q S ds (fuel + 1) l a w:=by
  subst hN
  simp only [Ck',Bool.and_eq_true,beq_iff_eq] at hc
  obtain ⟨h1,h2⟩:=hc
  subst h2
  exact jg' h1 (by simp) (qe'.cons_last hi hd (fun K hK=>h K hK) qe'.nil)
theorem Wd' {l : Array Bool} {a : Act} {w : World} {n : Nat} (hr : (Region.ready md ops l == []) = true) (h : Q .normal a w) : Fd' P md ops Q S ds n l a w:=kl' (by simpa using hr) h n
theorem Vg' {i j : Nat} {Ni Nj : Option Tmp} {oi oj : Oper} {fuel : Nat} {l : Array Bool} {a : Act} {w : World} (li lj : Array Bool) (hi : ops[i]? = some oi) (hj : ops[j]? = some oj) (hNi : oi.dst = Ni) (hNj : oj.dst = Nj)
    (hc : (Region.ready md ops l == [i,j] && l.setIfInBounds i true == li && l.setIfInBounds j true == lj) = true) (hdi : i ∉ ds) (hdj : j ∉ ds)
    (h1 : ∀ K : Act → World → Prop,Shut (∀ a' w',S w' → (S w' → Fd' P md ops Q S ds fuel li a' w') → K a' w') → if Region.wanted oi (yielded ops a.tmps) = true then Oper.wp P oi a w K Q else K (a.put Ni undef) w)
    (h2 : ∀ K : Act → World → Prop,Shut (∀ a' w',S w' → (S w' → Fd' P md ops Q S ds fuel lj a' w') → K a' w') → if Region.wanted oj (yielded ops a.tmps) = true then Oper.wp P oj a w K Q else K (a.put Nj undef) w) :
    Fd' P md ops Q S ds (fuel + 1) l a w:=by
  subst hNi
  subst hNj
  simp only [Bool.and_eq_true,beq_iff_eq] at hc
  obtain ⟨⟨h3,h4⟩,h5⟩:=hc
  subst h4
  subst h5
  exact jg' h3 (by simp) (qe'.cons hi hdi (fun K hK=>h1 K hK) (qe'.cons hj hdj (fun K hK=>h2 K hK) qe'.nil))
theorem xm' {i j k : Nat} {Ni Nj Nk : Option Tmp} {oi oj ok : Oper} {fuel : Nat} {l : Array Bool} {a : Act} {w : World} (li lj lk : Array Bool) (hi : ops[i]? = some oi) (hj : ops[j]? = some oj) (hk : ops[k]? = some ok) (hNi : oi.dst = Ni) (hNj : oj.dst = Nj) (hNk : ok.dst = Nk)
    (hc : (Region.ready md ops l == [i,j,k] && l.setIfInBounds i true == li && l.setIfInBounds j true == lj && l.setIfInBounds k true == lk) = true) (hdi : i ∉ ds) (hdj : j ∉ ds) (hdk : k ∉ ds)
    (h1 : ∀ K : Act → World → Prop,Shut (∀ a' w',S w' → (S w' → Fd' P md ops Q S ds fuel li a' w') → K a' w') → if Region.wanted oi (yielded ops a.tmps) = true then Oper.wp P oi a w K Q else K (a.put Ni undef) w)
    (h2 : ∀ K : Act → World → Prop,Shut (∀ a' w',S w' → (S w' → Fd' P md ops Q S ds fuel lj a' w') → K a' w') → if Region.wanted oj (yielded ops a.tmps) = true then Oper.wp P oj a w K Q else K (a.put Nj undef) w)
    (h3 : ∀ K : Act → World → Prop,Shut (∀ a' w',S w' → (S w' → Fd' P md ops Q S ds fuel lk a' w') → K a' w') → if Region.wanted ok (yielded ops a.tmps) = true then Oper.wp P ok a w K Q else K (a.put Nk undef) w) :
    Fd' P md ops Q S ds (fuel + 1) l a w:=by
  subst hNi
  subst hNj
  subst hNk
  simp only [Bool.and_eq_true,beq_iff_eq] at hc
  obtain ⟨⟨⟨h4,h5⟩,h6⟩,h7⟩:=hc
  subst h5
  subst h6
  subst h7
  exact jg' h4 (by simp) (qe'.cons hi hdi (fun K hK=>h1 K hK) (qe'.cons hj hdj (fun K hK=>h2 K hK) (qe'.cons hk hdk (fun K hK=>h3 K hK) qe'.nil)))
def bi' : Act → List (Tmp × Value) → Act
  | a,[]=>a
  | a,(n,v) :: r=>bi' (a.put (some n) v) r
theorem join_ {σ : Type} {fuel : Nat} {l : Array Bool} {a : Act} {w : World} (fuel' : Nat) (l' : Array Bool) (ns : σ → List (Tmp × Value)) (F : σ → World → Prop)
    (hcont : ∀ s w',F s w' → Fd' P md ops Q S ds fuel' l' (bi' a (ns s)) w')
    (h : (∀ s w',F s w' → Fd' P md ops Q S ds fuel' l' (bi' a (ns s)) w') → Fd' P md ops Q S ds fuel l a w) : Fd' P md ops Q S ds fuel l a w:=h hcont
theorem zd' {fuel : Nat} {l : Array Bool} {a a' : Act} {w : World} (ha : a = a') (h : Fd' P md ops Q S ds fuel l a' w) : Fd' P md ops Q S ds fuel l a w:=by
  subst ha
  exact h
theorem call_ {oi : Oper} {N : Option Tmp} {a : Act} {w : World} {K : Act → World → Prop} (f : FuncId) (args : Array Value) (hw : Region.wanted oi (yielded ops a.tmps) = true) (hN : oi.dst = N) (hrun : (execOp a.eval oi).run P w = .ok (.enter f args) w)
    (h : Calls P f args w fun e w'=>∃ v,e = .returned v ∧ K (a.put N v) w') : if Region.wanted oi (yielded ops a.tmps) = true then Oper.wp P oi a w K Q else K (a.put N undef) w:=by
  rw [if_pos hw]
  subst hN
  unfold Oper.wp
  rw [hrun,Oper.upon_enter]
  refine h.mono fun e w'' hh=>?_
  obtain ⟨v,rfl,hk⟩:=hh
  exact hk
theorem enters_ {f : FuncId} {fn : Func} (hf : P.funcs[f]? = some fn) (hname : (fn.name == "runtime.NumGoroutine") = false) (hb : fn.body.isSome = true) (args : Array Value) (w : World) : (callFunc f args).run P w = .ok (.enter f args) w := by
  have h1 : fn.name ≠ "runtime.NumGoroutine" := by simpa using hname
  obtain ⟨c,hc⟩:=Option.isSome_iff_exists.1 hb
  simp [callFunc,hf,h1,hc]
theorem goes_ {oi : Oper} {N : Option Tmp} {a : Act} {w : World} {K : Act → World → Prop} {f : FuncId} {fn : Func} {as : Array Operand} {ts : Array TypeId} (hf : P.funcs[f]? = some fn) (hname : (fn.name == "runtime.NumGoroutine") = false) (hb : fn.body.isSome = true) (args : Array Value)
    (hw : Region.wanted oi (yielded ops a.tmps) = true) (hN : oi.dst = N) (hop : oi.op = .call { callee:=.value (.func f),args:=as,argTypes:=ts }) (hargs : as.map a.eval = args)
    (h : Calls P f args w fun e w'=>∃ v,e = .returned v ∧ K (a.put N v) w') : if Region.wanted oi (yielded ops a.tmps) = true then Oper.wp P oi a w K Q else K (a.put N undef) w:=by
  refine call_ f args hw hN ?_ h
  have he:=enters_ hf hname hb args w
  unfold execOp
  simp [hop,resolve,Deferred.ofValue,invoke,Act.eval,hargs,he]
theorem goesL_ {rest : List Oper} {oi : Oper} {a : Act} {w : World} (N : Option Tmp) (hd : oi.dst = N) (hg : oi.guard = none) {f : FuncId} {fn : Func} {as : Array Operand} {ts : Array TypeId} (hf : P.funcs[f]? = some fn) (hname : (fn.name == "runtime.NumGoroutine") = false) (hb : fn.body.isSome = true) (args : Array Value)
    (hop : oi.op = .call { callee:=.value (.func f),args:=as,argTypes:=ts }) (hargs : as.map a.eval = args)
    (h : Calls P f args w fun e w'=>∃ v,e = .returned v ∧ wpList P ops Q rest (a.put N v) w') : wpList P ops Q (oi :: rest) a w:=by
  refine wpList_plain hg fun K hK=>?_
  have he:=enters_ hf hname hb args w
  have hrun : (execOp a.eval oi).run P w = .ok (.enter f args) w:=by
    unfold execOp
    simp [hop,resolve,Deferred.ofValue,invoke,Act.eval,hargs,he]
  unfold Oper.wp
  rw [hrun,Oper.upon_enter]
  refine h.mono fun e w'' hh=>?_
  obtain ⟨v,rfl,hk⟩:=hh
  subst hd
  exact hK _ _ hk
theorem jf' {oi : Oper} {N : Option Tmp} {a : Act} {w w1 : World} {v : Value} {K : Act → World → Prop} (hw : Region.wanted oi (yielded ops a.tmps) = true) (hN : oi.dst = N) (hrun : (execOp a.eval oi).run P w = .ok (.value v) w1)
    (h : K (a.put N v) w1) : if Region.wanted oi (yielded ops a.tmps) = true then Oper.wp P oi a w K Q else K (a.put N undef) w:=by
  rw [if_pos hw]
  subst hN
  unfold Oper.wp
  rw [hrun]
  exact h
theorem Id' {oi : Oper} {a : Act} {w w1 : World} {K : Act → World → Prop} (hw : Region.wanted oi (yielded ops a.tmps) = true) (hN : oi.dst = none) (hrun : (execOp a.eval oi).run P w = .ok .skip w1)
    (h : K a w1) : if Region.wanted oi (yielded ops a.tmps) = true then Oper.wp P oi a w K Q else K (a.put none undef) w:=by
  rw [if_pos hw]
  unfold Oper.wp
  rw [hrun]
  show K (a.put oi.dst undef) w1
  rw [hN]
  exact h
theorem Bd' (n : Int) : IntKind.i64.wrap n = Go.RowKit.wrap64 n:=by unfold Go.RowKit.wrap64;exact IntKind.wrap_i64 n
theorem Cd' (n : Int) : IntKind.i32.wrap n = Go.RowKit.wrap32 n:=by unfold Go.RowKit.wrap32;exact IntKind.wrap_i32 n
end
end Go.Proofs.YtnffimpoekjkpaaGreatW.PrintLast
end
section
namespace Go.Proofs.YtnffimpoekjkpaaGreatW.PrintLast
open Go.Proofs.YtnffimpoekjkpaaGreatW.PrintWords (qz)
section
variable {md : Region.Mode} {ops : Array Oper} {T : Bool × List (List Nat × List Nat)} {l l' li lj lk : Array Bool} {ds : List Nat} {i j k : Nat}
end
end Go.Proofs.YtnffimpoekjkpaaGreatW.PrintLast
end
section
namespace Go.Proofs.YtnffimpoekjkpaaGreatW.PrintLast
section
variable {P : Program} {ops : Array Oper} {Q : Exit → Act → World → Prop} {md : Region.Mode} {S : World → Prop} {ds : List Nat} {T : Bool × List (List Nat × List Nat)}
end
end Go.Proofs.YtnffimpoekjkpaaGreatW.PrintLast
end
section
namespace Go.Proofs.YtnffimpoekjkpaaGreatW.PrintWords
open Go.RowKit
namespace Kd
section
variable {α : Type} {d : Kd α} {e base g o n cap : Nat} {ok okp : Nat → Prop} {w W : World} {v : Value} {xs : List α}
theorem Q_form (h : d.Q e w base ok v xs) (hp : 0 < xs.length) : ∃ g o cap,v = .slice (some ⟨g,o,none⟩) xs.length cap ∧ base ≤ g ∧ g < w.heap.size ∧ ∃ cells,w.heap[g]? = some (.cells cells e (0,0)):=by
  obtain ⟨h0,inner,hq,hr⟩:=h
  rcases hq.2 with ⟨h1,_⟩|⟨g,off,cap,cur,rfl,hb,hh,r⟩
  · omega
  · exact ⟨g,off * d.sz,cap,rfl,hb,ke' hh,cur,hh⟩
theorem Xo' (h : d.Q e W base ok (.slice (some ⟨g,o,none⟩) n cap) xs) (z : α) (i : Int) (h0 : 0 ≤ i) (h1 : i < n) :
    ∃ c,c.length = d.sz ∧ d.M W base (fun k=>ok k ∧ k ≠ g) (xs.getD i.toNat z) c ∧ (∀ j u,c[j]? = some u → W.cell? ⟨g,o + i.toNat * d.sz + j,none⟩ = some u) ∧ ∀ j,W.frozen? ⟨g,o + i.toNat * d.sz + j,none⟩ = false:=by
  obtain ⟨hn,hnc,hC⟩:=ik' h
  obtain ⟨_,inner,ho,hr⟩:=h
  have hil : i.toNat < xs.length:=by omega
  have hseg : i.toNat * d.sz + d.sz ≤ inner.length:=by rw [hr.1,← Nat.succ_mul];exact Nat.mul_le_mul_right _ hil
  have hM:=hr.2 i.toNat _ (List.getElem?_eq_getElem hil)
  refine ⟨(inner.drop (i.toNat * d.sz)).take d.sz,by rw [List.length_take,List.length_drop];omega,?_,fun j u hu=>?_,fun j=>?_⟩
  · rw [List.getD_eq_getElem?_getD,List.getElem?_eq_getElem hil]
    exact d.M_mono (fun k hk=>⟨hk.1,fun he=>hk.2 (by rw [he];simp [Value.ownBlock])⟩) hM
  · rw [List.getElem?_take] at hu
    split at hu
    · rw [List.getElem?_drop] at hu
      subst hn
      obtain ⟨ad,he,hc⟩:=Rn' ho (by omega)
      injection he with he
      subst he
      have:=hc _ u hu
      rwa [Vo',← Nat.add_assoc] at this
    · cases hu
  · obtain ⟨_,cells,hc⟩:=q_typed ho g (by simp [Value.ownBlock])
    exact qu hc _
theorem Q_seg (h : d.Q e W base ok (.slice (some ⟨g,o,none⟩) n cap) xs) (i : Int) (h0 : 0 ≤ i) (h1 : i < n) {c seg : List Value} {j : Nat} (hcl : c.length = d.sz) (hcc : ∀ j u,c[j]? = some u → W.cell? ⟨g,o + i.toNat * d.sz + j,none⟩ = some u)
    (hj : j + seg.length ≤ d.sz) {x' : α} (hM : d.M W base okp x' (c.take j ++ seg ++ c.drop (j + seg.length))) (hokp : ∀ k,okp k → ok k ∧ k ≠ g) :
    d.Q e (W.setCells g (o + i.toNat * d.sz + j) seg) base ok (.slice (some ⟨g,o,none⟩) n cap) (xs.set i.toNat x') ∧ W.grownBy (W.setCells g (o + i.toNat * d.sz + j) seg) (some g):=by
  obtain ⟨hn,hnc,_⟩:=ik' h
  obtain ⟨hok,inner,ho,hr⟩:=h
  have hil : i.toNat < xs.length:=by omega
  have hseg : i.toNat * d.sz + d.sz ≤ inner.length:=by rw [hr.1,← Nat.succ_mul];exact Nat.mul_le_mul_right _ hil
  have hin : inner.length = n * d.sz:=by rw [hr.1,hn]
  obtain ⟨ho1,ho2⟩:=ho
  rcases ho2 with ⟨hz,_⟩|⟨g',off,cap',cur,hv,hb,hh,hnc',hcm,hcs,ht⟩
  · omega
  injection hv with ha _ hc
  injection ha with ha
  injection ha with hg hoff
  subst hg;subst hc;subst hoff
  have hcap : n * d.sz ≤ cap * d.sz:=Nat.mul_le_mul_right _ hnc
  have hcs' : cur.size = off * d.sz + cap * d.sz:=by rw [hcs,Nat.add_mul]
  have hfit : off * d.sz + i.toNat * d.sz + j + seg.length ≤ cur.size:=by omega
  obtain ⟨cur',h3,h4,h5⟩:=ai' seg (off * d.sz + i.toNat * d.sz + j) W cur hh hfit
  obtain ⟨s1,s2,s3,s4⟩:=Eh' g seg (off * d.sz + i.toNat * d.sz + j) W
  have hfar : ∀ k,k ≠ g → (W.setCells g (off * d.sz + i.toNat * d.sz + j) seg).heap[k]? = W.heap[k]?:=fun k hk=>Zh' seg _ k hk
  rw [← hn] at ht
  have hat : ∀ q,q < n * d.sz → cur.toList[off * d.sz + q]? = inner[q]?:=by
    intro q hq
    rw [← ht,List.getElem?_take,if_pos hq,List.getElem?_drop]
  have hcin : ∀ q,q < d.sz → c[q]? = inner[i.toNat * d.sz + q]?:=by
    intro q hq
    have hq' : q < c.length:=by omega
    have h6:=hcc q _ (List.getElem?_eq_getElem hq')
    rw [cell_of_row W g _ cur e (0,0) hh] at h6
    rw [List.getElem?_eq_getElem hq',← h6,← hat _ (by omega),Array.getElem?_toList,Nat.add_assoc]
  refine ⟨⟨hok,inner.take (i.toNat * d.sz + j) ++ seg ++ inner.drop (i.toNat * d.sz + j + seg.length),⟨?_,.inr ⟨g,off,cap,cur',by rw [List.length_set,hn],hb,h3,by rw [List.length_set,← hn];exact hnc,hcm,by rw [h4,hcs],?_⟩⟩,?_⟩,
    ⟨s1,s2,s3,by rw [s4];exact Nat.le_refl _,fun k _ hk=>hfar k (fun he=>hk (by rw [he]))⟩⟩
  · rw [List.length_set]
    simp only [List.length_append,List.length_take,List.length_drop]
    rw [hr.1] at hseg ⊢
    omega
  · rw [List.length_set,← hn]
    apply List.ext_getElem?
    intro q
    rw [List.getElem?_take,List.getElem?_drop,h5]
    rw [gg' cur.toList seg (off * d.sz + i.toNat * d.sz + j) (by rw [Array.length_toList];omega) (off * d.sz + q),gg' inner seg (i.toNat * d.sz + j) (by omega) q]
    by_cases hq : q < n * d.sz
    · rw [if_pos hq]
      by_cases hq1 : q < i.toNat * d.sz + j
      · rw [if_pos (by omega),if_pos hq1,hat q hq]
      · rw [if_neg (by omega),if_neg hq1]
        by_cases hq2 : q < i.toNat * d.sz + j + seg.length
        · rw [if_pos (by omega),if_pos hq2]
          congr 1
          omega
        · rw [if_neg (by omega),if_neg hq2,hat q hq]
    · rw [if_neg hq,if_neg (by omega),if_neg (by omega),List.getElem?_eq_none (by omega)]
  · refine ⟨?_,fun m p hm=>?_⟩
    · rw [List.length_set]
      simp only [List.length_append,List.length_take,List.length_drop]
      rw [hr.1] at hseg ⊢
      omega
    · have hml : m < xs.length:=by
        have:=(List.getElem?_eq_some_iff.1 hm).1
        rwa [List.length_set] at this
      have hmfit : m * d.sz + d.sz ≤ inner.length:=by rw [hr.1,← Nat.succ_mul];exact Nat.mul_le_mul_right _ hml
      have hgo : some g = (Value.slice (some ⟨g,off * d.sz,none⟩) n cap).ownBlock:=by simp [Value.ownBlock]
      by_cases hmi : m = i.toNat
      · subst hmi
        rw [List.getElem?_set_self (by omega)] at hm
        injection hm with hm
        subst hm
        have hcells : ((inner.take (i.toNat * d.sz + j) ++ seg ++ inner.drop (i.toNat * d.sz + j + seg.length)).drop (i.toNat * d.sz)).take d.sz = c.take j ++ seg ++ c.drop (j + seg.length):=by
          apply List.ext_getElem?
          intro q
          rw [List.getElem?_take,List.getElem?_drop,gg' inner seg _ (by omega),gg' c seg j (by omega) q]
          by_cases hq : q < d.sz
          · rw [if_pos hq,hcin q hq]
            by_cases hq1 : q < j
            · rw [if_pos (by omega),if_pos hq1]
            · rw [if_neg (by omega),if_neg hq1]
              by_cases hq2 : q < j + seg.length
              · rw [if_pos (by omega),if_pos hq2]
                congr 1
                omega
              · rw [if_neg (by omega),if_neg hq2]
          · rw [if_neg hq,if_neg (by omega),if_neg (by omega),List.getElem?_eq_none (by omega)]
        rw [hcells]
        refine d.M_mono (fun k hk=>?_) (d.M_move (w1:=W.setCells g (off * d.sz + i.toNat * d.sz + j) seg) (fun k hk=>hfar k (hokp k hk).2) hM)
        exact ⟨(hokp k hk).1,fun he=>(hokp k hk).2 (by rw [← hgo] at he;injection he)⟩
      · rw [List.getElem?_set_ne (by omega)] at hm
        have hold:=hr.2 m p hm
        have hcells : ((inner.take (i.toNat * d.sz + j) ++ seg ++ inner.drop (i.toNat * d.sz + j + seg.length)).drop (m * d.sz)).take d.sz = (inner.drop (m * d.sz)).take d.sz:=by
          apply List.ext_getElem?
          intro q
          rw [List.getElem?_take,List.getElem?_take,List.getElem?_drop,List.getElem?_drop,gg' inner seg _ (by omega)]
          by_cases hq : q < d.sz
          · rw [if_pos hq,if_pos hq]
            rcases Nat.lt_or_gt_of_ne hmi with hlt|hgt
            · have : m * d.sz + d.sz ≤ i.toNat * d.sz:=by rw [← Nat.succ_mul];exact Nat.mul_le_mul_right _ hlt
              rw [if_pos (by omega)]
            · have : i.toNat * d.sz + d.sz ≤ m * d.sz:=by rw [← Nat.succ_mul];exact Nat.mul_le_mul_right _ hgt
              rw [if_neg (by omega),if_neg (by omega)]
          · rw [if_neg hq,if_neg hq]
        rw [hcells]
        refine d.M_move (fun k hk=>hfar k (fun he=>hk.2 (by rw [he];exact hgo))) hold
end
section
variable {α : Type} {enc : α → Value} {h1 : ∀ x, (enc x).oneCell' = true} {e base g o n cap : Nat} {ok : Nat → Prop} {W : World} {xs : List α}
theorem Q_cell (d : α) (h : (Ye' enc h1).Q e W base ok (.slice (some ⟨g,o,none⟩) n cap) xs) (i : Int) (h0 : 0 ≤ i) (hi : i < n) : W.cell? ⟨g,o + i.toNat,none⟩ = some (enc (rdOf d xs i)) ∧ W.frozen? ⟨g,o + i.toNat,none⟩ = false:=by
  obtain ⟨c,_,hM,hcc,hf⟩:=Xo' h d i h0 hi
  have hM' : c = [enc (xs.getD i.toNat d)]:=hM
  subst hM'
  have h2:=hcc 0 _ rfl
  have h3:=hf 0
  rw [show (Ye' enc h1).sz = 1 from rfl,Nat.mul_one,Nat.add_zero] at h2 h3
  exact ⟨h2,h3⟩
theorem Q_putg (h : (Ye' enc h1).Q e W base ok (.slice (some ⟨g,o,none⟩) n cap) xs) (i : Int) (h0 : 0 ≤ i) (hi : i < n) (x : α) : (Ye' enc h1).Q e (W.setCell ⟨g,o + i.toNat,none⟩ (enc x)) base ok (.slice (some ⟨g,o,none⟩) n cap) (xs.set i.toNat x) ∧ W.grownBy (W.setCell ⟨g,o + i.toNat,none⟩ (enc x)) (some g):=by
  have hp : 0 < xs.length:=by have:=(ik' h).1;omega
  obtain ⟨c,hcl,_,hcc,_⟩:=Xo' h (xs[0]'hp) i h0 hi
  have h2:=Q_seg h i h0 hi (c:=c) (seg:=[enc x]) (j:=0) (okp:=fun _=>False) (x':=x) hcl hcc (Nat.le_refl 1) (by
    have hl : c.length = 1:=hcl
    show c.take 0 ++ [enc x] ++ c.drop (0 + 1) = [enc x]
    rw [List.drop_eq_nil_of_le (by omega)]
    rfl) (fun _ hk=>hk.elim)
  rw [show (Ye' enc h1).sz = 1 from rfl,Nat.mul_one,Nat.add_zero] at h2
  exact h2
end
end Kd
end Go.Proofs.YtnffimpoekjkpaaGreatW.PrintWords
end
section
namespace Go.Proofs.YtnffimpoekjkpaaGreatW.PrintWords
open Go.RowKit
namespace Kd
def tag {α : Type} (f : Nat → Nat) (d : Kd α) : Kd (α × Nat) where
  sz:=d.sz
  E:=d.E
  K:=fun w x cs=>d.K w x.1 cs
  M:=fun w base ok x cs=>d.M w base (fun k=>ok k ∧ f k = x.2) x.1 cs
  K_len:=fun h=>d.K_len h
  K_one:=fun h=>d.K_one h
  K_below:=fun hb h=>d.K_below hb h
  K_of_M:=fun h=>d.K_of_M h
  M_mono:=fun hok h=>d.M_mono (fun k hk=>⟨hok k hk.1,hk.2⟩) h
  M_bound:=fun h=>d.M_mono (fun _ hk=>⟨⟨hk.1.1,hk.2⟩,hk.1.2⟩) (d.M_bound h)
  M_move:=fun hm h=>d.M_move (fun k hk=>hm k hk.1) h
  M_lower:=fun hb h=>d.M_lower hb h
def bare {α : Type} (d : Kd α) : Kd α where
  sz:=d.sz
  E:=d.E
  K:=d.K
  M:=fun w base _ x cs=>d.M w base (fun _=>False) x cs
  K_len:=fun h=>d.K_len h
  K_one:=fun h=>d.K_one h
  K_below:=fun hb h=>d.K_below hb h
  K_of_M:=fun h=>d.K_of_M h
  M_mono:=fun _ h=>h
  M_bound:=fun h=>h
  M_move:=fun _ h=>d.M_move (fun _ hk=>hk.elim) h
  M_lower:=fun hb h=>d.M_lower hb h
def raw (sz : Nat) : Kd (List Value) where
  sz:=sz
  E:=[]
  K:=fun _ x cs=>cs = x ∧ cs.length = sz ∧ ∀ u ∈ cs,u.oneCell' = true
  M:=fun _ _ _ x cs=>cs = x ∧ cs.length = sz ∧ ∀ u ∈ cs,u.oneCell' = true
  K_len:=fun h=>h.2.1
  K_one:=fun h=>h.2.2
  K_below:=fun _ h=>h
  K_of_M:=fun h=>h
  M_mono:=fun _ h=>h
  M_bound:=fun h=>h
  M_move:=fun _ h=>h
  M_lower:=fun _ h=>h
def S {α : Type} (d : Kd α) (e : Nat) (w : World) (base : Nat) (ok : Nat → Prop) (v : Value) (xs : List α) : Prop:=∃ f,(tag f d).R e w base ok v xs.zipIdx
section
variable {α β : Type} {d : Kd α} {d' : Kd β} {e e' : Nat} {w w1 W : World} {base b : Nat} {ok ok' okv oku : Nat → Prop} {u v : Value} {xs : List α} {ys : List β}
theorem zip_at {xs : List α} {j : Nat} {p : α} (h : xs[j]? = some p) : xs.zipIdx[j]? = some (p,j):=by rw [List.getElem?_zipIdx,h,Nat.zero_add];rfl
theorem S_R (h : S d e w base ok v xs) : d.R e w base ok v xs:=by
  obtain ⟨f,h0,inner,ho,hr⟩:=h
  rw [List.length_zipIdx] at ho
  exact ⟨h0,inner,ho,by have:=hr.1;rw [List.length_zipIdx] at this;exact this,fun j p hj=>d.M_mono (fun _ hk=>hk.1) (hr.2 j (p,j) (zip_at hj))⟩
theorem R_tight (hE : d.E = []) (h : d.R e w base ok v xs) : d.R e w base (fun k=>some k = v.ownBlock) v xs:=by
  obtain ⟨h0,inner,ho,hr⟩:=h
  refine ⟨fun k hk=>hk.symm,inner,ho,hr.imp_ (fun p c hp=>d.M_mono (fun k hk=>?_) (d.M_bound hp))⟩
  obtain ⟨_,_,_,q,hq,_⟩:=hk
  rw [hE] at hq
  cases hq
theorem S_nil (d : Kd α) (e : Nat) (w : World) (base : Nat) (ok : Nat → Prop) : S d e w base ok (.slice none 0 0) []:=⟨fun _=>0,R_nil _ _ _ _ _⟩
theorem S_mono (h : S d e w base ok v xs) (hok : ∀ k,ok k → ok' k) : S d e w base ok' v xs:=by
  obtain ⟨f,h⟩:=h
  exact ⟨f,R_mono h hok⟩
theorem S_bound (h : S d e w base ok v xs) : S d e w base (fun k=>ok k ∧ base ≤ k ∧ k < w.heap.size ∧ ∃ q,q ∈ e :: d.E ∧ ∃ cells,w.heap[k]? = some (.cells cells q (0,0))) v xs:=by
  obtain ⟨f,h⟩:=h
  exact ⟨f,R_bound h⟩
theorem S_move (h : S d e w base ok v xs) (hm : ∀ k,ok k → w1.heap[k]? = w.heap[k]?) : S d e w1 base ok v xs:=by
  obtain ⟨f,h⟩:=h
  exact ⟨f,um' h hm⟩
theorem S_lower {base' : Nat} (h : S d e w base ok v xs) (hb : base' ≤ base) : S d e w base' ok v xs:=by
  obtain ⟨f,h⟩:=h
  exact ⟨f,R_lower h hb⟩
theorem S_step (h : S d e w base ok v xs) (hm : ∀ k,ok k → k < w.heap.size → w1.heap[k]? = w.heap[k]?) : S d e w1 base ok v xs :=
  S_mono (S_move (S_bound h) (fun k hk=>hm k hk.1 hk.2.2.1)) (fun _ hk=>hk.1)
theorem S_below (h : S d e w base ok v xs) (hb : Below w.heap.size w w1) : S d e w1 base ok v xs:=S_step h (fun k _ hk=>hb.block k hk)
theorem S_far (h : S d e w base ok v xs) {p : Addr} (hok : ∀ k,ok k → k ≠ p.block) (u : Value) : S d e (w.setCell p u) base ok v xs:=S_step h (fun k ho _=>Below.heap_setCell w p u k (hok k ho))
theorem S_types (h : S d e w base ok v xs) {g t : Nat} {cells : Array Value} (hb : w.heap[g]? = some (.cells cells t (0,0))) (ht : ∀ q,q ∈ e :: d.E → q ≠ t) : S d e w base (fun k=>ok k ∧ k ≠ g) v xs:=by
  obtain ⟨f,h⟩:=h
  exact ⟨f,R_types h hb ht⟩
theorem S_set (h : S d e w base ok v xs) {g t : Nat} {cells : Array Value} (hb : w.heap[g]? = some (.cells cells t (0,0))) (ht : ∀ q,q ∈ e :: d.E → q ≠ t) (j : Nat) (u : Value) : S d e (w.setCell ⟨g,j,none⟩ u) base ok v xs :=
  S_mono (S_far (p:=⟨g,j,none⟩) (S_types h hb ht) (fun _ hk=>hk.2) u) (fun _ hk=>hk.1)
theorem S_lt (h : S d e w base ok v xs) : ∀ k,v.ownBlock = some k → k < w.heap.size:=R_lt (S_R h)
theorem S_base (h : S d e w base ok v xs) : ∀ k,v.ownBlock = some k → base ≤ k:=R_base (S_R h)
theorem S_old (h : S d e W base ok u xs) (hb : Below W.heap.size W w1) : S d e w1 base (fun k=>ok k ∧ k < W.heap.size) u xs :=
  S_mono (S_below (S_bound h) hb) (fun _ hk=>⟨hk.1,hk.2.2.1⟩)
theorem R_tag {f f' : Nat → Nat} {zs : List (α × Nat)} (h : (tag f d).R e w base ok v zs) (hf : ∀ k,ok k → k < w.heap.size → f' k = f k) : (tag f' d).R e w base ok v zs:=by
  obtain ⟨h0,inner,ho,hr⟩:=R_bound h
  exact ⟨fun k hk=>(h0 k hk).1,inner,ho,hr.1,fun j p hj=>d.M_mono (fun k hk=>⟨⟨hk.1.1.1,hk.1.2⟩,(hf k hk.1.1.1 hk.1.1.2.2.1).trans hk.2⟩) (hr.2 j p hj)⟩
end
section
variable {α β : Type} {d : Kd α} {d' : Kd β} {e e' g : Nat} {w w1 W : World} {base b : Nat} {ok ok' okv oku : Nat → Prop} {u v : Value} {xs : List α} {ys : List β}
theorem S_ne (h : S d e w base ok v xs) {t : Nat} {cells : Array Value} (hb : w.heap[g]? = some (.cells cells t (0,0))) (ht : e ≠ t) : some g ≠ v.ownBlock:=R_ne (S_R h) hb ht
theorem S_form (h : S d e w base ok v xs) (hp : 0 < xs.length) : ∃ g cap,v = .slice (some ⟨g,0,none⟩) xs.length cap ∧ base ≤ g ∧ g < w.heap.size ∧ ∃ cells,w.heap[g]? = some (.cells cells e (0,0)):=R_form (S_R h) hp
theorem S_slice (h : S d e w base ok v xs) : ∃ A c,v = .slice A xs.length c:=R_slice (S_R h)
theorem S_reads' {A : Option Addr} {n c : Nat} (h : S d e w base ok (.slice A n c) xs) : n = xs.length ∧ n ≤ c ∧ d.C w A xs.length xs:=R_reads' (S_R h)
theorem fq' (xs : List α) (p : α) : (xs ++ [p]).zipIdx = xs.zipIdx ++ [(p,xs.length)]:=by rw [List.zipIdx_append];simp
end
section
open Classical in
theorem S_tag {α : Type} {d : Kd α} {e base : Nat} {okv : Nat → Prop} {w : World} {v : Value} {xs : List α} (h : S d e w base okv v xs) (m : Nat) (okp : Nat → Prop) (hap : ∀ k,okp k → ¬ okv k) : ∃ f,(∀ k,okp k → f k = m) ∧ (tag f d).R e w base okv v xs.zipIdx:=by
  obtain ⟨f,h⟩:=h
  exact ⟨fun k=>if okp k then m else f k,fun k hk=>if_pos hk,R_tag h (fun k hk _=>if_neg (fun h2=>hap k h2 hk))⟩
variable {P : Program} {ops : Array Oper} {rest : List Oper} {o : Oper} {a : Act} {Q : Exit → Act → World → Prop} {Kc : Act → World → Prop} {α : Type}
theorem S_append (d : Kd α) {w0 W : World} (base : Nat) (hgd : o.guard = none) (s x : Operand) (t e : TypeId) (z : Value) (bytes : Nat)
    (ho : o.op = .call { callee:=.builtin .append,args:=#[s,x],argTypes:=#[t,t] })
    (ht : P.underlying t = some (.slice e)) (hinfo : (P.info? e).map (fun i=>(i.zero,i.size,i.bytes)) = some (some z,d.sz,bytes)) (hz : z.cells.size = d.sz) (hs0 : 0 < d.sz) (hb0 : 0 < bytes)
    (v : Value) (xs : List α) (p : α) (cs : List Value) (ok okp : Nat → Prop) (hs : a.eval s = v) (hx : a.eval x = .slice (some ⟨W.heap.size,0,none⟩) 1 1) (hp : d.M W base okp p cs) (hokp : ∀ k,okp k → ok k ∧ some k ≠ v.ownBlock) (hfresh : ∀ k,W.heap.size ≤ k → ok k)
    (HO : S d e W base (fun k=>ok k ∧ ¬ okp k) v xs) (HB : Below base w0 W) (hbase : base ≤ W.heap.size) (hl : (xs.length + 1) * bytes ≤ 140737488355328)
    (h : ∀ v1 w1,S d e w1 base ok v1 (xs ++ [p]) → Below base w0 w1 → W.grownBy w1 v.ownBlock → (v1.ownBlock = v.ownBlock ∨ ∃ b,v1.ownBlock = some b ∧ W.heap.size ≤ b) → wpList P ops Q rest (a.put o.dst v1) w1) :
    wpList P ops Q (o :: rest) a (W.alloc (.cells cs.toArray e)):=by
  obtain ⟨f,hf,hR⟩:=S_tag HO xs.length okp (fun _ hk h2=>h2.2 hk)
  refine R_append (tag f d) base hgd s x t e z bytes ho ht hinfo hz hs0 hb0 v xs.zipIdx (p,xs.length) cs ok okp hs hx (d.M_mono (fun k hk=>⟨hk,hf k hk⟩) hp) hokp hfresh (R_mono hR (fun _ hk=>hk.1)) HB hbase (by rw [List.length_zipIdx];exact hl) ?_
  intro v1 w1 hr
  rw [← fq'] at hr
  exact h v1 w1 ⟨f,hr⟩
end
def gap {α : Type} (f : Nat → Nat) (d : Kd α) (i : Nat) (c : List Value) : Kd (α × Nat) where
  sz:=d.sz
  E:=d.E
  K:=fun w x cs=>(x.2 = i → cs = c ∧ cs.length = d.sz ∧ ∀ u ∈ cs,u.oneCell' = true) ∧ (x.2 ≠ i → d.K w x.1 cs)
  M:=fun w base ok x cs=>(x.2 = i → cs = c ∧ cs.length = d.sz ∧ ∀ u ∈ cs,u.oneCell' = true) ∧ (x.2 ≠ i → d.M w base (fun k=>ok k ∧ f k = x.2) x.1 cs)
  K_len:=fun {w x cs} h=>by
    by_cases hx : x.2 = i
    · exact (h.1 hx).2.1
    · exact d.K_len (h.2 hx)
  K_one:=fun {w x cs} h=>by
    by_cases hx : x.2 = i
    · exact (h.1 hx).2.2
    · exact d.K_one (h.2 hx)
  K_below:=fun hb h=>⟨h.1,fun hx=>d.K_below hb (h.2 hx)⟩
  K_of_M:=fun h=>⟨h.1,fun hx=>d.K_of_M (h.2 hx)⟩
  M_mono:=fun hok h=>⟨h.1,fun hx=>d.M_mono (fun k hk=>⟨hok k hk.1,hk.2⟩) (h.2 hx)⟩
  M_bound:=fun h=>⟨h.1,fun hx=>d.M_mono (fun _ hk=>⟨⟨hk.1.1,hk.2⟩,hk.1.2⟩) (d.M_bound (h.2 hx))⟩
  M_move:=fun hm h=>⟨h.1,fun hx=>d.M_move (fun k hk=>hm k hk.1) (h.2 hx)⟩
  M_lower:=fun hb h=>⟨h.1,fun hx=>d.M_lower hb (h.2 hx)⟩
def H {α : Type} (d : Kd α) (e : Nat) (w : World) (base : Nat) (ok : Nat → Prop) (v : Value) (xs : List α) (i : Int) (oki : Nat → Prop) (c : List Value) : Prop :=
  (∀ k,oki k → ok k) ∧ ∃ f,(gap f d i.toNat c).R e w base (fun k=>ok k ∧ ¬ oki k) v xs.zipIdx
section
variable {α β : Type} {d : Kd α} {e e' g n cap : Nat} {w w1 W : World} {base : Nat} {ok ok' oki okp : Nat → Prop} {u v : Value} {xs : List α} {i : Int} {c : List Value}
theorem S_lend (h : S d e W base ok (.slice (some ⟨g,0,none⟩) n cap) xs) (z : α) (i : Int) (h0 : 0 ≤ i) (h1 : i < n) :
    ∃ (oki : Nat → Prop) (c : List Value),c.length = d.sz ∧ d.M W base oki (xs.getD i.toNat z) c ∧ (∀ j u,c[j]? = some u → W.cell? ⟨g,i.toNat * d.sz + j,none⟩ = some u) ∧ (∀ k,oki k → ok k ∧ k ≠ g) ∧ H d e W base ok (.slice (some ⟨g,0,none⟩) n cap) xs i oki c:=by
  obtain ⟨f,hR⟩:=h
  have hn:=(R_reads' hR).1
  rw [List.length_zipIdx] at hn
  have hgo : some g = (Value.slice (some ⟨g,0,none⟩) n cap).ownBlock:=by simp [Value.ownBlock]
  obtain ⟨hok0,inner,ho,hr⟩:=hR
  have hil : i.toNat < xs.length:=by omega
  have hlen : inner.length = xs.length * d.sz:=by have:=hr.1;rw [List.length_zipIdx] at this;exact this
  have hseg : i.toNat * d.sz + d.sz ≤ inner.length:=by rw [hlen,← Nat.succ_mul];exact Nat.mul_le_mul_right _ hil
  have hM:=hr.2 i.toNat _ (zip_at (List.getElem?_eq_getElem hil))
  have hkg : ∀ k,some k ≠ (Value.slice (some ⟨g,0,none⟩) n cap).ownBlock → k ≠ g:=fun k hk he=>hk (by rw [he];exact hgo)
  refine ⟨fun k=>(ok k ∧ k ≠ g) ∧ f k = i.toNat,(inner.drop (i.toNat * d.sz)).take d.sz,by rw [List.length_take,List.length_drop];omega,?_,fun j u hu=>?_,fun k hk=>hk.1,fun k hk=>hk.1.1,f,fun k hk=>⟨hok0 k hk,fun h2=>h2.1.2 ?_⟩,inner,ho,hr.1,fun m p hm=>?_⟩
  · rw [List.getD_eq_getElem?_getD,List.getElem?_eq_getElem hil]
    exact d.M_mono (fun k hk=>⟨⟨hk.1.1,hkg k hk.1.2⟩,hk.2⟩) hM
  · rw [List.getElem?_take] at hu
    split at hu
    · rw [List.getElem?_drop] at hu
      have:=ho.cells (g:=g) hgo.symm _ u hu
      rwa [jj'] at this
    · cases hu
  · rw [← hgo] at hk;injection hk with hk;exact hk.symm
  · have hold:=hr.2 m p hm
    have hp2 : p.2 = m:=by
      rw [List.getElem?_zipIdx,Nat.zero_add] at hm
      obtain ⟨q,_,rfl⟩:=Option.map_eq_some_iff.1 hm
      rfl
    refine ⟨fun hx=>?_,fun hx=>d.M_mono (fun k hk=>⟨⟨⟨hk.1.1,fun h2=>hx ?_⟩,hk.1.2⟩,hk.2⟩) hold⟩
    · have hmi : m = i.toNat:=by omega
      subst hmi
      exact ⟨rfl,d.K_len (d.K_of_M hM),d.K_one (d.K_of_M hM)⟩
    · rw [← hk.2];exact h2.2
open Classical in
theorem H_back (h : H d e w base ok v xs i oki c) {x' : α} (hM : d.M w base okp x' c) (hok : ∀ k,okp k → oki k) : S d e w base ok v (xs.set i.toNat x'):=by
  obtain ⟨ho,f,h0,inner,hown,hr⟩:=h
  refine ⟨fun k=>if oki k then i.toNat else f k,fun k hk=>(h0 k hk).1,inner,by rw [List.length_zipIdx,List.length_set];rw [List.length_zipIdx] at hown;exact hown,by have:=hr.1;rw [List.length_zipIdx] at this;rw [List.length_zipIdx,List.length_set];exact this,fun m p hm=>?_⟩
  rw [List.getElem?_zipIdx,Nat.zero_add] at hm
  obtain ⟨q,hq,rfl⟩:=Option.map_eq_some_iff.1 hm
  have hml : m < xs.length:=by
    have:=(List.getElem?_eq_some_iff.1 hq).1
    rwa [List.length_set] at this
  by_cases hmi : m = i.toNat
  · subst hmi
    rw [List.getElem?_set_self hml] at hq
    injection hq with hq
    subst hq
    have hc:=((hr.2 i.toNat _ (zip_at (List.getElem?_eq_getElem hml))).1 rfl).1
    show d.M w base _ x' ((inner.drop (i.toNat * d.sz)).take d.sz)
    rw [show (inner.drop (i.toNat * d.sz)).take d.sz = c from hc]
    exact d.M_mono (fun k hk=>⟨⟨ho k (hok k hk),fun he=>(h0 k he.symm).2 (hok k hk)⟩,if_pos (hok k hk)⟩) hM
  · rw [List.getElem?_set_ne (Ne.symm hmi)] at hq
    exact d.M_mono (fun k hk=>⟨⟨hk.1.1.1,hk.1.2⟩,(if_neg hk.1.1.2).trans hk.2⟩) ((hr.2 m (q,m) (zip_at hq)).2 hmi)
theorem H_widen (h : H d e w base ok v xs i oki c) : H d e w base ok v xs i (fun k=>oki k ∨ ok k ∧ w.heap.size ≤ k) c:=by
  obtain ⟨ho,f,h⟩:=h
  exact ⟨fun k hk=>hk.elim (ho k) (fun h2=>h2.1),f,R_mono (R_bound h) (fun k hk=>⟨hk.1.1,fun h2=>h2.elim hk.1.2 (fun h3=>by have:=hk.2.2.1;omega)⟩)⟩
theorem H_step (h : H d e w base ok v xs i oki c) (hm : ∀ k,ok k → ¬ oki k → k < w.heap.size → w1.heap[k]? = w.heap[k]?) : H d e w1 base ok v xs i oki c:=by
  obtain ⟨ho,f,h⟩:=h
  exact ⟨ho,f,R_step h (fun k hk hlt=>hm k hk.1 hk.2 hlt)⟩
theorem H_mono (h : H d e w base ok v xs i oki c) (hok : ∀ k,ok k → ok' k) : H d e w base ok' v xs i oki c:=by
  obtain ⟨ho,f,h⟩:=h
  exact ⟨fun k hk=>hok k (ho k hk),f,R_mono h (fun k hk=>⟨hok k hk.1,hk.2⟩)⟩
theorem H_more {okg : Nat → Prop} (h : H d e w base (fun k=>ok k ∧ ¬ okg k) v xs i oki c) (hg : ∀ k,okg k → ok k) : H d e w base ok v xs i (fun k=>oki k ∨ okg k) c:=by
  obtain ⟨ho,f,h⟩:=h
  exact ⟨fun k hk=>hk.elim (fun h2=>(ho k h2).1) (hg k),f,R_mono h (fun k hk=>⟨hk.1.1,fun h2=>h2.elim hk.2 hk.1.2⟩)⟩
theorem S_elem (h : S d e W base ok (.slice (some ⟨g,0,none⟩) n cap) xs) (z : α) (i : Int) (h0 : 0 ≤ i) (h1 : i < n) :
    ∃ (oki : Nat → Prop) (c : List Value),c.length = d.sz ∧ d.M W base oki (xs.getD i.toNat z) c ∧ (∀ j u,c[j]? = some u → W.cell? ⟨g,i.toNat * d.sz + j,none⟩ = some u) ∧ (∀ j,W.frozen? ⟨g,i.toNat * d.sz + j,none⟩ = false) ∧ (∀ k,oki k → ok k ∧ k ≠ g) ∧ H d e W base ok (.slice (some ⟨g,0,none⟩) n cap) xs i oki c:=by
  obtain ⟨_,_,_,_,hfr⟩:=R_elem (S_R h) z i h0 h1
  obtain ⟨oki,c,hcl,hM,hcc,hoki,hH⟩:=S_lend h z i h0 h1
  exact ⟨oki,c,hcl,hM,hcc,hfr,hoki,hH⟩
theorem H_raw (h : H d e W base ok (.slice (some ⟨g,0,none⟩) n cap) xs i oki c) (h0 : 0 ≤ i) (h1 : i < n) :
    ∃ rows : List (List Value),rows.length = xs.length ∧ (raw d.sz).R e W base (fun _=>True) (.slice (some ⟨g,0,none⟩) n cap) rows ∧ c.length = d.sz ∧ (∀ u ∈ c,u.oneCell' = true) ∧ (∀ j u,c[j]? = some u → W.cell? ⟨g,i.toNat * d.sz + j,none⟩ = some u) ∧
      ∀ w1 c',W.grownBy w1 (some g) → (raw d.sz).R e w1 base (fun _=>True) (.slice (some ⟨g,0,none⟩) n cap) (rows.set i.toNat c') → H d e w1 base ok (.slice (some ⟨g,0,none⟩) n cap) xs i oki c':=by
  obtain ⟨hoo,f,hR⟩:=h
  have hn:=(R_reads' hR).1
  rw [List.length_zipIdx] at hn
  have hgo : some g = (Value.slice (some ⟨g,0,none⟩) n cap).ownBlock:=by simp [Value.ownBlock]
  obtain ⟨hok0,inner,ho,hr⟩:=hR
  have hil : i.toNat < xs.length:=by omega
  have hlen : inner.length = xs.length * d.sz:=by have:=hr.1;rw [List.length_zipIdx] at this;exact this
  have hkg : ∀ k,some k ≠ (Value.slice (some ⟨g,0,none⟩) n cap).ownBlock → k ≠ g:=fun k hk he=>hk (by rw [he];exact hgo)
  have hci:=(hr.2 i.toNat _ (zip_at (List.getElem?_eq_getElem hil))).1 rfl
  rw [hci.1] at hci
  have hc:=((hr.2 i.toNat _ (zip_at (List.getElem?_eq_getElem hil))).1 rfl).1
  refine ⟨(List.range xs.length).map fun j=>(inner.drop (j * d.sz)).take d.sz,by rw [List.length_map,List.length_range],⟨fun _ _=>trivial,inner,?_,?_,fun j p hj=>?_⟩,hci.2.1,hci.2.2,fun j u hu=>?_,fun w1 c' hg hraw=>?_⟩
  · rw [List.length_map,List.length_range];rw [List.length_zipIdx] at ho;exact ho
  · rw [List.length_map,List.length_range];exact hlen
  · rw [List.getElem?_map] at hj
    obtain ⟨j',hj',rfl⟩:=Option.map_eq_some_iff.1 hj
    obtain ⟨hl,he⟩:=List.getElem?_eq_some_iff.1 hj'
    rw [List.getElem_range] at he
    subst he
    rw [List.length_range] at hl
    have hm:=(gap f d i.toNat c).K_of_M (hr.2 j _ (zip_at (List.getElem?_eq_getElem hl)))
    exact ⟨rfl,(gap f d i.toNat c).K_len hm,(gap f d i.toNat c).K_one hm⟩
  · rw [← hc,List.getElem?_take] at hu
    split at hu
    · rw [List.getElem?_drop] at hu
      have:=ho.cells (g:=g) hgo.symm _ u hu
      rwa [jj'] at this
    · cases hu
  · obtain ⟨_,inner',ho',hr'⟩:=hraw
    have hl' : inner'.length = xs.length * d.sz:=by have:=hr'.1;rw [List.length_set,List.length_map,List.length_range] at this;exact this
    rw [List.length_set,List.length_map,List.length_range] at ho'
    refine ⟨hoo,f,hok0,inner',by rw [List.length_zipIdx];exact ho',by rw [List.length_zipIdx];exact hl',fun m p hm=>?_⟩
    rw [List.getElem?_zipIdx,Nat.zero_add] at hm
    obtain ⟨q,hq,rfl⟩:=Option.map_eq_some_iff.1 hm
    have hml : m < xs.length:=(List.getElem?_eq_some_iff.1 hq).1
    have hold:=hr.2 m (q,m) (zip_at hq)
    refine ⟨fun hx=>?_,fun hx=>?_⟩
    · have hx' : m = i.toNat:=hx
      subst hx'
      exact hr'.2 i.toNat c' (List.getElem?_set_self (by rw [List.length_map,List.length_range];exact hml))
    · have hx' : m ≠ i.toNat:=hx
      have hcm:=(hr'.2 m ((inner.drop (m * d.sz)).take d.sz) (by
        rw [List.getElem?_set_ne (Ne.symm hx'),List.getElem?_map,List.getElem?_eq_getElem (by rw [List.length_range];exact hml),List.getElem_range]
        rfl)).1
      show d.M w1 base _ q ((inner'.drop (m * d.sz)).take d.sz)
      rw [show (inner'.drop (m * d.sz)).take d.sz = _ from hcm]
      exact d.M_mono (fun k hk=>hk.1) (d.M_move (w1:=w1) (fun k hk=>hg.block k hk.2.2.1 (fun he=>hkg k hk.1.1.2 (by injection he))) (d.M_bound (hold.2 hx)))
theorem H_seg (h : H d e W base ok (.slice (some ⟨g,0,none⟩) n cap) xs i oki c) (h0 : 0 ≤ i) (h1 : i < n) {seg : List Value} {j : Nat} (hj : j + seg.length ≤ d.sz) (hone : ∀ q ∈ seg,q.oneCell' = true) :
    H d e (W.setCells g (i.toNat * d.sz + j) seg) base ok (.slice (some ⟨g,0,none⟩) n cap) xs i oki (c.take j ++ seg ++ c.drop (j + seg.length)) ∧ W.grownBy (W.setCells g (i.toNat * d.sz + j) seg) (some g):=by
  obtain ⟨rows,_,hraw,hcl,hco,hcc,hback⟩:=H_raw h h0 h1
  obtain ⟨h2,h3⟩:=R_seg hraw i h0 h1 (c:=c) (seg:=seg) (j:=j) (x':=c.take j ++ seg ++ c.drop (j + seg.length)) (okp:=fun _=>False) hcl hcc hj
    ⟨rfl,by
      show (c.take j ++ seg ++ c.drop (j + seg.length)).length = d.sz
      simp only [List.length_append,List.length_take,List.length_drop];omega,fun u hu=>by
      rcases List.mem_append.1 hu with hu|hu
      · rcases List.mem_append.1 hu with hu|hu
        · exact hco u (List.mem_of_mem_take hu)
        · exact hone u hu
      · exact hco u (List.mem_of_mem_drop hu)⟩ (fun _ hk=>hk.elim)
  exact ⟨hback _ _ h3 h2,h3⟩
theorem S_seg {okg : Nat → Prop} (hH : H d e W base (fun k=>ok k ∧ ¬ okg k) (.slice (some ⟨g,0,none⟩) n cap) xs i oki c) (h0 : 0 ≤ i) (h1 : i < n) {seg : List Value} {j : Nat} (hj : j + seg.length ≤ d.sz)
    {x' : α} (hM : d.M W base okp x' (c.take j ++ seg ++ c.drop (j + seg.length))) (hokp : ∀ k,okp k → oki k ∨ okg k) (hg : ∀ k,okg k → ok k ∧ k ≠ g) :
    S d e (W.setCells g (i.toNat * d.sz + j) seg) base ok (.slice (some ⟨g,0,none⟩) n cap) (xs.set i.toNat x') ∧ W.grownBy (W.setCells g (i.toNat * d.sz + j) seg) (some g):=by
  have hne : ∀ k,oki k ∨ okg k → k ≠ g:=by
    intro k hk he
    subst he
    rcases hk with hk|hk
    · obtain ⟨_,f,hR⟩:=hH
      exact (hR.1 k (by simp [Value.ownBlock])).2 hk
    · exact (hg k hk).2 rfl
  obtain ⟨h2,h3⟩:=H_seg (H_more hH (fun k hk=>(hg k hk).1)) h0 h1 hj (fun q hq=>d.K_one (d.K_of_M hM) q (List.mem_append_left _ (List.mem_append_right _ hq)))
  exact ⟨H_back h2 (M_step hM (fun k hk hlt=>h3.block k hlt (fun he=>hne k (hokp k hk) (by injection he)))) hokp,h3⟩
end
section
variable {P : Program} {ops : Array Oper} {rest : List Oper} {o : Oper} {a : Act} {Q : Exit → Act → World → Prop} {α : Type}
end
end Kd
end Go.Proofs.YtnffimpoekjkpaaGreatW.PrintWords
end
section
namespace Go.Proofs.YtnffimpoekjkpaaGreatW.PrintWords
open Go.RowKit
namespace Kd
section
variable {α : Type} {n : Nat} {d : Kd α} {hs : 0 < d.sz} {w : World} {base : Nat} {ok : Nat → Prop} {xs : List α} {cs : List Value}
end
section
variable {α : Type} {n : Nat} {enc : α → Value} {h1 : ∀ x, (enc x).oneCell' = true} {hs : 0 < (Ye' enc h1).sz} {w : World} {base : Nat} {ok : Nat → Prop} {xs : List α} {cs : List Value}
end
end Kd
end Go.Proofs.YtnffimpoekjkpaaGreatW.PrintWords
end
section
namespace Go.Proofs.YtnffimpoekjkpaaGreatW.PrintWords
open Go.RowKit
section
variable {P : Program}
end
namespace Kd
section
variable {P : Program} {ops : Array Oper} {rest : List Oper} {o : Oper} {a : Act} {Q : Exit → Act → World → Prop} {Kc : Act → World → Prop} {α : Type}
end
section
variable {α : Type} {d : Kd α} {e : Nat} {w : World} {base : Nat} {ok : Nat → Prop} {v : Value} {xs : List α}
end
section
variable {P : Program} {ops : Array Oper} {rest : List Oper} {o : Oper} {a : Act} {Q : Exit → Act → World → Prop} {Kc : Act → World → Prop} {α : Type}
end
end Kd
end Go.Proofs.YtnffimpoekjkpaaGreatW.PrintWords
end
section
namespace Go.Proofs.YtnffimpoekjkpaaGreatW.PrintWords
open Go.RowKit
namespace Kd
structure Heap {α : Type} (d : Kd α) : Prop where
  K : ∀ {w w1 : World} {x : α} {cs : List Value},(∀ k,k < w.heap.size → w1.heap[k]? = w.heap[k]?) → d.K w x cs → d.K w1 x cs
section
variable {α : Type} {d : Kd α} {e base g n c : Nat} {ok : Nat → Prop} {w w0 W : World} {A : Option Addr} {xs : List α}
theorem C_foot_own (h : d.R e W base ok (.slice A n c) xs) (hok : ∀ k,ok k → k ≠ g) : ∀ W',ce' W W' g none → d.C W' A n xs:=fun W' hk=>by
  have h2:=R_reads' (R_keep h hk hok)
  rw [h2.1]
  exact h2.2.2
end
end Kd
end Go.Proofs.YtnffimpoekjkpaaGreatW.PrintWords
end
section
namespace Go.Proofs.YtnffimpoekjkpaaGreatW.PrintWords
open Go.RowKit
def oe' (w W : World) (S : Nat → Prop) : Prop:=w.heap.size ≤ W.heap.size ∧ ∀ i,i < w.heap.size → ¬ S i → W.heap[i]? = w.heap[i]?
section
variable {w W W2 : World} {S S2 S' : Nat → Prop}
theorem oe'.refl (w : World) (S : Nat → Prop) : oe' w w S:=⟨Nat.le_refl _,fun _ _ _=>rfl⟩
theorem oe'.of_below (h : Below w.heap.size w W) (S : Nat → Prop) : oe' w W S:=⟨h.size,fun i hi _=>h.block i hi⟩
theorem oe'.mono (h : oe' w W S) (hs : ∀ k,S k → S' k) : oe' w W S':=⟨h.1,fun i hi hn=>h.2 i hi (fun hk=>hn (hs i hk))⟩
theorem oe'.then_ (h : oe' w W S) (k : oe' W W2 S2) (hs : ∀ k,S2 k → S k ∨ w.heap.size ≤ k) : oe' w W2 S :=
  ⟨Nat.le_trans h.1 k.1,fun i hi hn=>(k.2 i (Nat.lt_of_lt_of_le hi h.1) (fun h2=>(hs i h2).elim hn (fun h3=>by omega))).trans (h.2 i hi hn)⟩
theorem oe'.setCell (h : oe' w W S) {p : Addr} (hp : S p.block ∨ w.heap.size ≤ p.block) (u : Value) : oe' w (W.setCell p u) S :=
  h.then_ (S2:=fun k=>k = p.block) ⟨by simp [World.setCell],fun i _ hn=>Below.heap_setCell W p u i hn⟩ (fun k hk=>by rw [hk];exact hp)
theorem Xf' {g : Nat} {o : Obj} (hb : W.heap[g]? = some o) (hk : oe' W W2 S) (hne : ¬ S g) : W2.heap[g]? = some o:=(hk.2 g (ke' hb) hne).trans hb
end
namespace Kd
section
variable {α : Type} {d : Kd α} {e base n c : Nat} {ok oki S S2 : Nat → Prop} {w w0 W W1 W2 : World} {v : Value} {A : Option Addr} {xs : List α} {i : Int} {cs : List Value}
theorem R_kept (h : d.R e W base ok v xs) (hk : oe' W W2 S) (hne : ∀ k,ok k → ¬ S k) : d.R e W2 base ok v xs:=R_step h (fun k ho hlt=>hk.2 k hlt (hne k ho))
theorem S_kept (h : Kd.S d e W base ok v xs) (hk : oe' W W2 S) (hne : ∀ k,ok k → ¬ S k) : Kd.S d e W2 base ok v xs:=S_step h (fun k ho hlt=>hk.2 k hlt (hne k ho))
theorem H_kept (h : Kd.H d e W base ok v xs i oki cs) (hk : oe' W W2 S) (hne : ∀ k,ok k → ¬ oki k → ¬ S k) : Kd.H d e W2 base ok v xs i oki cs:=H_step h (fun k ho hn hlt=>hk.2 k hlt (hne k ho hn))
end
end Kd
end Go.Proofs.YtnffimpoekjkpaaGreatW.PrintWords
end
section
namespace Go.Proofs.YtnffimpoekjkpaaGreatW.PrintWords
open Go.RowKit
def Foot (P : World → Prop) (W : World) (ok : Nat → Prop) : Prop:=∀ W' : World,(∀ k,ok k → k < W.heap.size → W'.heap[k]? = W.heap[k]?) → P W'
theorem heap_lt {W W1 : World} {k : Nat} (h : W1.heap[k]? = W.heap[k]?) (hlt : k < W.heap.size) : k < W1.heap.size:=by
  rw [Array.getElem?_eq_getElem hlt] at h
  exact (Array.getElem?_eq_some_iff.1 h).1
namespace Foot
variable {P Q : World → Prop} {W W1 : World} {ok ok' : Nat → Prop}
theorem now (h : Foot P W ok) : P W:=h W (fun _ _ _=>rfl)
theorem mono (h : Foot P W ok) (hok : ∀ k,ok k → ok' k) : Foot P W ok':=fun W' hW=>h W' (fun k hk hlt=>hW k (hok k hk) hlt)
theorem bound (h : Foot P W ok) : Foot P W (fun k=>ok k ∧ k < W.heap.size):=fun W' hW=>h W' (fun k hk hlt=>hW k ⟨hk,hlt⟩ hlt)
theorem step (h : Foot P W ok) (hm : ∀ k,ok k → k < W.heap.size → W1.heap[k]? = W.heap[k]?) : Foot P W1 ok:=fun W' hW=>h W' (fun k hk hlt=>(hW k hk (heap_lt (hm k hk hlt) hlt)).trans (hm k hk hlt))
theorem imp (h : Foot P W ok) (hi : ∀ W',P W' → Q W') : Foot Q W ok:=fun W' hW=>hi W' (h W' hW)
theorem old (h : Foot P W ok) (hb : Below W.heap.size W W1) : Foot P W1 (fun k=>ok k ∧ k < W.heap.size):=(h.bound).step (fun k _ hlt=>hb.block k hlt)
end Foot
namespace Kd
def F {α : Type} (d : Kd α) (W : World) (ok : Nat → Prop) (A : Option Addr) (n : Nat) (xs : List α) : Prop:=Foot (fun W=>d.C W A n xs) W ok
def FK {α : Type} (d : Kd α) (W : World) (ok : Nat → Prop) (x : α) (c : List Value) : Prop:=Foot (fun W=>d.K W x c) W ok
section
variable {α β : Type} {d : Kd α} {e base n n' cc g N : Nat} {ok ok' okp S : Nat → Prop} {w w0 w1 W W1 : World} {A A' : Option Addr} {u v v1 : Value} {xs : List α} {xs' : List β} {d' : Kd β} {x : α} {c : List Value}
theorem F_now (h : F d W ok A n xs) : d.C W A n xs:=Foot.now h
theorem F_mono (h : F d W ok A n xs) (hok : ∀ k,ok k → ok' k) : F d W ok' A n xs:=Foot.mono h hok
theorem F_bound (h : F d W ok A n xs) : F d W (fun k=>ok k ∧ k < W.heap.size) A n xs:=Foot.bound h
theorem F_step (h : F d W ok A n xs) (hm : ∀ k,ok k → k < W.heap.size → W1.heap[k]? = W.heap[k]?) : F d W1 ok A n xs:=Foot.step h hm
theorem F_imp (h : F d W ok A n xs) (hi : ∀ W',d.C W' A n xs → d'.C W' A' n' xs') : F d' W ok A' n' xs':=Foot.imp h hi
theorem F_below (h : F d W ok A n xs) (hb : Below W.heap.size W W1) : F d W1 ok A n xs:=F_step h (fun k _ hlt=>hb.block k hlt)
theorem R_F (h : d.R e W base ok (.slice A n cc) xs) : F d W ok A n xs:=fun W' hW=>by
  have h2:=R_reads' (R_step h hW)
  rw [h2.1]
  exact h2.2.2
theorem nj' (h : FK d W ok x c) : d.K W x c:=Foot.now h
theorem ml' (h : FK d W ok x c) (hok : ∀ k,ok k → ok' k) : FK d W ok' x c:=Foot.mono h hok
theorem ym' (h : FK d W ok x c) : FK d W (fun k=>ok k ∧ k < W.heap.size) x c:=Foot.bound h
theorem Sn' (h : FK d W ok x c) (hm : ∀ k,ok k → k < W.heap.size → W1.heap[k]? = W.heap[k]?) : FK d W1 ok x c:=Foot.step h hm
theorem FK_of_M (h : d.M W base ok x c) : FK d W ok x c:=fun _ hW=>d.K_of_M (M_step h hW)
theorem emptied (W : World) (g : Nat) : ∃ W' : World,(∀ k,k ≠ g → W'.heap[k]? = W.heap[k]?) ∧ ∀ a : Addr,a.block = g → W'.cell? a = none:=by
  refine ⟨{ W with heap:=W.heap.setIfInBounds g (.cells #[] 0) },fun k hk=>by simp [Ne.symm hk],fun a ha=>?_⟩
  subst ha
  by_cases hlt : a.block < W.heap.size
  · simp [World.cell?,hlt]
  · simp [World.cell?,hlt]
end
end Kd
end Go.Proofs.YtnffimpoekjkpaaGreatW.PrintWords
end
section
namespace Go.Proofs.YtnffimpoekjkpaaGreatW.PrintWords
open Go.RowKit
namespace Kd
def vh' (sz : Nat) (n : Nat) (inner : List Value) : List (List Value):=(List.range n).map fun j=>(inner.drop (j * sz)).take sz
theorem df' (sz n : Nat) (inner : List Value) : (vh' sz n inner).length = n:=by simp [vh']
theorem Yo' {sz n : Nat} {inner : List Value} {j : Nat} (hj : j < n) : (vh' sz n inner)[j]? = some ((inner.drop (j * sz)).take sz):=by simp [vh',hj]
theorem Kh' {sz n : Nat} {inner : List Value} {j : Nat} {c : List Value} (h : (vh' sz n inner)[j]? = some c) : c = (inner.drop (j * sz)).take sz:=by
  have hj : j < n:=by have:=(List.getElem?_eq_some_iff.1 h).1;rwa [df'] at this
  rw [Yo' hj] at h
  injection h with h
  exact h.symm
theorem gq' {α : Type} {Rr : α → List Value → Prop} {sz : Nat} {xs : List α} {inner : List Value} (h : ef' Rr sz xs inner) (hR : ∀ x c,Rr x c → c.length = sz ∧ ∀ u ∈ c,u.oneCell' = true) : ef' (fun x cs=>cs = x ∧ cs.length = sz ∧ ∀ u ∈ cs,u.oneCell' = true) sz (vh' sz xs.length inner) inner:=by
  refine ⟨by rw [df'];exact h.1,fun j p hj=>?_⟩
  have hjl : j < xs.length:=by have:=(List.getElem?_eq_some_iff.1 hj).1;rwa [df'] at this
  have hp:=Kh' hj
  exact ⟨hp.symm,hR _ _ (h.2 j _ (List.getElem?_eq_getElem hjl))⟩
section
variable {α : Type} {d : Kd α} {e base n cc g : Nat} {ok ok' okp S : Nat → Prop} {w w1 W W1 : World} {A : Option Addr} {u v v1 : Value} {xs : List α} {x : α} {c : List Value}
theorem F_get (h : F d W ok A n xs) (z : α) (i : Int) (h0 : 0 ≤ i) (h1 : i < n) :
    ∃ ad c,A = some ad ∧ c.length = d.sz ∧ FK d W ok (xs.getD i.toNat z) c ∧ (∀ j u,c[j]? = some u → W.cell? (ad.add (i.toNat * d.sz + j)) = some u) ∧ (0 < d.sz → ok ad.block):=by
  obtain ⟨ad,c,rfl,hcl,hK,hcc⟩:=C_get (F_now h) z i h0 h1
  have hin : 0 < d.sz → ok ad.block:=by
    intro hs
    by_cases hk : ok ad.block
    · exact hk
    · obtain ⟨W',h2,h3⟩:=emptied W ad.block
      obtain ⟨ad',c',he,hcl',_,hcc'⟩:=C_get (h W' (fun k hk' _=>h2 k (fun e=>hk (e ▸ hk')))) z i h0 h1
      injection he with he
      subst he
      have h4:=hcc' 0 _ (List.getElem?_eq_getElem (by omega))
      rw [h3 _ (qw _ _)] at h4
      cases h4
  refine ⟨ad,c,rfl,hcl,fun W' hW=>?_,hcc,hin⟩
  obtain ⟨ad',c',he,hcl',hK',hcc'⟩:=C_get (h W' hW) z i h0 h1
  injection he with he
  subst he
  have hc : c = c':=by
    apply List.ext_getElem?
    intro j
    by_cases hj : j < d.sz
    · have hb : W'.heap[ad.block]? = W.heap[ad.block]?:=by
        have h5:=hcc j _ (List.getElem?_eq_getElem (by omega))
        have h6:=World.block_lt_of_cell? W _ h5
        rw [qw] at h6
        exact hW _ (hin (by omega)) h6
      have h5:=hcc j _ (List.getElem?_eq_getElem (by omega))
      have h6:=hcc' j _ (List.getElem?_eq_getElem (by omega))
      have h7 : W'.cell? (ad.add (i.toNat * d.sz + j)) = W.cell? (ad.add (i.toNat * d.sz + j)):=by simp [World.cell?,qw,hb]
      rw [h7,h5] at h6
      rw [List.getElem?_eq_getElem (by omega),List.getElem?_eq_getElem (by omega)]
      exact h6
    · rw [List.getElem?_eq_none (by omega),List.getElem?_eq_none (by omega)]
  rw [hc]
  exact hK'
theorem F_rows (h : F d W ok A n xs) : Ke' (fun x c=>FK d W ok x c) d.sz W A n xs:=by
  obtain ⟨hl,hm,hn⟩:=F_now h
  refine ⟨hl,hm,fun hp=>?_⟩
  obtain ⟨ad,rfl,_⟩:=hn hp
  refine ⟨ad,rfl,fun j p hj=>?_⟩
  obtain ⟨hjl,hjp⟩:=List.getElem?_eq_some_iff.1 hj
  obtain ⟨ad',c,he,hcl,hK,hcc,_⟩:=F_get h p (j : Int) (by omega) (by omega)
  injection he with he
  subst he
  simp only [Int.toNat_natCast] at hK hcc
  rw [List.getD_eq_getElem?_getD,hj] at hK
  exact ⟨c,hcl,hK,hcc⟩
def N {α : Type} (d : Kd α) (e : Nat) (w : World) (base : Nat) (ok : Nat → Prop) (v : Value) (xs : List α) : Prop :=
  (∀ k,v.ownBlock = some k → ok k) ∧ ∃ rows : List (List Value),rows.length = xs.length ∧ (raw d.sz).R e w base (fun k=>some k = v.ownBlock) v rows ∧ ∀ (j : Nat) (x : α) (c : List Value),xs[j]? = some x → rows[j]? = some c → FK d w (fun k=>ok k ∧ some k ≠ v.ownBlock) x c
theorem Zo' {sz : Nat} {rows : List (List Value)} (h : (raw sz).R e w base ok v rows) : (raw sz).R e w base (fun k=>some k = v.ownBlock) v rows:=R_tight rfl h
theorem Tn' {sz : Nat} {rows : List (List Value)} (h : (raw sz).R e w base ok v rows) : (raw sz).R e w base (fun _=>True) v rows:=R_mono h (fun _ _=>trivial)
theorem R_N (h : d.R e w base ok v xs) : N d e w base ok v xs:=by
  obtain ⟨h0,inner,ho,hr⟩:=h
  refine ⟨h0,vh' d.sz xs.length inner,df' _ _ _,⟨fun k hk=>hk.symm,inner,by rw [df'];exact ho,gq' hr (fun x c hp=>⟨d.K_len (d.K_of_M hp),d.K_one (d.K_of_M hp)⟩)⟩,fun j x c hx hc=>?_⟩
  rw [Kh' hc]
  exact FK_of_M (hr.2 j x hx)
theorem N_nil (d : Kd α) (e : Nat) (w : World) (base : Nat) (ok : Nat → Prop) : N d e w base ok (.slice none 0 0) []:=R_N (R_nil _ _ _ _ _)
theorem N_mono (h : N d e w base ok v xs) (hok : ∀ k,ok k → ok' k) : N d e w base ok' v xs:=by
  obtain ⟨h0,rows,hl,hR,hf⟩:=h
  exact ⟨fun k hk=>hok k (h0 k hk),rows,hl,hR,fun j x c hx hc=>ml' (hf j x c hx hc) (fun k hk=>⟨hok k hk.1,hk.2⟩)⟩
theorem N_lt (h : N d e w base ok v xs) : ∀ k,v.ownBlock = some k → k < w.heap.size:=by
  obtain ⟨_,rows,_,hR,_⟩:=h
  exact R_lt hR
theorem N_base (h : N d e w base ok v xs) : ∀ k,v.ownBlock = some k → base ≤ k:=by
  obtain ⟨_,rows,_,hR,_⟩:=h
  exact R_base hR
theorem N_bound (h : N d e w base ok v xs) : N d e w base (fun k=>ok k ∧ k < w.heap.size) v xs:=by
  have hlt:=N_lt h
  obtain ⟨h0,rows,hl,hR,hf⟩:=h
  exact ⟨fun k hk=>⟨h0 k hk,hlt k hk⟩,rows,hl,hR,fun j x c hx hc=>ml' (ym' (hf j x c hx hc)) (fun k hk=>⟨⟨hk.1.1,hk.2⟩,hk.1.2⟩)⟩
theorem N_lower {base' : Nat} (h : N d e w base ok v xs) (hb : base' ≤ base) : N d e w base' ok v xs:=by
  obtain ⟨h0,rows,hl,hR,hf⟩:=h
  exact ⟨h0,rows,hl,R_lower hR hb,hf⟩
theorem N_step (h : N d e w base ok v xs) (hm : ∀ k,ok k → k < w.heap.size → w1.heap[k]? = w.heap[k]?) : N d e w1 base ok v xs:=by
  obtain ⟨h0,rows,hl,hR,hf⟩:=h
  exact ⟨h0,rows,hl,R_step hR (fun k hk hlt=>hm k (h0 k hk.symm) hlt),fun j x c hx hc=>Sn' (hf j x c hx hc) (fun k hk hlt=>hm k hk.1 hlt)⟩
theorem N_below (h : N d e w base ok v xs) (hb : Below w.heap.size w w1) : N d e w1 base ok v xs:=N_step h (fun k _ hk=>hb.block k hk)
theorem N_drew (h : N d e w base ok v xs) : N d e w.drew base ok v xs:=N_below h (Mi' (Below.refl _ _))
theorem N_far (h : N d e w base ok v xs) {p : Addr} (hok : ∀ k,ok k → k ≠ p.block) (u : Value) : N d e (w.setCell p u) base ok v xs:=N_step h (fun k ho _=>Below.heap_setCell w p u k (hok k ho))
theorem N_kept (h : N d e w base ok v xs) (hk : oe' w w1 S) (hok : ∀ k,ok k → ¬ S k) : N d e w1 base ok v xs:=N_step h (fun k ho hlt=>hk.2 k hlt (hok k ho))
theorem N_slice (h : N d e w base ok v xs) : ∃ A c,v = .slice A xs.length c:=by
  obtain ⟨_,rows,hl,hR,_⟩:=h
  obtain ⟨A,c,he⟩:=R_slice hR
  exact ⟨A,c,by rw [he,hl]⟩
theorem N_reads' {n c : Nat} (h : N d e w base ok (.slice A n c) xs) : n = xs.length ∧ n ≤ c ∧ d.C w A xs.length xs:=by
  obtain ⟨_,rows,hl,hR,hf⟩:=h
  obtain ⟨hn,hc,hC⟩:=R_reads' hR
  refine ⟨by omega,hc,?_⟩
  rw [hl] at hC
  refine ⟨rfl,hC.2.1,fun hp=>?_⟩
  obtain ⟨ad,he,hcell⟩:=hC.2.2 hp
  refine ⟨ad,he,fun j p hj=>?_⟩
  have hjl : j < rows.length:=by have:=(List.getElem?_eq_some_iff.1 hj).1;omega
  obtain ⟨c',hcl,hK,hcc⟩:=hcell j _ (List.getElem?_eq_getElem hjl)
  have hk:=nj' (hf j p _ hj (List.getElem?_eq_getElem hjl))
  refine ⟨c',hcl,?_,hcc⟩
  rw [show c' = rows[j] from hK.1]
  exact hk
theorem N_F {n : Nat} (h : N d e w base ok (.slice A n cc) xs) : F d w ok A n xs:=fun W' hW=>by
  have h2:=N_reads' (N_step h hW)
  rw [h2.1]
  exact h2.2.2
end
end Kd
end Go.Proofs.YtnffimpoekjkpaaGreatW.PrintWords
end
section
namespace Go.Proofs.YtnffimpoekjkpaaGreatW.PrintWords
open Go.RowKit
namespace Kd
section
variable {α : Type} {d : Kd α} {W : World} {g n : Nat} {S ok : Nat → Prop} {A : Option Addr} {ad : Addr} {xs : List α}
end
end Kd
end Go.Proofs.YtnffimpoekjkpaaGreatW.PrintWords
end
section
namespace Go.Proofs.YtnffimpoekjkpaaGreatW.PrintWords
open Go.RowKit
section
variable {w w' u : World} {m B g : Nat} {o : Obj} {row : Option Nat} {S : Nat → Prop} {a : Addr} {v : Value}
end
namespace Kd
section
variable {α : Type} {d : Kd α} {e base n m : Nat} {ok : Nat → Prop} {w w' : World} {v : Value} {A : Option Addr} {xs : List α}
end
end Kd
end Go.Proofs.YtnffimpoekjkpaaGreatW.PrintWords
end
section
namespace Go.Proofs.YtnffimpoekjkpaaGreatW.PrintWords
open Go.RowKit
section
variable {P : Program} {d : Nat} {xs ys : Array Value} {f : Field} {fs : List Field} {a b : Value} {r s : Bool} {w : World}
end
end Go.Proofs.YtnffimpoekjkpaaGreatW.PrintWords
end
section
namespace Go.Proofs.YtnffimpoekjkpaaGreatW.PrintWords
end Go.Proofs.YtnffimpoekjkpaaGreatW.PrintWords
end
section
namespace Go.Proofs.YtnffimpoekjkpaaGreatW.PrintLast
def up (b : Nat → Bool) (i : Nat) : Nat → Bool:=fun j=>if j = i then true else b j
section
variable {P : Program} {ops : Array Oper} {Q : Exit → Act → World → Prop} {md : Region.Mode} {T : Bool × List (List Nat × List Nat)} {B : List Nat} {O : List Nat} {b : Nat → Bool} {i j n : Nat}
end
end Go.Proofs.YtnffimpoekjkpaaGreatW.PrintLast
end
section
namespace Go.Proofs.YtnffimpoekjkpaaGreatW.PrintWords
open Go.RowKit
end Go.Proofs.YtnffimpoekjkpaaGreatW.PrintWords
namespace Go.Proofs.YtnffimpoekjkpaaGreatW.PrintLast
section
variable {ops : Array Oper} {a : Act} {o og : Oper} {g : Nat} {t : Tmp} {u : Bool}
end
end Go.Proofs.YtnffimpoekjkpaaGreatW.PrintLast
end
section
namespace Go.Proofs.YtnffimpoekjkpaaGreatW.PrintWords
open Go.RowKit
section
variable {P : Program} {ops : Array Oper} {rest : List Oper} {o : Oper} {a : Act} {Q : Exit → Act → World → Prop} {W : World}
end
end Go.Proofs.YtnffimpoekjkpaaGreatW.PrintWords
end
section
namespace Go.Proofs.YtnffimpoekjkpaaGreatW.PrintWords
open Go.RowKit
namespace Kd
section
variable {α : Type} {d : Kd α} {e base n cap g : Nat} {ok ok' okp : Nat → Prop} {w w1 W : World} {v v1 : Value} {xs ys : List α}
theorem Dk' {rows news : List (List Value)} (h0 : ∀ k,v.ownBlock = some k → ok k) (hl : rows.length = xs.length) (hf : ∀ (j : Nat) (x : α) (c : List Value),xs[j]? = some x → rows[j]? = some c → FK d W (fun k=>ok k ∧ some k ≠ v.ownBlock) x c)
    (hl2 : news.length = ys.length) (hf2 : ∀ (j : Nat) (x : α) (c : List Value),ys[j]? = some x → news[j]? = some c → FK d W okp x c) (hokp : ∀ k,okp k → ok k ∧ some k ≠ v.ownBlock) (hfresh : ∀ k,W.heap.size ≤ k → ok k)
    (hR : (raw d.sz).R e w1 base (fun _=>True) v1 (rows ++ news)) (hg : W.grownBy w1 v.ownBlock) (hat : v1.ownBlock = v.ownBlock ∨ ∃ b,v1.ownBlock = some b ∧ W.heap.size ≤ b) : N d e w1 base ok v1 (xs ++ ys):=by
  have hne : ∀ k,some k ≠ v.ownBlock → k < W.heap.size → some k ≠ v1.ownBlock:=by
    intro k hk hlt
    rcases hat with hat|⟨b,hb,hle⟩
    · rw [hat];exact hk
    · rw [hb]
      intro he
      injection he with he
      omega
  have step : ∀ {x : α} {c : List Value} {o : Nat → Prop},FK d W o x c → (∀ k,o k → ok k ∧ some k ≠ v.ownBlock) → FK d w1 (fun k=>ok k ∧ some k ≠ v1.ownBlock) x c:=by
    intro x c o hq ho
    exact ml' (Sn' (ym' hq) (fun k hk hlt=>hg.block k hlt (ho k hk.1).2)) (fun k hk=>⟨(ho k hk.1).1,hne k (ho k hk.1).2 hk.2⟩)
  refine ⟨fun k hk=>?_,rows ++ news,by rw [List.length_append,List.length_append,hl,hl2],Zo' hR,fun j x c hx hc=>?_⟩
  · rcases hat with hat|⟨b,hb,hle⟩
    · exact h0 k (hat ▸ hk)
    · rw [hb] at hk
      injection hk with hk
      exact hfresh k (by omega)
  · rcases Nat.lt_or_ge j xs.length with hlt|hge
    · rw [List.getElem?_append_left hlt] at hx
      rw [List.getElem?_append_left (by omega)] at hc
      exact step (hf j x c hx hc) (fun _ hk=>hk)
    · rw [List.getElem?_append_right hge] at hx
      rw [List.getElem?_append_right (by omega),hl] at hc
      exact step (hf2 _ x c hx hc) hokp
theorem FK_raw {x : α} {c : List Value} (h : FK d W ok x c) : c = c ∧ c.length = d.sz ∧ ∀ u ∈ c,u.oneCell' = true:=⟨rfl,d.K_len (nj' h),d.K_one (nj' h)⟩
theorem ap' {Rr : α → List Value → Prop} {sz m : Nat} {A : Option Addr} (h : Ke' Rr sz W A m ys) (hR : ∀ x c,Rr x c → c.length = sz ∧ ∀ u ∈ c,u.oneCell' = true) :
    ∃ news : List (List Value),news.length = ys.length ∧ Ke' (fun x cs=>cs = x ∧ cs.length = sz ∧ ∀ u ∈ cs,u.oneCell' = true) sz W A m news ∧ ∀ (j : Nat) (x : α) (c : List Value),ys[j]? = some x → news[j]? = some c → Rr x c:=by
  rcases Nat.eq_zero_or_pos m with h0|hp
  · have hy : ys = []:=List.eq_nil_of_length_eq_zero (h.1.trans h0)
    subst hy
    exact ⟨[],rfl,⟨h0 ▸ rfl,h.2.1,fun hp=>by omega⟩,fun j x c hx=>by simp at hx⟩
  · obtain ⟨ad,rfl,_⟩:=h.2.2 hp
    obtain ⟨inner,hr,hc⟩:=Ke'.inner_ h
    refine ⟨vh' sz ys.length inner,df' _ _ _,⟨by rw [df'];exact h.1,h.2.1,fun _=>⟨ad,rfl,fun j p hj=>?_⟩⟩,fun j x c hx hcc=>?_⟩
    · have hjl : j < ys.length:=by have:=(List.getElem?_eq_some_iff.1 hj).1;rwa [df'] at this
      have hpe:=Kh' hj
      have hq:=hR _ _ (hr.2 j _ (List.getElem?_eq_getElem hjl))
      rw [← hpe] at hq
      refine ⟨p,hq.1,⟨rfl,hq⟩,fun i u hu=>?_⟩
      have hu2 : inner[j * sz + i]? = some u:=by
        rw [hpe,List.getElem?_take] at hu
        split at hu
        · rw [List.getElem?_drop] at hu
          exact hu
        · cases hu
      exact hc _ u hu2
    · rw [Kh' hcc]
      exact hr.2 j x hx
end
section
variable {P : Program} {ops : Array Oper} {rest : List Oper} {o : Oper} {a : Act} {Q : Exit → Act → World → Prop} {Kc : Act → World → Prop} {α : Type}
theorem N_append (d : Kd α) {w0 W : World} (base : Nat) (hgd : o.guard = none) (s x : Operand) (t e : TypeId) (z : Value) (bytes : Nat)
    (ho : o.op = .call { callee:=.builtin .append,args:=#[s,x],argTypes:=#[t,t] })
    (ht : P.underlying t = some (.slice e)) (hinfo : (P.info? e).map (fun i=>(i.zero,i.size,i.bytes)) = some (some z,d.sz,bytes)) (hz : z.cells.size = d.sz) (hs0 : 0 < d.sz) (hb0 : 0 < bytes)
    (v : Value) (xs : List α) (p : α) (cs : List Value) (ok okp : Nat → Prop) (hs : a.eval s = v) (hx : a.eval x = .slice (some ⟨W.heap.size,0,none⟩) 1 1) (hp : FK d W okp p cs) (hokp : ∀ k,okp k → ok k ∧ some k ≠ v.ownBlock) (hfresh : ∀ k,W.heap.size ≤ k → ok k)
    (HO : N d e W base ok v xs) (HB : Below base w0 W) (hbase : base ≤ W.heap.size) (hl : (xs.length + 1) * bytes ≤ 140737488355328)
    (h : ∀ v1 w1,N d e w1 base ok v1 (xs ++ [p]) → Below base w0 w1 → W.grownBy w1 v.ownBlock → (v1.ownBlock = v.ownBlock ∨ ∃ b,v1.ownBlock = some b ∧ W.heap.size ≤ b) → wpList P ops Q rest (a.put o.dst v1) w1) :
    wpList P ops Q (o :: rest) a (W.alloc (.cells cs.toArray e)):=by
  obtain ⟨h0,rows,hlr,hR,hf⟩:=HO
  refine R_append (raw d.sz) base hgd s x t e z bytes ho ht hinfo hz hs0 hb0 v rows cs cs (fun _=>True) (fun _=>False) hs hx (FK_raw hp) (fun _ hk=>hk.elim) (fun _ _=>trivial) (Tn' hR) HB hbase (by rw [hlr];exact hl) ?_
  intro v1 w1 hr hb hg hat
  exact h v1 w1 (Dk' h0 hlr hf (ys:=[p]) (news:=[cs]) rfl (fun j y c hy hc=>by
    rcases j with _|j
    · simp only [List.getElem?_cons_zero,Option.some.injEq] at hy hc
      rw [← hy,← hc];exact hp
    · simp at hy) hokp hfresh hr hg hat) hb hg hat
theorem N_append_rows (d : Kd α) {w0 W : World} (base : Nat) (hgd : o.guard = none) (s x : Operand) (t e : TypeId) (z : Value) (bytes : Nat)
    (ho : o.op = .call { callee:=.builtin .append,args:=#[s,x],argTypes:=#[t,t] })
    (ht : P.underlying t = some (.slice e)) (hinfo : (P.info? e).map (fun i=>(i.zero,i.size,i.bytes)) = some (some z,d.sz,bytes)) (hz : z.cells.size = d.sz) (hs0 : 0 < d.sz) (hb0 : 0 < bytes)
    (v : Value) (xs ys : List α) (A : Option Addr) (m c : Nat) (ok okp : Nat → Prop) (hs : a.eval s = v) (hx : a.eval x = .slice A m c)
    (HO : N d e W base ok v xs) (HR : F d W okp A m ys) (hokp : ∀ k,okp k → ok k ∧ some k ≠ v.ownBlock) (hfresh : ∀ k,W.heap.size ≤ k → ok k)
    (HB : Below base w0 W) (hbase : base ≤ W.heap.size) (hl : (xs.length + m) * bytes ≤ 140737488355328)
    (h : ∀ v1 w1,N d e w1 base ok v1 (xs ++ ys) → Below base w0 w1 → W.grownBy w1 v.ownBlock → (v1.ownBlock = v.ownBlock ∨ ∃ b,v1.ownBlock = some b ∧ W.heap.size ≤ b) → wpList P ops Q rest (a.put o.dst v1) w1) :
    wpList P ops Q (o :: rest) a W:=by
  obtain ⟨h0,rows,hlr,hR,hf⟩:=HO
  obtain ⟨news,hnl,hnr,hnf⟩:=ap' (F_rows HR) (fun y c hk=>⟨d.K_len (nj' hk),d.K_one (nj' hk)⟩)
  refine R_append_rows (raw d.sz) base hgd s x t e z bytes ho ht hinfo hz hs0 hb0 v rows news A m c (fun _=>True) (fun _=>False) hs hx (Tn' hR) hnr (fun _ _ hk=>hk) (fun _ hk=>hk.elim) (fun _ _=>trivial) HB hbase (by rw [hlr];exact hl) ?_
  intro v1 w1 hr hb hg hat
  exact h v1 w1 (Dk' h0 hlr hf hnl hnf hokp hfresh hr hg hat) hb hg hat
end
end Kd
end Go.Proofs.YtnffimpoekjkpaaGreatW.PrintWords
end
section
namespace Go.Proofs.YtnffimpoekjkpaaGreatW.PrintMore
open Go.RowKit Go.Proofs.YtnffimpoekjkpaaGreatW.PrintWords
namespace Kd
open Go.Proofs.YtnffimpoekjkpaaGreatW.PrintWords.Kd
end Kd
namespace Kd
open Go.Proofs.YtnffimpoekjkpaaGreatW.PrintWords.Kd
section
variable {α : Type} {d : Kd α} {e base g N : Nat} {ok : Nat → Prop} {W w1 : World} {u v : Value} {xs : List α}
end
end Kd
theorem Od' (k k' : IntKind) (x y : Int) : Builtin.max2 (.int k x) (.int k' y) = pure (.int k (if x < y then y else x)):=by simp only [Builtin.max2,gt_iff_lt]
theorem Pd' (k k' : IntKind) (x y : Int) : Builtin.min2 (.int k x) (.int k' y) = pure (.int k (if y < x then y else x)):=by simp only [Builtin.min2]
theorem Xd' (ats : Array TypeId) (ty : TypeId) (a b : Value) : Builtin.max_ ats ty #[a,b] = (Builtin.max2 a b >>= fun s=>pure s):=by simp only [Builtin.max_,List.foldlM_cons,List.foldlM_nil]
theorem Yd' (ats : Array TypeId) (ty : TypeId) (a b : Value) : Builtin.min_ ats ty #[a,b] = (Builtin.min2 a b >>= fun s=>pure s):=by simp only [Builtin.min_,List.foldlM_cons,List.foldlM_nil]
theorem Jd' (ats : Array TypeId) (ty : TypeId) (a b c : Value) : Builtin.max_ ats ty #[a,b,c] = (Builtin.max2 a b >>= fun s=>Builtin.max2 s c >>= fun s=>pure s):=by simp only [Builtin.max_,List.foldlM_cons,List.foldlM_nil]
theorem Kd' (ats : Array TypeId) (ty : TypeId) (a b c : Value) : Builtin.min_ ats ty #[a,b,c] = (Builtin.min2 a b >>= fun s=>Builtin.min2 s c >>= fun s=>pure s):=by simp only [Builtin.min_,List.foldlM_cons,List.foldlM_nil]
theorem Qd' (ats : Array TypeId) (ty : TypeId) (a b c d : Value) : Builtin.max_ ats ty #[a,b,c,d] = (Builtin.max2 a b >>= fun s=>Builtin.max2 s c >>= fun s=>Builtin.max2 s d >>= fun s=>pure s):=by simp only [Builtin.max_,List.foldlM_cons,List.foldlM_nil]
theorem Rd' (ats : Array TypeId) (ty : TypeId) (a b c d : Value) : Builtin.min_ ats ty #[a,b,c,d] = (Builtin.min2 a b >>= fun s=>Builtin.min2 s c >>= fun s=>Builtin.min2 s d >>= fun s=>pure s):=by simp only [Builtin.min_,List.foldlM_cons,List.foldlM_nil]
end Go.Proofs.YtnffimpoekjkpaaGreatW.PrintMore
namespace Go.Proofs.YtnffimpoekjkpaaGreatW.PrintWords
open Go.RowKit
section
variable {P : Program} {ops : Array Oper} {rest : List Oper} {o : Oper} {a : Act} {Q : Exit → Act → World → Prop} {W : World}
theorem qh' {f : FuncId} {as : Array Operand} {ts : Array TypeId} (_ho : o.op = .call { callee:=.value (.func f),args:=as,argTypes:=ts }) (h : wpList P ops Q (o :: rest) a W) : wpList P ops Q (o :: rest) a W:=h
theorem Ld' {b : Builtin} {xs : Array Operand} {ts : Array TypeId} (_ho : o.op = .call { callee:=.builtin b,args:=xs,argTypes:=ts }) (h : wpList P ops Q (o :: rest) a W) : wpList P ops Q (o :: rest) a W:=h
end
def mx (a b : Int) : Int:=if a < b then b else a
namespace Kd
section
variable {α : Type} {d : Kd α} {e base : Nat} {ok : Nat → Prop} {W w1 : World} {v : Value} {xs : List α}
end
section
variable {α : Type} {d : Kd α} {e base g n cap : Nat} {ok oki okp : Nat → Prop} {W : World} {xs : List α} {i : Int} {c : List Value}
theorem H_at (h : H d e W base ok (.slice (some ⟨g,0,none⟩) n cap) xs i oki c) (h0 : 0 ≤ i) (h1 : i < n) : (∀ j u,c[j]? = some u → W.cell? ⟨g,i.toNat * d.sz + j,none⟩ = some u) ∧ ∀ j,W.frozen? ⟨g,i.toNat * d.sz + j,none⟩ = false:=by
  obtain ⟨rows,_,hraw,_,_,hcc,_⟩:=H_raw h h0 h1
  obtain ⟨_,_,_,_,hfr⟩:=R_elem hraw [] i h0 h1
  exact ⟨hcc,hfr⟩
theorem S_seg0 (hH : H d e W base ok (.slice (some ⟨g,0,none⟩) n cap) xs i oki c) (h0 : 0 ≤ i) (h1 : i < n) {seg : List Value} {j : Nat} (hj : j + seg.length ≤ d.sz)
    {x' : α} (hM : d.M W base okp x' (c.take j ++ seg ++ c.drop (j + seg.length))) (hokp : ∀ k,okp k → oki k) :
    S d e (W.setCells g (i.toNat * d.sz + j) seg) base ok (.slice (some ⟨g,0,none⟩) n cap) (xs.set i.toNat x') ∧ W.grownBy (W.setCells g (i.toNat * d.sz + j) seg) (some g) :=
  S_seg (okg:=fun _=>False) (H_mono hH (fun _ hk=>⟨hk,fun h=>h⟩)) h0 h1 hj hM (fun k hk=>.inl (hokp k hk)) (fun _ hk=>hk.elim)
end
section
variable {α : Type} {d : Kd α} {e base b b' g N : Nat} {ok ok1 : Nat → Prop} {W W2 w1 : World} {u v : Value} {xs ys : List α} {S : Nat → Prop}
end
end Kd
end Go.Proofs.YtnffimpoekjkpaaGreatW.PrintWords
namespace Go.Proofs.YtnffimpoekjkpaaGreatW.PrintWords
open Go.RowKit
namespace Kd
section
variable {α β : Type} {d : Kd α} {e base base' n m c g N' lo hi : Nat} {ok ok' S : Nat → Prop} {w W w1 : World} {A : Option Addr} {ad : Addr} {u v v1 : Value} {xs : List α}
theorem F_take (h : F d W ok A xs.length xs) (hm : m ≤ xs.length) : F d W ok A (xs.take m).length (xs.take m):=F_imp h (fun _ hC=>C_take hC hm)
theorem F_cut (h : F d W ok A xs.length xs) (hm : m ≤ xs.length) (hc : xs.length ≤ c) : F d W ok (if c = m then A else A.map (·.add (m * d.sz))) (xs.drop m).length (xs.drop m):=F_imp h (fun _ hC=>C_drop hC hm hc)
end
end Kd
end Go.Proofs.YtnffimpoekjkpaaGreatW.PrintWords
end
section
namespace Go.Proofs.YtnffimpoekjkpaaGreatW.PrintWords
open Go.RowKit
theorem bb_ {w w1 w2 : World} {g : Nat} {o : Obj} (BK : qz (w.heap[g]? = some o)) (hb : Below w1.heap.size w1 w2) (X : Below w.heap.size w w1:=by with_reducible repeat (first|exact Below.refl _ _|apply qo|apply qd|apply qh)) : qz (w2.heap[g]? = some o):=⟨qx BK.o (qy X hb)⟩
theorem bx_ {w w1 : World} {g : Nat} {o : Obj} (BK : qz (w.heap[g]? = some o)) (X : Below w.heap.size w w1:=by with_reducible repeat (first|exact Below.refl _ _|apply qo|apply qd|apply qh)) : qz (w1.heap[g]? = some o):=⟨qx BK.o X⟩
theorem hs_ {w w' w1 w2 : World} (_HB : qz (Below w.heap.size w w')) (hb : Below w1.heap.size w1 w2) (X : Below w.heap.size w w1:=by repeat (first|(with_reducible first|exact qz.out (by assumption)|apply qo|apply qd|apply qh|refine qp ?_ (qz.out (by assumption)))|exact qz.out (by assumption))) : qz (Below w.heap.size w w2):=⟨qy X hb⟩
theorem hz_ {w w' w1 : World} (_HB : qz (Below w.heap.size w w')) (X : Below w.heap.size w w1:=by repeat (first|(with_reducible first|exact qz.out (by assumption)|apply qo|apply qd|apply qh|refine qp ?_ (qz.out (by assumption)))|exact qz.out (by assumption))) : w.heap.size ≤ w1.heap.size:=X.size
theorem nl_ {w w1 : World} {g : Nat} {o : Obj} (BK : qz (w.heap[g]? = some o)) (X : Below w.heap.size w w1:=by with_reducible repeat (first|exact Below.refl _ _|apply qo|apply qd|apply qh)) : g ≠ w1.heap.size:=Nat.ne_of_lt (Nat.lt_of_lt_of_le (ke' BK.o) X.size)
theorem ng_ {w w1 : World} {g : Nat} {o : Obj} (BK : qz (w.heap[g]? = some o)) (X : Below w.heap.size w w1:=by with_reducible repeat (first|exact Below.refl _ _|apply qo|apply qd|apply qh)) : w1.heap.size ≠ g:=Ne.symm (nl_ BK X)
theorem rb_ {α : Type} {d : Kd α} {e : TypeId} {w w1 w2 : World} {base : Nat} {ok : Nat → Prop} {v : Value} {xs : List α} (H : qz (d.R e w base ok v xs)) (hb : Below w1.heap.size w1 w2) (X : Below w.heap.size w w1:=by with_reducible repeat (first|exact Below.refl _ _|apply qo|apply qd|apply qh)) : qz (d.R e w2 base ok v xs):=⟨Kd.R_below H.o (qy X hb)⟩
end Go.Proofs.YtnffimpoekjkpaaGreatW.PrintWords
end
section
namespace Go.Proofs.YtnffimpoekjkpaaGreatW.PrintLast
open Go.RowKit Go.Proofs.YtnffimpoekjkpaaGreatW.PrintWords
def bz_ (n m : Nat) : Array Bool:=⟨(List.range n).map m.testBit⟩
variable {P : Program} {ops : Array Oper} {Q : Exit → Act → World → Prop} {md : Region.Mode} {S : World → Prop} {ds : List Nat}
theorem hx_ {n : Nat} {w w1 : World} (X : Below n w w1:=by repeat (first|(with_reducible first|exact qz.out (by assumption)|apply qo|apply qd|apply qh|refine qp ?_ (qz.out (by assumption)))|exact qz.out (by assumption))) : Below n w w1:=X
theorem hl_ {w w1 : World} {g : Nat} (hg : g = w1.heap.size) (X : Below w.heap.size w w1:=by repeat (first|(with_reducible first|exact qz.out (by assumption)|apply qo|apply qd|apply qh|refine qp ?_ (qz.out (by assumption)))|exact qz.out (by assumption))) : qz (w.heap.size ≤ g):=⟨hg ▸ qv X⟩
theorem sm_ {p : Prop} (h : p:=by (try simp only [List.map_toArray,List.map_cons,List.map_nil]);first|done|rfl|(simp only [List.length_drop,List.length_take];rfl)) : p:=h
theorem rt_ {p : Prop} (h : p:=by first|rfl|(simp [errW_none,errW_some] <;> rfl)|(simp [*,errW_none,errW_some] <;> rfl)) : p:=h
theorem rs_ {p : Prop} (h : p:=by first|rfl|(simp;done)|(simp [*];done)) : p:=h
theorem dt_ {p : Prop} [h : Decidable p] (H : decide p = true:=by first|(with_reducible assumption)|assumption) : p:=of_decide_eq_true H
theorem pa_ {oi : Oper} {v : Value} {fuel : Nat} {l : Array Bool} {a a' : Act} {w : World} (i : Nat) (n : Tmp) (l' : Array Bool) (h : Fd' P md ops Q S ds fuel l' a' w) (hi : ops[i]? = some oi:=by rfl) (hN : oi.dst = some n:=by rfl) (hc : anyB md ops l l' i = true:=by kernel_rfl)
    (hQ : ∀ c a w,Q (.panic c) (a.put oi.dst v) w → Q (.panic c) a w:=by exact fun _ _ _ h=>h) (hy : Yields P ops oi v a:=by exact Or.inl ⟨by rfl,by intro w';go_simp;with_reducible rfl⟩) (ha : a.put (some n) v = a':=by (simp only [Act.put,List.setIfInBounds_toArray,List.set_cons_zero,List.set_cons_succ,Bd',Cd']);rfl)
    : Fd' P md ops Q S ds (fuel + 1) l a w:=pure_ l' hi hN hc hQ hy ha h
theorem pn_ {oi : Oper} {fuel : Nat} {l : Array Bool} {a a' : Act} {w : World} (i : Nat) (n : Tmp) (l' : Array Bool) (h : Fd' P md ops Q S ds fuel l' a' w) (hi : ops[i]? = some oi:=by rfl) (hN : oi.dst = some n:=by rfl) (hc : anyB md ops l l' i = true:=by kernel_rfl)
    (hQ : ∀ c a w,Q (.panic c) (a.put oi.dst undef) w → Q (.panic c) a w:=by exact fun _ _ _ h=>h) (hy : Yields P ops oi undef a:=by exact Or.inr ⟨by rfl,rfl⟩) (ha : a.put (some n) undef = a':=by (simp only [Act.put,List.setIfInBounds_toArray,List.set_cons_zero,List.set_cons_succ,Bd',Cd']);rfl)
    : Fd' P md ops Q S ds (fuel + 1) l a w:=pure_ l' hi hN hc hQ hy ha h
theorem ta_ {oi : Oper} {v : Value} {fuel : Nat} {l : Array Bool} {a a' : Act} {w : World} (i : Nat) (n : Tmp) (l' : Array Bool) (hS : S w) (hi : ops[i]? = some oi:=by rfl) (hN : oi.dst = some n:=by rfl) (hc : takeB md ops ds l l' i = true:=by kernel_rfl)
    (hQ : ∀ c a w,Q (.panic c) (a.put oi.dst v) w → Q (.panic c) a w:=by exact fun _ _ _ h=>h) (hy : YieldsIf P ops S oi v a) (ha : a.put (some n) v = a':=by (simp only [Act.put,List.setIfInBounds_toArray,List.set_cons_zero,List.set_cons_succ,Bd',Cd']);rfl)
    (h : Fd' P md ops Q S ds fuel l' a' w) : Fd' P md ops Q S ds (fuel + 1) l a w:=Kj' l' hi hN hc hQ hy hS ha h
end Go.Proofs.YtnffimpoekjkpaaGreatW.PrintLast
end
section
namespace Go.Proofs.YtnffimpoekjkpaaGreatW.PrintLast
open Go.RowKit Go.Proofs.YtnffimpoekjkpaaGreatW.PrintWords
theorem c1_ {w : World} {g : Nat} {t : TypeId} {a0 : Value} (h : w.heap[g]? = some (.cells #[a0] t (0,0))) : w.cell? ⟨g,0,none⟩ = some a0:=(qq h 0).trans rfl
theorem c1f_ {w : World} {g : Nat} {t : TypeId} {a0 : Value} (h : w.heap[g]? = some (.cells #[a0] t (0,0))) : w.cell? ⟨g,0,none⟩ = some a0 ∧ w.frozen? ⟨g,0,none⟩ = false:=⟨(qq h 0).trans rfl,qu h 0⟩
theorem c2_ {w : World} {g : Nat} {t : TypeId} {a0 a1 : Value} (h : w.heap[g]? = some (.cells #[a0,a1] t (0,0))) : w.cell? ⟨g,0,none⟩ = some a0 ∧ w.cell? ⟨g,1,none⟩ = some a1:=⟨(qq h 0).trans rfl,(qq h 1).trans rfl⟩
theorem c2f_ {w : World} {g : Nat} {t : TypeId} {a0 a1 : Value} (h : w.heap[g]? = some (.cells #[a0,a1] t (0,0))) : w.cell? ⟨g,0,none⟩ = some a0 ∧ w.cell? ⟨g,1,none⟩ = some a1 ∧ w.frozen? ⟨g,0,none⟩ = false ∧ w.frozen? ⟨g,1,none⟩ = false:=⟨(qq h 0).trans rfl,(qq h 1).trans rfl,qu h 0,qu h 1⟩
theorem c3_ {w : World} {g : Nat} {t : TypeId} {a0 a1 a2 : Value} (h : w.heap[g]? = some (.cells #[a0,a1,a2] t (0,0))) : w.cell? ⟨g,0,none⟩ = some a0 ∧ w.cell? ⟨g,1,none⟩ = some a1 ∧ w.cell? ⟨g,2,none⟩ = some a2:=⟨(qq h 0).trans rfl,(qq h 1).trans rfl,(qq h 2).trans rfl⟩
theorem c3f_ {w : World} {g : Nat} {t : TypeId} {a0 a1 a2 : Value} (h : w.heap[g]? = some (.cells #[a0,a1,a2] t (0,0))) : w.cell? ⟨g,0,none⟩ = some a0 ∧ w.cell? ⟨g,1,none⟩ = some a1 ∧ w.cell? ⟨g,2,none⟩ = some a2 ∧ w.frozen? ⟨g,0,none⟩ = false ∧ w.frozen? ⟨g,1,none⟩ = false ∧ w.frozen? ⟨g,2,none⟩ = false:=⟨(qq h 0).trans rfl,(qq h 1).trans rfl,(qq h 2).trans rfl,qu h 0,qu h 1,qu h 2⟩
theorem c4_ {w : World} {g : Nat} {t : TypeId} {a0 a1 a2 a3 : Value} (h : w.heap[g]? = some (.cells #[a0,a1,a2,a3] t (0,0))) : w.cell? ⟨g,0,none⟩ = some a0 ∧ w.cell? ⟨g,1,none⟩ = some a1 ∧ w.cell? ⟨g,2,none⟩ = some a2 ∧ w.cell? ⟨g,3,none⟩ = some a3:=⟨(qq h 0).trans rfl,(qq h 1).trans rfl,(qq h 2).trans rfl,(qq h 3).trans rfl⟩
theorem c4f_ {w : World} {g : Nat} {t : TypeId} {a0 a1 a2 a3 : Value} (h : w.heap[g]? = some (.cells #[a0,a1,a2,a3] t (0,0))) : w.cell? ⟨g,0,none⟩ = some a0 ∧ w.cell? ⟨g,1,none⟩ = some a1 ∧ w.cell? ⟨g,2,none⟩ = some a2 ∧ w.cell? ⟨g,3,none⟩ = some a3 ∧ w.frozen? ⟨g,0,none⟩ = false ∧ w.frozen? ⟨g,1,none⟩ = false ∧ w.frozen? ⟨g,2,none⟩ = false ∧ w.frozen? ⟨g,3,none⟩ = false:=⟨(qq h 0).trans rfl,(qq h 1).trans rfl,(qq h 2).trans rfl,(qq h 3).trans rfl,qu h 0,qu h 1,qu h 2,qu h 3⟩
theorem c5_ {w : World} {g : Nat} {t : TypeId} {a0 a1 a2 a3 a4 : Value} (h : w.heap[g]? = some (.cells #[a0,a1,a2,a3,a4] t (0,0))) : w.cell? ⟨g,0,none⟩ = some a0 ∧ w.cell? ⟨g,1,none⟩ = some a1 ∧ w.cell? ⟨g,2,none⟩ = some a2 ∧ w.cell? ⟨g,3,none⟩ = some a3 ∧ w.cell? ⟨g,4,none⟩ = some a4:=⟨(qq h 0).trans rfl,(qq h 1).trans rfl,(qq h 2).trans rfl,(qq h 3).trans rfl,(qq h 4).trans rfl⟩
theorem c5f_ {w : World} {g : Nat} {t : TypeId} {a0 a1 a2 a3 a4 : Value} (h : w.heap[g]? = some (.cells #[a0,a1,a2,a3,a4] t (0,0))) : w.cell? ⟨g,0,none⟩ = some a0 ∧ w.cell? ⟨g,1,none⟩ = some a1 ∧ w.cell? ⟨g,2,none⟩ = some a2 ∧ w.cell? ⟨g,3,none⟩ = some a3 ∧ w.cell? ⟨g,4,none⟩ = some a4 ∧ w.frozen? ⟨g,0,none⟩ = false ∧ w.frozen? ⟨g,1,none⟩ = false ∧ w.frozen? ⟨g,2,none⟩ = false ∧ w.frozen? ⟨g,3,none⟩ = false ∧ w.frozen? ⟨g,4,none⟩ = false:=⟨(qq h 0).trans rfl,(qq h 1).trans rfl,(qq h 2).trans rfl,(qq h 3).trans rfl,(qq h 4).trans rfl,qu h 0,qu h 1,qu h 2,qu h 3,qu h 4⟩
theorem c6_ {w : World} {g : Nat} {t : TypeId} {a0 a1 a2 a3 a4 a5 : Value} (h : w.heap[g]? = some (.cells #[a0,a1,a2,a3,a4,a5] t (0,0))) : w.cell? ⟨g,0,none⟩ = some a0 ∧ w.cell? ⟨g,1,none⟩ = some a1 ∧ w.cell? ⟨g,2,none⟩ = some a2 ∧ w.cell? ⟨g,3,none⟩ = some a3 ∧ w.cell? ⟨g,4,none⟩ = some a4 ∧ w.cell? ⟨g,5,none⟩ = some a5:=⟨(qq h 0).trans rfl,(qq h 1).trans rfl,(qq h 2).trans rfl,(qq h 3).trans rfl,(qq h 4).trans rfl,(qq h 5).trans rfl⟩
theorem c6f_ {w : World} {g : Nat} {t : TypeId} {a0 a1 a2 a3 a4 a5 : Value} (h : w.heap[g]? = some (.cells #[a0,a1,a2,a3,a4,a5] t (0,0))) : w.cell? ⟨g,0,none⟩ = some a0 ∧ w.cell? ⟨g,1,none⟩ = some a1 ∧ w.cell? ⟨g,2,none⟩ = some a2 ∧ w.cell? ⟨g,3,none⟩ = some a3 ∧ w.cell? ⟨g,4,none⟩ = some a4 ∧ w.cell? ⟨g,5,none⟩ = some a5 ∧ w.frozen? ⟨g,0,none⟩ = false ∧ w.frozen? ⟨g,1,none⟩ = false ∧ w.frozen? ⟨g,2,none⟩ = false ∧ w.frozen? ⟨g,3,none⟩ = false ∧ w.frozen? ⟨g,4,none⟩ = false ∧ w.frozen? ⟨g,5,none⟩ = false:=⟨(qq h 0).trans rfl,(qq h 1).trans rfl,(qq h 2).trans rfl,(qq h 3).trans rfl,(qq h 4).trans rfl,(qq h 5).trans rfl,qu h 0,qu h 1,qu h 2,qu h 3,qu h 4,qu h 5⟩
end Go.Proofs.YtnffimpoekjkpaaGreatW.PrintLast
end
namespace Go.Proofs.YtnffimpoekjkpaaGreatW.PrintWords
theorem aa' {p : Prop} (h : p:=by omega) : p:=h
theorem ba' {p : Prop} (h : p:=by decide) : p:=h
theorem ca' {p : Prop} (h : p:=by rfl) : p:=h
theorem da' {p : Prop} (h : p:=by kernel_rfl) : p:=h
theorem fa' {p : Prop} (h : p:=by have:=HI.o;omega) : p:=h
theorem ga' {p : Prop} (h : p:=by have:=HIL.o;omega) : p:=h
theorem ia' {p : Prop} (h : p:=by simp) : p:=h
theorem ja' {p : Prop} (h : p:=by rintro w' ⟨s0,s1⟩;go_simp;with_reducible rfl) : p:=h
theorem ka' {p : Prop} (h : p:=by have:=H0.o.2;omega) : p:=h
theorem la' {p : Prop} (h : p:=by first|rfl|rw [hi1]) : p:=h
theorem ma' {p : Prop} (h : p:=by repeat (first|exact re'.refl _|apply re'.step)) : p:=h
theorem na' {p : Prop} (h : p:=by rintro w' ⟨s0,s1,s2,s3⟩;go_simp;with_reducible rfl) : p:=h
theorem oa' {p : Prop} (h : p:=by have:=HL.o;omega) : p:=h
theorem pa' {p : Prop} (h : p:=by have:=H0.o;omega) : p:=h
theorem qa' {p : Prop} (h : p:=by first|exact HS1.o|exact HS1.o.to) : p:=h
theorem ra' {p : Prop} (h : p:=by rintro w' ⟨s0,s1,s2⟩;go_simp;with_reducible rfl) : p:=h
theorem sa' {p : Prop} (h : p:=by have:=HN.o;omega) : p:=h
theorem ta' {p : Prop} (h : p:=by with_reducible assumption) : p:=h
theorem ua' {p : Prop} (h : p:=by simp only [bi',Act.put,List.setIfInBounds_toArray,List.set_cons_zero,List.set_cons_succ]) : p:=h
theorem wa' {p : Prop} (h : p:=by first|rfl|(simp;done)|(simp [*];done)) : p:=h
theorem xa' {p : Prop} (h : p:=by simp only [List.map_toArray,List.map_cons,List.map_nil];rfl) : p:=h
theorem ya' {p : Prop} (h : p:=by rintro w' ⟨s0,s1,s2,s3,s4,s5,s6,s7⟩;go_simp;with_reducible rfl) : p:=h
theorem za' {p : Prop} (h : p:=by rintro w' ⟨s0,s1,s2,s3,s4⟩;go_simp;with_reducible rfl) : p:=h
theorem Aa' {p : Prop} (h : p:=by repeat (first|exact HB.o|apply qd)) : p:=h
theorem Ba' {p : Prop} (h : p:=by have:=g.n0;omega) : p:=h
theorem Ca' {p : Prop} (h : p:=by first|exact HB3|exact HB|exact ⟨qd HB.o _⟩) : p:=h
theorem Da' {p : Prop} (h : p:=by rw [w64 (by omega) (by have:=HIL.o;have:=H0.o;omega)]) : p:=h
theorem Ea' {p : Prop} (h : p:=by rw [hi1]) : p:=h
theorem Fa' {p : Prop} (h : p:=by have:=HKI.o;omega) : p:=h
theorem Ga' {p : Prop} (h : p:=by simp;omega) : p:=h
theorem Ha' {p : Prop} (h : p:=by rintro w' ⟨s0,s1,s2,s3,s4,s5⟩;go_simp;with_reducible rfl) : p:=h
theorem Ia' {p : Prop} (h : p:=by have:=HK0.o;omega) : p:=h
theorem Ja' {p : Prop} (h : p:=by have:=HJ.o;omega) : p:=h
theorem Ka' {p : Prop} (h : p:=by rw [List.length_append,List.length_singleton];have:=HL.o;omega) : p:=h
theorem La' {p : Prop} (h : p:=by have:=HQ.o;omega) : p:=h
theorem Ma' {p : Prop} (h : p:=by have:=HL.o;have:=HC.o;omega) : p:=h
theorem Na' {p : Prop} (h : p:=by have:=H0.o.1;omega) : p:=h
theorem Pa' {p : Prop} (h : p:=by have:=HML.o;omega) : p:=h
theorem Qa' {p : Prop} (h : p:=by rw [eI]) : p:=h
theorem Ra' {p : Prop} (h : p:=by rw [← Ng' _ _ 1 (by omega)];exact hc 1 _ rfl) : p:=h
theorem Sa' {p : Prop} (h : p:=by have:=h.1;omega) : p:=h
theorem Ua' {p : Prop} (h : p:=by rw [w64 (by have:=HI.o;omega) (by have:=HIR.o.2;have:=HM.o;omega)]) : p:=h
theorem Va' {p : Prop} (h : p:=by have:=HIR.o.2;omega) : p:=h
theorem Wa' {p : Prop} (h : p:=by first|exact HT|exact ⟨(congrArg (stE s.y s.nd s.lb es k1 (i + 1)) (by omega)).trans HT.o⟩) : p:=h
theorem Xa' {p : Prop} (h : p:=by rw [List.length_append,List.length_singleton]) : p:=h
theorem Ya' {p : Prop} (h : p:=by have:=hn.1;omega) : p:=h
theorem Za' {p : Prop} (h : p:=by first|exact HS.o|exact HS.o.to) : p:=h
theorem ab' {p : Prop} (h : p:=by repeat (first|exact HB.o|apply qo|apply qd|apply qh)) : p:=h
theorem bb' {p : Prop} (h : p:=by have:=HI.o;have:=H0.o;omega) : p:=h
theorem cb' {p : Prop} (h : p:=by have:=HI.o;have:=HA.o;omega) : p:=h
theorem db' {p : Prop} (h : p:=by rw [HL.o];exact hp0) : p:=h
theorem gb' {p : Prop} (h : p:=by rw [w64 (by have:=HI.o;omega) (by have:=HIN.o.2;have:=H0.o;omega)]) : p:=h
theorem ib' {p : Prop} (h : p:=by have:=HIN.o.2;omega) : p:=h
theorem jb' {p : Prop} (h : p:=by have:=HSZ.o;omega) : p:=h
theorem kb' {p : Prop} (h : p:=by first|rfl|rw [w64 (by have:=HI.o;omega) (by have:=HIL.o;have:=H0.o;omega)]) : p:=h
theorem mb' {p : Prop} (h : p:=by rw [h];decide) : p:=h
theorem nb' {p : Prop} (h : p:=by repeat (first|exact HB3.o|apply qd|apply qh)) : p:=h
theorem pb' {p : Prop} (h : p:=by rw [w64 (by omega) (by have:=HIL.o;have:=HMT.o;omega)];rfl) : p:=h
theorem qb' {p : Prop} (h : p:=by rw [wi_ (by have:=HL.o;have:=HC.o;omega)]) : p:=h
theorem rb' {p : Prop} (h : p:=by rw [show wrap64 (i + 1) = i + 1 from by have h1:=HI.o;have h2:=HM.o;have h3:=HIR.o.2;unfold wrap64;omega]) : p:=h
theorem sb' {p : Prop} (h : p:=by have h1:=HI.o;have h3:=HIR.o.2;omega) : p:=h
theorem tb' {p : Prop} (h : p:=by have h1:=HI.o;omega) : p:=h
theorem ub' {p : Prop} (h : p:=by have h3:=HIR.o.2;omega) : p:=h
theorem vb' {p : Prop} (h : p:=by have:=HK1.o;omega) : p:=h
theorem wb' {p : Prop} (h : p:=by first|exact HT5|exact HT2) : p:=h
theorem xb' {p : Prop} (h : p:=by first|exact HB5|exact HB2) : p:=h
theorem yb' {p : Prop} (h : p:=by have:=HQ0.o;omega) : p:=h
theorem zb' {p : Prop} (h : p:=by have:=hi.yl;have:=hv.2;omega) : p:=h
theorem Ab' {p : Prop} (h : p:=by rw [O.l];exact hv) : p:=h
theorem Bb' {p : Prop} (h : p:=by have:=hx.a;have:=hx.ab;omega) : p:=h
theorem Cb' {p : Prop} (h : p:=by rw [hl];omega) : p:=h
theorem Db' {p : Prop} (h : p:=by have:=HVL.o;omega) : p:=h
theorem Eb' {p : Prop} (h : p:=by repeat (first|exact Below.refl _ _|apply qd|apply qh)) : p:=h
theorem Fb' {p : Prop} (h : p:=by have:=HK.o;omega) : p:=h
theorem Gb' {p : Prop} (h : p:=by rw [← HL2.o];exact h) : p:=h
theorem Hb' {p : Prop} (h : p:=by have:=HX.o.1;omega) : p:=h
theorem Ib' {p : Prop} (h : p:=by rw [← Ng' _ _ 2 (by omega)];exact hc 2 _ rfl) : p:=h
theorem Jb' {p : Prop} (h : p:=by rw [← Ng' _ _ 3 (by omega)];exact hc 3 _ rfl) : p:=h
theorem Kb' {p : Prop} (h : p:=by rw [← Ng' _ _ 4 (by omega)];exact hc 4 _ rfl) : p:=h
theorem Lb' {p : Prop} (h : p:=by have:=hn.2;omega) : p:=h
theorem Mb' {p : Prop} (h : p:=by have:=hv.1;omega) : p:=h
theorem Nb' {p : Prop} (h : p:=by (with_reducible repeat (first|apply Kd.R_alloc|apply Kd.R_drewN|apply Kd.R_drew));exact HO.o) : p:=h
theorem Pb' {p : Prop} (h : p:=by rw [w64 (by have:=HI.o;omega) (by have:=HI.o;have:=H0.o;omega)]) : p:=h
theorem Qb' {p : Prop} (h : p:=by rintro k ⟨h1,_,h2,_⟩;rw [hc k h2];exact h1) : p:=h
theorem Rb' {p : Prop} (h : p:=by rw [List.length_set];exact HL.o.2.2) : p:=h
theorem Sb' {p : Prop} (h : p:=by rw [HL.o];exact c) : p:=h
theorem Tb' {p : Prop} (h : p:=by have:=HIL.o;have:=HN.o;omega) : p:=h
theorem Ub' {p : Prop} (h : p:=by have:=HJ.o;have:=H0.o;omega) : p:=h
theorem Vb' {p : Prop} (h : p:=by first|rfl|decide) : p:=h
theorem Wb' {p : Prop} (h : p:=by rw [HTT.o,HMT.o]) : p:=h
theorem Xb' {p : Prop} (h : p:=by have:=HK1.o;first|omega|exact Nat.le_refl _) : p:=h
theorem Yb' {p : Prop} (h : p:=by rw [HL.o];exact HAI.o.2) : p:=h
theorem Zb' {p : Prop} (h : p:=by have:=hx.ab;have:=hx.b;omega) : p:=h
theorem ac' {p : Prop} (h : p:=by rw [hl];exact c) : p:=h
theorem bc' {p : Prop} (h : p:=by rw [L.la];exact hn) : p:=h
theorem cc' {p : Prop} (h : p:=by have:=hi.yl;have:=hu.2;omega) : p:=h
theorem dc' {p : Prop} (h : p:=by have:=ht.i.1;omega) : p:=h
theorem ec' {p : Prop} (h : p:=by rw [O.l];exact q.1) : p:=h
theorem fc' {p : Prop} (h : p:=by rw [hl];have:=hn.2;omega) : p:=h
theorem gc' {p : Prop} (h : p:=by rw [e4];simp;omega) : p:=h
theorem hc' {p : Prop} (h : p:=by have:=HI.o.2.1;omega) : p:=h
theorem ic' {p : Prop} (h : p:=by first|rfl|rw [hv1]|simp) : p:=h
theorem jc' {p : Prop} (h : p:=by first|rfl|rw [w2]) : p:=h
theorem kc' {p : Prop} (h : p:=by have h:=HC2.o;rw [HDR.o,cplV,if_neg HCN.o.2,if_neg HCN.o.1] at h;exact h) : p:=h
theorem lc' {p : Prop} (h : p:=by rw [mateAt,List.length_set];exact HL.o) : p:=h
theorem mc' {p : Prop} (h : p:=by have:=HIL.o;have:=HA.o;have:=H0.o;omega) : p:=h
theorem nc' {p : Prop} (h : p:=by rintro k ⟨_,h1,_⟩;rw [if_pos h1]) : p:=h
theorem oc' {p : Prop} (h : p:=by rw [List.length_set];exact HL.o.2.1) : p:=h
theorem pc' {p : Prop} (h : p:=by first|exact HT|exact ⟨(congrArg (stN s.nd s.lb k1 (i + 1)) (by omega)).trans HT.o⟩) : p:=h
theorem qc' {p : Prop} (h : p:=by rw [List.append_assoc];exact HL2.o) : p:=h
theorem rc' {p : Prop} (h : p:=by rw [List.length_append,List.length_singleton];have:=HL.o.2;omega) : p:=h
theorem sc' {p : Prop} (h : p:=by rw [List.length_append,List.length_singleton];have:=HML.o;omega) : p:=h
theorem tc' {p : Prop} (h : p:=by rw [← hk];exact hr k e.symm) : p:=h
theorem uc' {p : Prop} (h : p:=by (with_reducible repeat (first|apply Kd.R_alloc|apply Kd.R_drewN|apply Kd.R_drew));exact HO_3.o) : p:=h
theorem vc' {p : Prop} (h : p:=by have:=HL.o;have:=H0.o;omega) : p:=h
theorem xc' {p : Prop} (h : p:=by first|rfl|rw [w64 (by have:=HQ.o;omega) (by have:=HQ.o;have:=H0.o;omega)]) : p:=h
theorem yc' {p : Prop} (h : p:=by rw [f.1];exact Q.three) : p:=h
theorem zc' {p : Prop} (h : p:=by rw [f.1,f.2.1];exact Q.lkl) : p:=h
theorem Ac' {p : Prop} (h : p:=by show (0 : Int) ≤ _;omega) : p:=h
theorem Bc' {p : Prop} (h : p:=by rw [List.length_set];exact h) : p:=h
theorem Cc' {p : Prop} (h : p:=by show (0 : Int) ≤ 50;omega) : p:=h
theorem Dc' {p : Prop} (h : p:=by rw [w64 (by omega) (by have:=HIL.o;have:=HN.o;omega)];rfl) : p:=h
theorem Ec' {p : Prop} (h : p:=by have:=HJ.o;have:=HN.o;omega) : p:=h
theorem Fc' {p : Prop} (h : p:=by rw [← Ng' _ _ 5 (by omega)];exact hc 5 _ rfl) : p:=h
theorem Gc' {p : Prop} (h : p:=by repeat (first|exact Below.refl _ _|apply qh|apply qd)) : p:=h
theorem Hc' {p : Prop} (h : p:=by have:=HL.o.2;rw [List.length_append,List.length_singleton];omega) : p:=h
theorem Ic' {p : Prop} (h : p:=by rw [mateAt,List.length_set,inAt,List.length_set];exact HL.o) : p:=h
theorem Jc' {p : Prop} (h : p:=by rw [w64 (by have:=HI.o;omega) (by have:=HIL.o;have:=H0.o;omega)]) : p:=h
theorem Kc' {p : Prop} (h : p:=by show i < (bk.length : Int);have:=HL.o.2.2;omega) : p:=h
theorem Lc' {p : Prop} (h : p:=by rw [w64 (by omega) (by have:=HJ.o;have:=H0.o;omega)]) : p:=h
theorem Mc' {p : Prop} (h : p:=by rw [List.length_append,List.length_append,List.length_singleton,List.length_singleton];exact HD4) : p:=h
theorem Nc' {p : Prop} (h : p:=by rw [List.length_append,List.length_append,List.length_singleton,List.length_singleton];exact HD5) : p:=h
theorem Oc' {p : Prop} (h : p:=by have:=HG.o.o;rw [← HW.o.1] at this;exact this) : p:=h
theorem Pc' {p : Prop} (h : p:=by repeat (first|exact HB2.o|apply qo|apply qd|apply qh)) : p:=h
theorem Qc' {p : Prop} (h : p:=by rintro ⟨h1,h2⟩;first|exact HC3.o h1|exact HC5.o h2) : p:=h
theorem Rc' {p : Prop} (h : p:=by obtain ⟨dsa,hda⟩:=row_blk HT5.o.ra;exact ke' hda) : p:=h
theorem Sc' {p : Prop} (h : p:=by have h1:=HNE.o;have h2:=HZt.o;have h3:=HBm.o.size;omega) : p:=h
theorem Tc' {p : Prop} (h : p:=by rw [growT,List.length_set,List.length_set];exact HL.o.1) : p:=h
theorem Uc' {p : Prop} (h : p:=by rw [growT,List.length_set,List.length_set];exact HL.o.2.1) : p:=h
theorem Vc' {p : Prop} (h : p:=by rw [growT,List.length_set,List.length_set];exact HL.o.2.2) : p:=h
theorem Wc' {p : Prop} (h : p:=by have:=HMR.o.2;show mt'.length ≤ 1000000;omega) : p:=h
theorem Xc' {p : Prop} (h : p:=by have:=HML.o;have:=HIL.o;have:=H0.o;omega) : p:=h
theorem Yc' {p : Prop} (h : p:=by dsimp only;rw [if_neg (by omega),if_neg (by omega),if_neg (by omega)]) : p:=h
theorem Zc' {p : Prop} (h : p:=by have:=HL.o;have:=HQU.o;have:=H0.o;omega) : p:=h
theorem bd' {p : Prop} (h : p:=by have:=HL.o;have:=HQ.o;have:=H0.o;omega) : p:=h
theorem cd' {p : Prop} (h : p:=by rw [List.length_append,List.length_singleton];exact HD7) : p:=h
theorem dd' {p : Prop} (h : p:=by have:=hk.2;rw [List.length_cons] at this;omega) : p:=h
theorem ed' {p : Prop} (h : p:=by rw [lM hk1];exact labK_o1 a1 (by omega) (by omega) (by omega)) : p:=h
theorem fd' {p : Prop} (h : p:=by show i < (rn.length : Int);rw [F.len];exact c) : p:=h
theorem gd' {p : Prop} (h : p:=by rintro (h|h);exact absurd (c6.symm.trans h) (by decide);exact c5 h) : p:=h
theorem id' {p : Prop} (h : p:=by have:=HJ.o;rw [List.length_append,List.length_singleton];omega) : p:=h
theorem jd' {p : Prop} (h : p:=by simpa using be' BX7.o 0 (.slice A7 (l.length + 1) c7)) : p:=h
theorem kd' {p : Prop} (h : p:=by rw [← hR];unfold gkB;rw [cn,Bool.true_and]) : p:=h
theorem ld' {p : Prop} (h : p:=by have h:=HB.o;rw [← hgb] at h ⊢;exact qy h HB2.o) : p:=h
theorem md' {p : Prop} (h : p:=by have h:=EG2.o;rw [he,Bool.or_true,Bool.true_and] at h;exact h) : p:=h
theorem od' {p : Prop} (h : p:=by rw [w64 (by have:=HI.o;omega) (by have:=HIL.o;have:=HNZ.o;omega)]) : p:=h
theorem pd' {p : Prop} (h : p:=by rintro w' ⟨s0,s1,s2,s3,s4,s5,s6,s7,s8,s9⟩;go_simp;with_reducible rfl) : p:=h
theorem qd' {p : Prop} (h : p:=by rw [w1_ (by have:=HL.o;omega) (by have:=HL.o;have:=HC.o;omega)];congr 1;omega) : p:=h
theorem rd' {p : Prop} (h : p:=by repeat (first|exact HB.o|refine qp ?_ HBB.o.2)) : p:=h
theorem sd' {p : Prop} (h : p:=by repeat (first|exact HK.o|refine oe'.setCell ?_ (.inl HBB.o.1) _)) : p:=h
end Go.Proofs.YtnffimpoekjkpaaGreatW.PrintWords
