import Derived.Test.YtnffimpoekjkpaaGreatZFnExactSolvex32
import Derived.Test.YtnffimpoekjkpaaGreatZFnExactSolvex33
set_option linter.all false
namespace Go.Proofs.YtnffimpoekjkpaaGreat.QFnExactSolve
open Go.RowKit Go.Proofs.YtnffimpoekjkpaaGreatW.PrintWords Go.Proofs.YtnffimpoekjkpaaGreatW.PrintLast Go.Proofs.YtnffimpoekjkpaaGreatW.PrintMore
section
variable {nd : List S89}
theorem ip' {k : Nat} : ∀ {n r : Int},Qf' nd k n = some r → Qf' nd (k + 1) n = some r:=by
 induction k with
 | zero=>intro n r h;cases h
 | succ k ih =>
  intro n r h
  rw [Qf'] at h
  rw [Qf']
  split at h
  ·split at h
   ·rw [if_pos ‹_›,if_pos ‹_›];exact h
   rw [if_pos ‹_›,if_neg ‹_›];exact ih h
  cases h
theorem Ae' (hw : WFn nd) {n : Int} (hn : inR n nd.length) : topI nd n = if (td' nd n).f2 = -1 then n else topI nd (td' nd n).f2:=by
 have h:=xh' hw hn
 rw [Qf',if_pos hn] at h
 by_cases c : (td' nd n).f2 = -1
 ·rw [if_pos c] at h ⊢
  exact (Option.some.inj h).symm
 rw [if_neg c] at h ⊢
 have hu:=(hw n hn).resolve_left c
 have h2:=xh' hw (n:=(td' nd n).f2) ⟨Ya',hu.2⟩
 exact Option.some.inj ((ip' h).symm.trans h2)
theorem jp' {a : Int} {k : Nat} : ∀ {n : Int} {r : Bool},Rf' nd a k n = some r → Rf' nd a (k + 1) n = some r:=by
 induction k with
 | zero=>intro n r h;cases h
 | succ k ih =>
  intro n r h
  rw [Rf'] at h
  rw [Rf']
  split at h
  ·rw [if_pos ‹_›];exact h
  split at h
  ·rw [if_neg ‹_›,if_pos ‹_›];exact h
  split at h
  ·rw [if_neg ‹_›,if_neg ‹_›,if_pos ‹_›];exact ih h
  cases h
theorem ge' (n : Int) (h : n ≠ -1) : Ad' nd n (-1) = false:=by
 rw [Ad',Rf',if_pos rfl,decide_eq_false h]
 rfl
theorem Sd' (hw : WFn nd) {n v : Int} (hn : n ≠ -1) (hv : inR v nd.length) : Ad' nd n v = if v = n then true else Ad' nd n (td' nd v).f2:=by
 have h:=yh' hw n (.inr hv)
 rw [Rf',if_neg Mb'] at h
 by_cases c : v = n
 ·rw [if_pos c] at h ⊢
  exact (Option.some.inj h).symm
 rw [if_neg c] at h ⊢
 rw [if_pos hv] at h
 have h2:=yh' hw n (v:=(td' nd v).f2) (te' hw hv)
 exact Option.some.inj ((jp' h).symm.trans h2)
theorem pg' (hw : WFn nd) {v : Int} (hv : inR v nd.length) : Ad' nd v v = true:=by
 rw [Sd' hw Mb' hv,if_pos rfl]
theorem af' (hw : WFn nd) {P : Int → Prop} (h : ∀ v,inR v nd.length → ((td' nd v).f2 ≠ -1 → inR (td' nd v).f2 nd.length → P (td' nd v).f2) → P v) : ∀ v,inR v nd.length → P v:=by
 have key : ∀ (k : Nat) (v : Int),inR v nd.length → (nd.length : Int) ≤ v + k → P v:=by
  intro k
  induction k with
  | zero=>intro v hv hk;have:=hv.2;omega
  | succ k ih =>
   intro v hv hk
   refine h v hv fun hu hr=>ih _ hr ?_
   have:=(hw v hv).resolve_left hu
   omega
 intro v hv
 exact key nd.length v hv Mb'
theorem qq' (hw : WFn nd) {n : Int} (hn : inR n nd.length) : (td' nd (topI nd n)).f2 = -1:=by
 revert n
 have:=af' hw (P:=fun n=>(td' nd (topI nd n)).f2 = -1) fun v hv ih=>by
  rw [Ae' hw hv]
  split
  ·assumption
  rename_i c
  exact ih c ((te' hw hv).resolve_left c)
 exact fun {n} hn=>this n hn
theorem Xe' (hw : WFn nd) {n : Int} (hn : inR n nd.length) (h : (td' nd n).f2 = -1) : topI nd n = n:=by
 rw [Ae' hw hn,if_pos h]
theorem Gi' (hw : WFn nd) {n : Int} (hn : inR n nd.length) : Ad' nd (topI nd n) n = true:=by
 revert n
 have:=af' hw (P:=fun n=>Ad' nd (topI nd n) n = true) fun v hv ih=>by
  have h0:=(Nd' hw hv).1
  rw [Sd' hw aa' hv]
  split
  ·rfl
  rename_i c
  have c2 : (td' nd v).f2 ≠ -1:=fun e=>c (Xe' hw hv e).symm
  rw [Ae' hw hv,if_neg c2]
  exact ih c2 ((te' hw hv).resolve_left c2)
 exact fun {n} hn=>this n hn
theorem Yg' (hw : WFn nd) {a : Int} (ha : inR a nd.length) {v : Int} (hv : inR v nd.length) : Ad' nd a v = true → topI nd v = topI nd a:=by
 revert v
 have:=af' hw (P:=fun v=>Ad' nd a v = true → topI nd v = topI nd a) fun v hv ih h=>by
  have h0:=ha.1
  rw [Sd' hw aa' hv] at h
  split at h
  ·rename_i c;rw [c]
  have c2 : (td' nd v).f2 ≠ -1:=fun e=>by rw [e,ge' a aa'] at h;cases h
  rw [Ae' hw hv,if_neg c2]
  exact ih c2 ((te' hw hv).resolve_left c2) h
 exact fun {v} hv=>this v hv
theorem kp' (hw : WFn nd) {a : Int} (ha : inR a nd.length) (hu : (td' nd a).f2 ≠ -1) {v : Int} (hv : inR v nd.length) : Ad' nd a v = true → Ad' nd (td' nd a).f2 v = true:=by
 revert v
 have hua:=(te' hw ha).resolve_left hu
 have:=af' hw (P:=fun v=>Ad' nd a v = true → Ad' nd (td' nd a).f2 v = true) fun v hv ih h=>by
  have h0:=ha.1
  have h1:=hua.1
  rw [Sd' hw aa' hv] at h
  rw [Sd' hw aa' hv]
  split
  ·rfl
  split at h
  ·rename_i c;subst c
   exact pg' hw hua
  have c2 : (td' nd v).f2 ≠ -1:=fun e=>by rw [e,ge' a aa'] at h;cases h
  exact ih c2 ((te' hw hv).resolve_left c2) h
 exact fun {v} hv=>this v hv
theorem fi' (hw : WFn nd) {a : Int} (ha : inR a nd.length) {v : Int} (hv : inR v nd.length) : Ad' nd a v = true → v ≤ a:=by
 revert v
 have:=af' hw (P:=fun v=>Ad' nd a v = true → v ≤ a) fun v hv ih h=>by
  have h0:=ha.1
  rw [Sd' hw aa' hv] at h
  split at h
  ·omega
  have c2 : (td' nd v).f2 ≠ -1:=fun e=>by rw [e,ge' a aa'] at h;cases h
  have:=ih c2 ((te' hw hv).resolve_left c2) h
  have:=(hw v hv).resolve_left c2
  omega
 exact fun {v} hv=>this v hv
theorem Nl' (hw : WFn nd) {a b : Int} (ha : inR a nd.length) (hb : inR b nd.length) (hab : Ad' nd a b = true) {v : Int} (hv : inR v nd.length) : Ad' nd b v = true → Ad' nd a v = true:=by
 revert v
 have:=af' hw (P:=fun v=>Ad' nd b v = true → Ad' nd a v = true) fun v hv ih h=>by
  have h0:=ha.1
  have h1:=hb.1
  rw [Sd' hw aa' hv] at h
  split at h
  ·rename_i c;rw [c];exact hab
  have c2 : (td' nd v).f2 ≠ -1:=fun e=>by rw [e,ge' b aa'] at h;cases h
  rw [Sd' hw aa' hv]
  split
  ·rfl
  exact ih c2 ((te' hw hv).resolve_left c2) h
 exact fun {v} hv=>this v hv
theorem Lk' (hw : WFn nd) {a b : Int} (ha : inR a nd.length) (hb : inR b nd.length) {v : Int} (hv : inR v nd.length) : Ad' nd a v = true → Ad' nd b v = true → Ad' nd a b = true ∨ Ad' nd b a = true:=by
 revert v
 have:=af' hw (P:=fun v=>Ad' nd a v = true → Ad' nd b v = true → Ad' nd a b = true ∨ Ad' nd b a = true) fun v hv ih h k=>by
  have h0:=ha.1
  have h1:=hb.1
  by_cases c : v = a
  ·subst c;exact .inr k
  by_cases d : v = b
  ·subst d;exact .inl h
  rw [Sd' hw aa' hv,if_neg c] at h
  rw [Sd' hw aa' hv,if_neg d] at k
  have c2 : (td' nd v).f2 ≠ -1:=fun e=>by rw [e,ge' a aa'] at h;cases h
  exact ih c2 ((te' hw hv).resolve_left c2) h k
 exact fun {v} hv=>this v hv
theorem we' (hw : WFn nd) {a : Int} (ha : inR a nd.length) (ht : (td' nd a).f2 = -1) {v : Int} (hv : inR v nd.length) : Ad' nd a v = true ↔ topI nd v = a :=
 ⟨fun h=>(Yg' hw ha hv h).trans (Xe' hw ha ht),fun h=>by rw [← h];exact Gi' hw hv⟩
theorem Mk' (hw : WFn nd) {a b n : Int} (ha : inR a nd.length) (hb : inR b nd.length) (ua : (td' nd a).f2 = n) (ub : (td' nd b).f2 = n) (hn : n ≠ -1) {v : Int} (hv : inR v nd.length) (h : Ad' nd a v = true) (k : Ad' nd b v = true) : a = b:=by
 have h0:=ha.1
 have h1:=hb.1
 have hnn : inR n nd.length:=by rw [← ua];exact (te' hw ha).resolve_left (by rw [ua];exact hn)
 have na : a < n:=by have:=(hw a ha).resolve_left (by rw [ua];exact hn);rw [ua] at this;exact this.1
 have nb : b < n:=by have:=(hw b hb).resolve_left (by rw [ub];exact hn);rw [ub] at this;exact this.1
 rcases Lk' hw ha hb hv h k with c|c
 ·rw [Sd' hw aa' hb] at c
  split at c
  ·rename_i e;exact e.symm
  rw [ub] at c;have:=fi' hw ha hnn c;omega
 rw [Sd' hw aa' ha] at c
 split at c
 ·rename_i e;exact e
 rw [ua] at c;have:=fi' hw hb hnn c;omega
end
def We' (f : Int → Int) : Nat → Int
 | 0=>0
 | k + 1=>We' f k + f k
theorem Nf' {f g : Int → Int} : ∀ {k : Nat},(∀ i : Int,0 ≤ i → i < k → f i = g i) → We' f k = We' g k
 | 0,_=>rfl
 | k + 1,h=>by rw [We',We',Nf' fun i h0 h1=>h i h0 aa',h k aa' aa']
theorem qg' {f : Int → Int} : ∀ {k : Nat},(∀ i : Int,0 ≤ i → i < k → f i = 0) → We' f k = 0
 | 0,_=>rfl
 | k + 1,h=>by rw [We',qg' fun i h0 h1=>h i h0 aa',h k aa' aa'];rfl
theorem Dm' {f g : Int → Int} : ∀ {k : Nat},We' (fun i=>f i + g i) k = We' f k + We' g k
 | 0=>rfl
 | k + 1=>by rw [We',We',We',Dm'];omega
theorem jk' {f g : Int → Int} {a : Int} : ∀ {k : Nat},0 ≤ a → a < k → (∀ i : Int,0 ≤ i → i < k → i ≠ a → f i = g i) → We' f k = We' g k - g a + f a
 | 0,h0,h1,_=>by omega
 | k + 1,h0,h1,h=>by
  rw [We',We']
  by_cases c : a = k
  ·subst c
   rw [Nf' fun i h0 h1=>h i h0 aa' aa']
   omega
  rw [jk' h0 aa' fun i h0 h1 hi=>h i h0 aa' hi,h k aa' aa' (Ne.symm c)]
  omega
theorem Nk' {f : Int → Int} {b : Int} : ∀ {k : Nat},(∀ i : Int,0 ≤ i → i < k → 0 ≤ f i ∧ f i ≤ b) → 0 ≤ We' f k ∧ We' f k ≤ k * b
 | 0,_=>⟨Int.le_refl _,by simp [We']⟩
 | k + 1,h=>by
  rw [We']
  have:=Nk' (f:=f) (k:=k) fun i h0 h1=>h i h0 aa'
  have:=h k aa' aa'
  rw [show ((k + 1 : Nat) : Int) * b = k * b + b by rw [Int.natCast_add,Int.add_mul];simp]
  omega
theorem Ol' {f : Int → Int} : ∀ {k : Nat},(∀ i : Int,0 ≤ i → i < k → f i % 2 = 0) → We' f k % 2 = 0
 | 0,_=>rfl
 | k + 1,h=>by
  rw [We']
  have:=Ol' (f:=f) (k:=k) fun i h0 h1=>h i h0 aa'
  have:=h k aa' aa'
  omega
section
variable {nd : List S89}
def zOf (nd : List S89) (a b i : Int) : Int:=if Ad' nd i a = true ∧ Ad' nd i b = true then (td' nd i).f5 else 0
def Qe' (nd : List S89) (a b : Int) : Int:=We' (zOf nd a b) nd.length
theorem Io' (a : Int) : Qe' nd (-1) a = 0:=qg' fun i h0 h1=>if_neg fun h=>by rw [ge' i aa'] at h;exact absurd h.1 ba'
theorem rj' (hw : WFn nd) {a : Int} (ha : inR a nd.length) (b : Int) : Qe' nd a b = (if Ad' nd a b = true then (td' nd a).f5 else 0) + Qe' nd (td' nd a).f2 b:=by
 have hself : Ad' nd a (td' nd a).f2 = false:=by
  rcases te' hw ha with h|h
  ·rw [h];exact ge' a (by have:=ha.1;omega)
  cases e : Ad' nd a (td' nd a).f2 with
  | false=>rfl
  | true =>
   have h1:=fi' hw ha h e
   rcases hw a ha with h2|h2
   ·have:=h.1;omega
   omega
 have key : We' (zOf nd a b) nd.length = We' (zOf nd (td' nd a).f2 b) nd.length - zOf nd (td' nd a).f2 b a + zOf nd a b a:=by
  refine jk' ha.1 ha.2 fun i h0 h1 hi=>?_
  rw [zOf,zOf,Sd' hw aa' ha,if_neg (Ne.symm hi)]
 rw [Qe',key,Qe']
 have e1 : zOf nd (td' nd a).f2 b a = 0:=by rw [zOf,hself,if_neg ia']
 have e2 : zOf nd a b a = if Ad' nd a b = true then (td' nd a).f5 else 0:=by
  rw [zOf,pg' hw ha]
  simp only [true_and]
 rw [e1,e2]
 omega
theorem Jo' {a b Z : Int} (hz : ∀ i,inR i nd.length → 0 ≤ zOf nd a b i ∧ zOf nd a b i ≤ Z) : 0 ≤ Qe' nd a b ∧ Qe' nd a b ≤ nd.length * Z:=Nk' fun i h0 h1=>hz i ⟨h0,h1⟩
end
structure RI where
 y : List Int
 nd : List (S77)
 mt : List (S56)
 rn : Int
 dn : Bool
structure Rn (w0 W : World) (Z : Nat → Prop) (wz : World) (g : Nat) (N : Int) (Ae : Option Addr) (ce : Nat) (es : List (S73)) (col : Nat → Nat) (vy vn vm : Value) (s : RI) : Prop where
 blk : W.heap[g]? = some (.cells #[.int .i64 N,.slice Ae es.length ce,vy,vn,vm,.int .i64 s.rn,.bool s.dn] 51 (0,0))
 ge : w0.heap.size ≤ g
 hb : Below w0.heap.size w0 W
 he : Kd.C k73 w0 Ae es.length es
 hec : es.length ≤ ce
 ry : Kd.R (Kd.int .i64) 3 W w0.heap.size (fun k=>col k = 1) vy s.y
 rn : Kd.R k77 77 W w0.heap.size (fun k=>col k = 2) vn s.nd
 rm : Kd.R k56 56 W w0.heap.size (fun k=>col k = 3) vm s.mt
 hz : ∀ k,Z k → 4 ≤ col k ∧ k ≠ g ∧ k < W.heap.size ∧ W.heap[k]? = wz.heap[k]?
theorem lg' : ∀ q,q ∈ 3 :: (Kd.int .i64).E → q ≠ 51:=by intro q hq;obtain rfl : q = 3:=List.mem_singleton.1 hq;decide
theorem zh' : ∀ q,q ∈ 56 :: k56.E → q ≠ 51:=by
 intro q hq
 have hq : q ∈ ([56] : List Nat):=hq
 obtain rfl : q = 56:=List.mem_singleton.1 hq
 decide
theorem sj' : ∀ q,q ∈ 77 :: k77.E → q ≠ 51:=by
 intro q hq
 have hq : q ∈ ([77,3,56] : List Nat):=hq
 simp only [List.mem_cons,List.not_mem_nil,or_false] at hq
 rcases hq with rfl|rfl|rfl <;> decide
section
variable {w0 W W1 : World} {Z : Nat → Prop} {wz : World} {g : Nat} {N : Int} {Ae : Option Addr} {ce : Nat} {es : List (S73)} {col : Nat → Nat} {vy vn vm : Value} {s : RI}
theorem hz_to (h : ∀ k,Z k → 4 ≤ col k ∧ k ≠ g ∧ k < W.heap.size ∧ W.heap[k]? = wz.heap[k]?) (hs : W.heap.size ≤ W1.heap.size) (hk : ∀ k,4 ≤ col k → k ≠ g → k < W.heap.size → W1.heap[k]? = W.heap[k]?) : ∀ k,Z k → 4 ≤ col k ∧ k ≠ g ∧ k < W1.heap.size ∧ W1.heap[k]? = wz.heap[k]? :=
 fun k hz=>by obtain ⟨h1,h2,h3,h4⟩:=h k hz;exact ⟨h1,h2,Nat.lt_of_lt_of_le h3 hs,(hk k h1 h2 h3).trans h4⟩
theorem Rn.to (h : Rn w0 W Z wz g N Ae ce es col vy vn vm s) (hb : Below W.heap.size W W1:=by repeat (first|exact Below.refl _ _|apply qo|apply qd|apply qh)) : Rn w0 W1 Z wz g N Ae ce es col vy vn vm s :=
 ⟨qx h.blk hb,h.ge,qy h.hb hb,h.he,h.hec,Kd.R_below h.ry hb,Kd.R_below h.rn hb,Kd.R_below h.rm hb,hz_to h.hz hb.size fun k _ _ hk=>hb.block k hk⟩
theorem Rn.cells (h : Rn w0 W Z wz g N Ae ce es col vy vn vm s) : W.cell? ⟨g,0,none⟩ = some (.int .i64 N) ∧ W.cell? ⟨g,1,none⟩ = some (.slice Ae es.length ce) ∧ W.cell? ⟨g,2,none⟩ = some vy ∧ W.cell? ⟨g,3,none⟩ = some vn ∧ W.cell? ⟨g,4,none⟩ = some vm ∧ W.cell? ⟨g,5,none⟩ = some (.int .i64 s.rn) ∧ W.cell? ⟨g,6,none⟩ = some (.bool s.dn) :=
 ⟨(qq h.blk 0).trans rfl,(qq h.blk 1).trans rfl,(qq h.blk 2).trans rfl,(qq h.blk 3).trans rfl,(qq h.blk 4).trans rfl,(qq h.blk 5).trans rfl,(qq h.blk 6).trans rfl⟩
theorem Rn.frz (h : Rn w0 W Z wz g N Ae ce es col vy vn vm s) : W.frozen? ⟨g,2,none⟩ = false ∧ W.frozen? ⟨g,3,none⟩ = false ∧ W.frozen? ⟨g,4,none⟩ = false ∧ W.frozen? ⟨g,5,none⟩ = false ∧ W.frozen? ⟨g,6,none⟩ = false :=
 ⟨qu h.blk 2,qu h.blk 3,qu h.blk 4,qu h.blk 5,qu h.blk 6⟩
theorem gi' {b o : Nat} {v : Value} (h : ∀ k,Z k → 4 ≤ col k ∧ k ≠ g ∧ k < W.heap.size ∧ W.heap[k]? = wz.heap[k]?) (hb : b = g ∨ col b < 4) : ∀ k,Z k → 4 ≤ col k ∧ k ≠ g ∧ k < (W.setCell ⟨b,o,none⟩ v).heap.size ∧ (W.setCell ⟨b,o,none⟩ v).heap[k]? = wz.heap[k]? :=
 fun k hz=>by
  obtain ⟨h1,h2,h3,h4⟩:=h k hz
  have hne : k ≠ b:=by rintro rfl;rcases hb with e|e <;> omega
  exact ⟨h1,h2,by simpa using h3,(Below.heap_setCell W ⟨b,o,none⟩ v k hne).trans h4⟩
theorem Rn.fm {v : Value} {ys : List (S56)} (h : Rn w0 W Z wz g N Ae ce es col vy vn vm s) (hv : Kd.R k56 56 W w0.heap.size (fun k=>col k = 3) v ys) : Rn w0 (W.setCell ⟨g,4,none⟩ v) Z wz g N Ae ce es col vy vn v { s with mt:=ys } :=
 ⟨by simpa using be' h.blk 4 v,h.ge,qp h.hb h.ge,h.he,h.hec,Kd.R_set h.ry h.blk lg' _ _,Kd.R_set h.rn h.blk sj' _ _,Kd.R_set hv h.blk zh' _ _,gi' h.hz (.inl rfl)⟩
theorem Rn.fr (h : Rn w0 W Z wz g N Ae ce es col vy vn vm s) (x : Int) : Rn w0 (W.setCell ⟨g,5,none⟩ (.int .i64 x)) Z wz g N Ae ce es col vy vn vm { s with rn:=x } :=
 ⟨by simpa using be' h.blk 5 (.int .i64 x),h.ge,qp h.hb h.ge,h.he,h.hec,Kd.R_set h.ry h.blk lg' _ _,Kd.R_set h.rn h.blk sj' _ _,Kd.R_set h.rm h.blk zh' _ _,gi' h.hz (.inl rfl)⟩
theorem Rn.fd (h : Rn w0 W Z wz g N Ae ce es col vy vn vm s) (x : Bool) : Rn w0 (W.setCell ⟨g,6,none⟩ (.bool x)) Z wz g N Ae ce es col vy vn vm { s with dn:=x } :=
 ⟨by simpa using be' h.blk 6 (.bool x),h.ge,qp h.hb h.ge,h.he,h.hec,Kd.R_set h.ry h.blk lg' _ _,Kd.R_set h.rn h.blk sj' _ _,Kd.R_set h.rm h.blk zh' _ _,gi' h.hz (.inl rfl)⟩
theorem Rn.recol {col' : Nat → Nat} (h : Rn w0 W Z wz g N Ae ce es col vy vn vm s) (hc : ∀ k,k < W.heap.size → col' k = col k) : Rn w0 W Z wz g N Ae ce es col' vy vn vm s :=
 ⟨h.blk,h.ge,h.hb,h.he,h.hec,ve' h.ry hc,ve' h.rn hc,ve' h.rm hc,fun k hz=>by obtain ⟨h1,h2,h3,h4⟩:=h.hz k hz;exact ⟨by rw [hc k h3];exact h1,h2,h3,h4⟩⟩
theorem Rn.ahead (h : Rn w0 W Z wz g N Ae ce es col vy vn vm s) (c : Nat) : Rn w0 W Z wz g N Ae ce es (fun k=>if W.heap.size ≤ k then c else col k) vy vn vm s :=
 h.recol fun k hk=>by rw [if_neg aa']
theorem Rn.keep {Z' : Nat → Prop} (h : Rn w0 W Z wz g N Ae ce es col vy vn vm s) (hz : ∀ k,Z' k → 4 ≤ col k ∧ k ≠ g ∧ k < W.heap.size) : Rn w0 W Z' W g N Ae ce es col vy vn vm s :=
 ⟨h.blk,h.ge,h.hb,h.he,h.hec,h.ry,h.rn,h.rm,fun k hk=>⟨(hz k hk).1,(hz k hk).2.1,(hz k hk).2.2,rfl⟩⟩
theorem Rn.sy {b c : Nat} {n : Nat} (h : Rn w0 W Z wz g N Ae ce es col (.slice (some ⟨b,0,none⟩) n c) vn vm s) (i : Int) (x : Int) : Rn w0 (W.setCell ⟨b,i.toNat,none⟩ (.int .i64 x)) Z wz g N Ae ce es col (.slice (some ⟨b,0,none⟩) n c) vn vm { s with y:=s.y.set i.toNat x }:=by
 have hc : col b = 1:=h.ry.1 b rfl
 obtain ⟨ds,hd⟩:=row_blk h.ry
 exact ⟨Oe' h.blk hd ba',h.ge,qp h.hb (Kd.R_base h.ry b rfl),h.he,h.hec,Kd.R_putn h.ry i x,je' h.rn hc ba',je' h.rm hc ba',gi' h.hz (.inr aa')⟩
theorem Rn.sn {b c n : Nat} (h : Rn w0 W Z wz g N Ae ce es col vy (.slice (some ⟨b,0,none⟩) n c) vm s) (i : Int) (h0 : 0 ≤ i) (h1 : i < s.nd.length) (j : Nat) (u : Value) (x' : S77) (hj : j < 6) (hx : ∀ v0 v1 : Value,[v0,v1,.int .i64 x'.f2,.int .i64 x'.f3,.int .i64 x'.f4,.bool x'.f5] = ([v0,v1,.int .i64 (wd' s.nd i).f2,.int .i64 (wd' s.nd i).f3,.int .i64 (wd' s.nd i).f4,.bool (wd' s.nd i).f5]).take j ++ [u] ++ ([v0,v1,.int .i64 (wd' s.nd i).f2,.int .i64 (wd' s.nd i).f3,.int .i64 (wd' s.nd i).f4,.bool (wd' s.nd i).f5]).drop (j + 1)) (hm : x'.f0 = (wd' s.nd i).f0 ∧ x'.f1 = (wd' s.nd i).f1) :
  Rn w0 (W.setCell ⟨b,i.toNat * 6 + j,none⟩ u) Z wz g N Ae ce es col vy (.slice (some ⟨b,0,none⟩) n c) vm { s with nd:=s.nd.set i.toNat x' }:=by
 have hc : col b = 2:=h.rn.1 b rfl
 obtain ⟨ds,hd⟩:=row_blk h.rn
 have hn:=(Kd.R_reads' h.rn).1
 obtain ⟨cl,hcl,hM,hcc,hfr⟩:=Kd.R_elem h.rn z77 i h0 aa'
 have hM':=hM
 obtain ⟨v0,v1,e,g0,g1⟩:=Fl' hM
 have hr:=(Kd.R_seg h.rn i h0 aa' (seg:=[u]) (j:=j) (x':=x') (okp:=fun k=>col k = 2 ∧ k ≠ b) hcl hcc (by show j + 1 ≤ 6;omega) (by
  have:=ol' W w0.heap.size (fun k=>col k = 2 ∧ k ≠ b) x' (v0:=v0) (by rw [hm.1];exact g0) (v1:=v1) (by rw [hm.2];exact g1)
  rw [hx v0 v1] at this
  rw [e]
  exact this) (fun _ h=>h)).1
 exact ⟨Oe' h.blk hd ba',h.ge,qp h.hb (Kd.R_base h.rn b rfl),h.he,h.hec,je' h.ry hc ba',hr,je' h.rm hc ba',gi' h.hz (.inr aa')⟩
theorem Em' {row : Option Nat} {w1 : World} (h : ∀ k,Z k → 4 ≤ col k ∧ k ≠ g ∧ k < W.heap.size ∧ W.heap[k]? = wz.heap[k]?) (hg : W.grownBy w1 row) (hs : W.heap.size ≤ w1.heap.size) (hr : ∀ k,row = some k → col k < 4) : ∀ k,Z k → 4 ≤ col k ∧ k ≠ g ∧ k < w1.heap.size ∧ w1.heap[k]? = wz.heap[k]? :=
 fun k hz=>by
  obtain ⟨h1,h2,h3,h4⟩:=h k hz
  have hne : some k ≠ row:=fun e=>by have:=hr k e.symm;omega
  exact ⟨h1,h2,Nat.lt_of_lt_of_le h3 hs,(hg.block k h3 hne).trans h4⟩
theorem Rn.app_m {w1 : World} {v1 : Value} {ys : List (S56)} (h : Rn w0 W Z wz g N Ae ce es col vy vn vm s) (ho : Kd.R k56 56 w1 w0.heap.size (fun k=>col k = 3) v1 ys) (hb : Below w0.heap.size w0 w1) (hg : W.grownBy w1 vm.ownBlock) :
  Rn w0 (w1.setCell ⟨g,4,none⟩ v1) Z wz g N Ae ce es col vy vn v1 { s with mt:=ys } ∧ w1.cell? ⟨g,4,none⟩ = some vm ∧ w1.frozen? ⟨g,4,none⟩ = false:=by
 have b1:=le' h.blk hg (Kd.R_ne h.rm h.blk ba')
 have hne : ∀ {c : Nat},c ≠ 3 → ∀ k,col k = c → some k ≠ vm.ownBlock:=fun hc k hk e=>hc (by rw [← hk];exact h.rm.1 k e.symm)
 exact ⟨⟨by simpa using be' b1 4 v1,h.ge,qp hb h.ge,h.he,h.hec,Kd.R_set (Kd.R_grown h.ry hg (hne ba')) b1 lg' _ _,Kd.R_set (Kd.R_grown h.rn hg (hne ba')) b1 sj' _ _,Kd.R_set ho b1 zh' _ _,gi' (Em' h.hz hg hg.size fun k e=>by have:=h.rm.1 k e;omega) (.inl rfl)⟩,(qq b1 4).trans rfl,qu b1 4⟩
theorem Rn.app_n {w1 : World} {v1 : Value} {ys : List (S77)} (h : Rn w0 W Z wz g N Ae ce es col vy vn vm s) (ho : Kd.R k77 77 w1 w0.heap.size (fun k=>col k = 2) v1 ys) (hb : Below w0.heap.size w0 w1) (hg : W.grownBy w1 vn.ownBlock) :
  Rn w0 (w1.setCell ⟨g,3,none⟩ v1) Z wz g N Ae ce es col vy v1 vm { s with nd:=ys } ∧ w1.cell? ⟨g,3,none⟩ = some vn ∧ w1.frozen? ⟨g,3,none⟩ = false:=by
 have b1:=le' h.blk hg (Kd.R_ne h.rn h.blk ba')
 have hne : ∀ {c : Nat},c ≠ 2 → ∀ k,col k = c → some k ≠ vn.ownBlock:=fun hc k hk e=>hc (by rw [← hk];exact h.rn.1 k e.symm)
 exact ⟨⟨by simpa using be' b1 3 v1,h.ge,qp hb h.ge,h.he,h.hec,Kd.R_set (Kd.R_grown h.ry hg (hne ba')) b1 lg' _ _,Kd.R_set ho b1 sj' _ _,Kd.R_set (Kd.R_grown h.rm hg (hne ba')) b1 zh' _ _,gi' (Em' h.hz hg hg.size fun k e=>by have:=h.rn.1 k e;omega) (.inl rfl)⟩,(qq b1 3).trans rfl,qu b1 3⟩
end
structure TI where
 lb : List Int
 ah : List (S56)
 rt : List Int
structure Tp (W : World) (base : Nat) (gt : Nat) (col : Nat → Nat) (vl va vr : Value) (t : TI) : Prop where
 blk : W.heap[gt]? = some (.cells #[vl,va,vr] 102 (0,0))
 ge : base ≤ gt
 cg : col gt = 7
 rl : Kd.R (Kd.int .i64) 3 W base (fun k=>col k = 4) vl t.lb
 ra : Kd.R k56 56 W base (fun k=>col k = 5) va t.ah
 rr : Kd.R (Kd.int .i64) 3 W base (fun k=>col k = 6) vr t.rt
section
variable {W W1 : World} {base gt : Nat} {col col' : Nat → Nat} {vl va vr : Value} {t : TI}
theorem Tp.to (h : Tp W base gt col vl va vr t) (hb : Below W.heap.size W W1:=by repeat (first|exact Below.refl _ _|apply qo|apply qd|apply qh)) : Tp W1 base gt col vl va vr t :=
 ⟨qx h.blk hb,h.ge,h.cg,Kd.R_below h.rl hb,Kd.R_below h.ra hb,Kd.R_below h.rr hb⟩
theorem Tp.cells (h : Tp W base gt col vl va vr t) : W.cell? ⟨gt,0,none⟩ = some vl ∧ W.cell? ⟨gt,1,none⟩ = some va ∧ W.cell? ⟨gt,2,none⟩ = some vr :=
 ⟨(qq h.blk 0).trans rfl,(qq h.blk 1).trans rfl,(qq h.blk 2).trans rfl⟩
theorem Tp.recol (h : Tp W base gt col vl va vr t) (hc : ∀ k,k < W.heap.size → col' k = col k) : Tp W base gt col' vl va vr t :=
 ⟨h.blk,h.ge,(hc gt (ke' h.blk)).trans h.cg,ve' h.rl hc,ve' h.ra hc,ve' h.rr hc⟩
theorem Tp.ahead (h : Tp W base gt col vl va vr t) (c : Nat) : Tp W base gt (fun k=>if W.heap.size ≤ k then c else col k) vl va vr t :=
 h.recol fun k hk=>by rw [if_neg aa']
theorem Tp.far {b o : Nat} {u : Value} (h : Tp W base gt col vl va vr t) (hb : col b < 4 ∨ 7 < col b) : Tp (W.setCell ⟨b,o,none⟩ u) base gt col vl va vr t:=by
 have hn : ∀ {c : Nat},4 ≤ c ∧ c ≤ 7 → ∀ k,col k = c → k ≠ b:=fun hc k hk e=>by subst e;omega
 exact ⟨(Below.heap_setCell W ⟨b,o,none⟩ u gt (hn ba' gt h.cg)).trans h.blk,h.ge,h.cg,Kd.R_far (p:=⟨b,o,none⟩) h.rl (hn ba') u,Kd.R_far (p:=⟨b,o,none⟩) h.ra (hn ba') u,Kd.R_far (p:=⟨b,o,none⟩) h.rr (hn ba') u⟩
theorem Tp.grown {row : Option Nat} (h : Tp W base gt col vl va vr t) (hg : W.grownBy W1 row) (hr : ∀ k,row = some k → col k < 4 ∨ 7 < col k) : Tp W1 base gt col vl va vr t:=by
 have hn : ∀ {c : Nat},4 ≤ c ∧ c ≤ 7 → ∀ k,col k = c → some k ≠ row:=fun hc k hk e=>by have:=hr k e.symm;omega
 exact ⟨le' h.blk hg (hn ba' gt h.cg),h.ge,h.cg,Kd.R_grown h.rl hg (hn ba'),Kd.R_grown h.ra hg (hn ba'),Kd.R_grown h.rr hg (hn ba')⟩
theorem Tp.sl {b c n : Nat} (h : Tp W base gt col (.slice (some ⟨b,0,none⟩) n c) va vr t) (i x : Int) : Tp (W.setCell ⟨b,i.toNat,none⟩ (.int .i64 x)) base gt col (.slice (some ⟨b,0,none⟩) n c) va vr { t with lb:=t.lb.set i.toNat x }:=by
 have hc : col b = 4:=h.rl.1 b rfl
 have hne : gt ≠ b:=fun e=>by have:=h.cg;rw [e,hc] at this;cases this
 exact ⟨(Below.heap_setCell W ⟨b,i.toNat,none⟩ _ gt hne).trans h.blk,h.ge,h.cg,Kd.R_putn h.rl i x,je' h.ra hc ba',je' h.rr hc ba'⟩
theorem Tp.sr {b c n : Nat} (h : Tp W base gt col vl va (.slice (some ⟨b,0,none⟩) n c) t) (i x : Int) : Tp (W.setCell ⟨b,i.toNat,none⟩ (.int .i64 x)) base gt col vl va (.slice (some ⟨b,0,none⟩) n c) { t with rt:=t.rt.set i.toNat x }:=by
 have hc : col b = 6:=h.rr.1 b rfl
 have hne : gt ≠ b:=fun e=>by have:=h.cg;rw [e,hc] at this;cases this
 exact ⟨(Below.heap_setCell W ⟨b,i.toNat,none⟩ _ gt hne).trans h.blk,h.ge,h.cg,je' h.rl hc ba',je' h.ra hc ba',Kd.R_putn h.rr i x⟩
end
theorem k56_seg {W : World} {base b n c : Nat} {ok : Nat → Prop} {xs : List (S56)} (h : Kd.R k56 56 W base ok (.slice (some ⟨b,0,none⟩) n c) xs) (i : Int) (h0 : 0 ≤ i) (h1 : i < xs.length) (u v : Int) :
  Kd.R k56 56 ((W.setCell ⟨b,i.toNat * 2,none⟩ (.int .i64 u)).setCell ⟨b,i.toNat * 2 + 1,none⟩ (.int .i64 v)) base ok (.slice (some ⟨b,0,none⟩) n c) (xs.set i.toNat ⟨u,v⟩):=by
 have hn:=(Kd.R_reads' h).1
 obtain ⟨cl,hcl,hM,hcc,hfr⟩:=Kd.R_elem h z56 i h0 aa'
 have e:=El' hM
 have hr:=(Kd.R_seg h i h0 aa' (seg:=[.int .i64 u,.int .i64 v]) (j:=0) (x':=(⟨u,v⟩ : S56)) (okp:=fun k=>ok k ∧ k ≠ b) hcl hcc (Nat.le_refl 2) (by rw [e];exact cf' W base _ (⟨u,v⟩ : S56)) (fun _ h=>h)).1
 exact hr
section
variable {W : World} {base gt : Nat} {col : Nat → Nat} {vl va vr : Value} {t : TI}
theorem Tp.sa {b c n : Nat} (h : Tp W base gt col vl (.slice (some ⟨b,0,none⟩) n c) vr t) (i : Int) (h0 : 0 ≤ i) (h1 : i < t.ah.length) (u v : Int) :
  Tp ((W.setCell ⟨b,i.toNat * 2,none⟩ (.int .i64 u)).setCell ⟨b,i.toNat * 2 + 1,none⟩ (.int .i64 v)) base gt col vl (.slice (some ⟨b,0,none⟩) n c) vr { t with ah:=t.ah.set i.toNat ⟨u,v⟩ }:=by
 have hc : col b = 5:=h.ra.1 b rfl
 have hne : gt ≠ b:=fun e=>by have:=h.cg;rw [e,hc] at this;cases this
 exact ⟨((Below.heap_setCell _ ⟨b,i.toNat * 2 + 1,none⟩ _ gt hne).trans (Below.heap_setCell W ⟨b,i.toNat * 2,none⟩ _ gt hne)).trans h.blk,h.ge,h.cg,je' (je' h.rl hc ba') hc ba',k56_seg h.ra i h0 h1 u v,je' (je' h.rr hc ba') hc ba'⟩
end
end Go.Proofs.YtnffimpoekjkpaaGreat.QFnExactSolve
