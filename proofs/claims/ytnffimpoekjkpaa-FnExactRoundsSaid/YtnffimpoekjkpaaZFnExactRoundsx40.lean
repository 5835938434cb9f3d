/- The solver's plain law: a forest of nodes: its tops, what lies within, the slack as one sum. -/
import Derived.Test.YtnffimpoekjkpaaZFnExactRoundsx32
namespace Go.Proofs.Ytnffimpoekjkpaa.QFnExactRounds
open Go.RowKit Go.Proofs.YtnffimpoekjkpaaW.PrintWords Go.Proofs.YtnffimpoekjkpaaW.PrintLast Go.Proofs.YtnffimpoekjkpaaW.PrintMore
set_option linter.unusedVariables false
set_option linter.unusedSimpArgs false
section
variable {nd : List S60}
theorem topF_mono {k : Nat} : ∀ {n r : Int},topF nd k n = some r → topF nd (k + 1) n = some r:=by
 induction k with
 | zero=>intro n r h;cases h
 | succ k ih =>
  intro n r h
  rw [topF] at h
  rw [topF]
  split at h
  ·split at h
   ·rw [if_pos ‹_›,if_pos ‹_›];exact h
   rw [if_pos ‹_›,if_neg ‹_›];exact ih h
  cases h
theorem topI_step (hw : WFn nd) {n : Int} (hn : inR n nd.length) : topI nd n = if (rd_T60 nd n).f2 = -1 then n else topI nd (rd_T60 nd n).f2:=by
 have h:=top_is hw hn
 rw [topF,if_pos hn] at h
 by_cases c : (rd_T60 nd n).f2 = -1
 ·rw [if_pos c] at h ⊢
  exact (Option.some.inj h).symm
 rw [if_neg c] at h ⊢
 have hu:=(hw n hn).resolve_left c
 have h2:=top_is hw (n:=(rd_T60 nd n).f2) ⟨by have:=hn.1;omega,hu.2⟩
 exact Option.some.inj ((topF_mono h).symm.trans h2)
theorem hasF_mono {a : Int} {k : Nat} : ∀ {n : Int} {r : Bool},hasF nd a k n = some r → hasF nd a (k + 1) n = some r:=by
 induction k with
 | zero=>intro n r h;cases h
 | succ k ih =>
  intro n r h
  rw [hasF] at h
  rw [hasF]
  split at h
  ·rw [if_pos ‹_›];exact h
  split at h
  ·rw [if_neg ‹_›,if_pos ‹_›];exact h
  split at h
  ·rw [if_neg ‹_›,if_neg ‹_›,if_pos ‹_›];exact ih h
  cases h
theorem hasI_none (n : Int) (h : n ≠ -1) : hasI nd n (-1) = false:=by
 rw [hasI,hasF,if_pos rfl,decide_eq_false h]
 rfl
theorem hasI_step (hw : WFn nd) {n v : Int} (hn : n ≠ -1) (hv : inR v nd.length) : hasI nd n v = if v = n then true else hasI nd n (rd_T60 nd v).f2:=by
 have h:=has_is hw n (.inr hv)
 rw [hasF,if_neg (by have:=hv.1;omega)] at h
 by_cases c : v = n
 ·rw [if_pos c] at h ⊢
  exact (Option.some.inj h).symm
 rw [if_neg c] at h ⊢
 rw [if_pos hv] at h
 have h2:=has_is hw n (v:=(rd_T60 nd v).f2) (up_in hw hv)
 exact Option.some.inj ((hasF_mono h).symm.trans h2)
theorem hasI_self (hw : WFn nd) {v : Int} (hv : inR v nd.length) : hasI nd v v = true:=by
 rw [hasI_step hw (by have:=hv.1;omega) hv,if_pos rfl]
/-- From the tops downward. -/
theorem up_ind (hw : WFn nd) {P : Int → Prop} (h : ∀ v,inR v nd.length → ((rd_T60 nd v).f2 ≠ -1 → inR (rd_T60 nd v).f2 nd.length → P (rd_T60 nd v).f2) → P v) : ∀ v,inR v nd.length → P v:=by
 have key : ∀ (k : Nat) (v : Int),inR v nd.length → (nd.length : Int) ≤ v + k → P v:=by
  intro k
  induction k with
  | zero=>intro v hv hk;have:=hv.2;omega
  | succ k ih =>
   intro v hv hk
   refine h v hv fun hu hr=>ih _ hr ?_
   have:=(hw v hv).resolve_left hu
   omega
 intro v hv
 exact key nd.length v hv (by have:=hv.1;omega)
theorem topI_top (hw : WFn nd) {n : Int} (hn : inR n nd.length) : (rd_T60 nd (topI nd n)).f2 = -1:=by
 revert n
 have:=up_ind hw (P:=fun n=>(rd_T60 nd (topI nd n)).f2 = -1) fun v hv ih=>by
  rw [topI_step hw hv]
  split
  ·assumption
  rename_i c
  exact ih c ((up_in hw hv).resolve_left c)
 exact fun {n} hn=>this n hn
theorem topI_of_top (hw : WFn nd) {n : Int} (hn : inR n nd.length) (h : (rd_T60 nd n).f2 = -1) : topI nd n = n:=by
 rw [topI_step hw hn,if_pos h]
theorem has_top (hw : WFn nd) {n : Int} (hn : inR n nd.length) : hasI nd (topI nd n) n = true:=by
 revert n
 have:=up_ind hw (P:=fun n=>hasI nd (topI nd n) n = true) fun v hv ih=>by
  have h0:=(topI_in hw hv).1
  rw [hasI_step hw (by omega) hv]
  split
  ·rfl
  rename_i c
  have c2 : (rd_T60 nd v).f2 ≠ -1:=fun e=>c (topI_of_top hw hv e).symm
  rw [topI_step hw hv,if_neg c2]
  exact ih c2 ((up_in hw hv).resolve_left c2)
 exact fun {n} hn=>this n hn
theorem has_same_top (hw : WFn nd) {a : Int} (ha : inR a nd.length) {v : Int} (hv : inR v nd.length) : hasI nd a v = true → topI nd v = topI nd a:=by
 revert v
 have:=up_ind hw (P:=fun v=>hasI nd a v = true → topI nd v = topI nd a) fun v hv ih h=>by
  have h0:=ha.1
  rw [hasI_step hw (by omega) hv] at h
  split at h
  ·rename_i c;rw [c]
  have c2 : (rd_T60 nd v).f2 ≠ -1:=fun e=>by rw [e,hasI_none a (by omega)] at h;cases h
  rw [topI_step hw hv,if_neg c2]
  exact ih c2 ((up_in hw hv).resolve_left c2) h
 exact fun {v} hv=>this v hv
theorem has_up (hw : WFn nd) {a : Int} (ha : inR a nd.length) (hu : (rd_T60 nd a).f2 ≠ -1) {v : Int} (hv : inR v nd.length) : hasI nd a v = true → hasI nd (rd_T60 nd a).f2 v = true:=by
 revert v
 have hua:=(up_in hw ha).resolve_left hu
 have:=up_ind hw (P:=fun v=>hasI nd a v = true → hasI nd (rd_T60 nd a).f2 v = true) fun v hv ih h=>by
  have h0:=ha.1
  have h1:=hua.1
  rw [hasI_step hw (by omega) hv] at h
  rw [hasI_step hw (by omega) hv]
  split
  ·rfl
  split at h
  ·rename_i c;subst c
   exact hasI_self hw hua
  have c2 : (rd_T60 nd v).f2 ≠ -1:=fun e=>by rw [e,hasI_none a (by omega)] at h;cases h
  exact ih c2 ((up_in hw hv).resolve_left c2) h
 exact fun {v} hv=>this v hv
theorem has_le (hw : WFn nd) {a : Int} (ha : inR a nd.length) {v : Int} (hv : inR v nd.length) : hasI nd a v = true → v ≤ a:=by
 revert v
 have:=up_ind hw (P:=fun v=>hasI nd a v = true → v ≤ a) fun v hv ih h=>by
  have h0:=ha.1
  rw [hasI_step hw (by omega) hv] at h
  split at h
  ·omega
  have c2 : (rd_T60 nd v).f2 ≠ -1:=fun e=>by rw [e,hasI_none a (by omega)] at h;cases h
  have:=ih c2 ((up_in hw hv).resolve_left c2) h
  have:=(hw v hv).resolve_left c2
  omega
 exact fun {v} hv=>this v hv
/-- What lies above what is within. -/
theorem has_trans (hw : WFn nd) {a b : Int} (ha : inR a nd.length) (hb : inR b nd.length) (hab : hasI nd a b = true) {v : Int} (hv : inR v nd.length) : hasI nd b v = true → hasI nd a v = true:=by
 revert v
 have:=up_ind hw (P:=fun v=>hasI nd b v = true → hasI nd a v = true) fun v hv ih h=>by
  have h0:=ha.1
  have h1:=hb.1
  rw [hasI_step hw (by omega) hv] at h
  split at h
  ·rename_i c;rw [c];exact hab
  have c2 : (rd_T60 nd v).f2 ≠ -1:=fun e=>by rw [e,hasI_none b (by omega)] at h;cases h
  rw [hasI_step hw (by omega) hv]
  split
  ·rfl
  exact ih c2 ((up_in hw hv).resolve_left c2) h
 exact fun {v} hv=>this v hv
/-- Of two that have the same within one has the other. -/
theorem has_linear (hw : WFn nd) {a b : Int} (ha : inR a nd.length) (hb : inR b nd.length) {v : Int} (hv : inR v nd.length) : hasI nd a v = true → hasI nd b v = true → hasI nd a b = true ∨ hasI nd b a = true:=by
 revert v
 have:=up_ind hw (P:=fun v=>hasI nd a v = true → hasI nd b v = true → hasI nd a b = true ∨ hasI nd b a = true) fun v hv ih h k=>by
  have h0:=ha.1
  have h1:=hb.1
  by_cases c : v = a
  ·subst c;exact .inr k
  by_cases d : v = b
  ·subst d;exact .inl h
  rw [hasI_step hw (by omega) hv,if_neg c] at h
  rw [hasI_step hw (by omega) hv,if_neg d] at k
  have c2 : (rd_T60 nd v).f2 ≠ -1:=fun e=>by rw [e,hasI_none a (by omega)] at h;cases h
  exact ih c2 ((up_in hw hv).resolve_left c2) h k
 exact fun {v} hv=>this v hv
/-- A top that has something within is its top. -/
theorem has_of_top (hw : WFn nd) {a : Int} (ha : inR a nd.length) (ht : (rd_T60 nd a).f2 = -1) {v : Int} (hv : inR v nd.length) : hasI nd a v = true ↔ topI nd v = a :=
 ⟨fun h=>(has_same_top hw ha hv h).trans (topI_of_top hw ha ht),fun h=>by rw [← h];exact has_top hw hv⟩
/-- Under one ring: two members that have the same within are one. -/
theorem has_member (hw : WFn nd) {a b n : Int} (ha : inR a nd.length) (hb : inR b nd.length) (ua : (rd_T60 nd a).f2 = n) (ub : (rd_T60 nd b).f2 = n) (hn : n ≠ -1) {v : Int} (hv : inR v nd.length) (h : hasI nd a v = true) (k : hasI nd b v = true) : a = b:=by
 have h0:=ha.1
 have h1:=hb.1
 have hnn : inR n nd.length:=by rw [← ua];exact (up_in hw ha).resolve_left (by rw [ua];exact hn)
 have na : a < n:=by have:=(hw a ha).resolve_left (by rw [ua];exact hn);rw [ua] at this;exact this.1
 have nb : b < n:=by have:=(hw b hb).resolve_left (by rw [ub];exact hn);rw [ub] at this;exact this.1
 rcases has_linear hw ha hb hv h k with c|c
 ·rw [hasI_step hw (by omega) hb] at c
  split at c
  ·rename_i e;exact e.symm
  rw [ub] at c;have:=has_le hw ha hnn c;omega
 rw [hasI_step hw (by omega) ha] at c
 split at c
 ·rename_i e;exact e
 rw [ua] at c;have:=has_le hw hb hnn c;omega
end
/-- A sum over the numbers below one. -/
def sumI (f : Int → Int) : Nat → Int
 | 0=>0
 | k + 1=>sumI f k + f k
theorem sumI_congr {f g : Int → Int} : ∀ {k : Nat},(∀ i : Int,0 ≤ i → i < k → f i = g i) → sumI f k = sumI g k
 | 0,_=>rfl
 | k + 1,h=>by rw [sumI,sumI,sumI_congr fun i h0 h1=>h i h0 (by omega),h k (by omega) (by omega)]
theorem sumI_zero {f : Int → Int} : ∀ {k : Nat},(∀ i : Int,0 ≤ i → i < k → f i = 0) → sumI f k = 0
 | 0,_=>rfl
 | k + 1,h=>by rw [sumI,sumI_zero fun i h0 h1=>h i h0 (by omega),h k (by omega) (by omega)];rfl
theorem sumI_add {f g : Int → Int} : ∀ {k : Nat},sumI (fun i=>f i + g i) k = sumI f k + sumI g k
 | 0=>rfl
 | k + 1=>by rw [sumI,sumI,sumI,sumI_add];omega
/-- One summand apart. -/
theorem sumI_one {f g : Int → Int} {a : Int} : ∀ {k : Nat},0 ≤ a → a < k → (∀ i : Int,0 ≤ i → i < k → i ≠ a → f i = g i) → sumI f k = sumI g k - g a + f a
 | 0,h0,h1,_=>by omega
 | k + 1,h0,h1,h=>by
  rw [sumI,sumI]
  by_cases c : a = k
  ·subst c
   rw [sumI_congr fun i h0 h1=>h i h0 (by omega) (by omega)]
   omega
  rw [sumI_one h0 (by omega) fun i h0 h1 hi=>h i h0 (by omega) hi,h k (by omega) (by omega) (Ne.symm c)]
  omega
theorem sumI_bound {f : Int → Int} {b : Int} : ∀ {k : Nat},(∀ i : Int,0 ≤ i → i < k → 0 ≤ f i ∧ f i ≤ b) → 0 ≤ sumI f k ∧ sumI f k ≤ k * b
 | 0,_=>⟨Int.le_refl _,by simp [sumI]⟩
 | k + 1,h=>by
  rw [sumI]
  have:=sumI_bound (f:=f) (k:=k) fun i h0 h1=>h i h0 (by omega)
  have:=h k (by omega) (by omega)
  rw [show ((k + 1 : Nat) : Int) * b = k * b + b by rw [Int.natCast_add,Int.add_mul];simp]
  omega
theorem sumI_even {f : Int → Int} : ∀ {k : Nat},(∀ i : Int,0 ≤ i → i < k → f i % 2 = 0) → sumI f k % 2 = 0
 | 0,_=>rfl
 | k + 1,h=>by
  rw [sumI]
  have:=sumI_even (f:=f) (k:=k) fun i h0 h1=>h i h0 (by omega)
  have:=h k (by omega) (by omega)
  omega
section
variable {nd : List S60}
/-- The rings that have two nodes within. -/
def zOf (nd : List S60) (a b i : Int) : Int:=if hasI nd i a = true ∧ hasI nd i b = true then (rd_T60 nd i).f5 else 0
def zSum (nd : List S60) (a b : Int) : Int:=sumI (zOf nd a b) nd.length
theorem zSum_none' (a : Int) : zSum nd (-1) a = 0:=sumI_zero fun i h0 h1=>if_neg fun h=>by rw [hasI_none i (by omega)] at h;exact absurd h.1 (by decide)
/-- One step up on the left. -/
theorem zSum_step (hw : WFn nd) {a : Int} (ha : inR a nd.length) (b : Int) : zSum nd a b = (if hasI nd a b = true then (rd_T60 nd a).f5 else 0) + zSum nd (rd_T60 nd a).f2 b:=by
 have hself : hasI nd a (rd_T60 nd a).f2 = false:=by
  rcases up_in hw ha with h|h
  ·rw [h];exact hasI_none a (by have:=ha.1;omega)
  cases e : hasI nd a (rd_T60 nd a).f2 with
  | false=>rfl
  | true =>
   have h1:=has_le hw ha h e
   rcases hw a ha with h2|h2
   ·have:=h.1;omega
   omega
 have key : sumI (zOf nd a b) nd.length = sumI (zOf nd (rd_T60 nd a).f2 b) nd.length - zOf nd (rd_T60 nd a).f2 b a + zOf nd a b a:=by
  refine sumI_one ha.1 ha.2 fun i h0 h1 hi=>?_
  rw [zOf,zOf,hasI_step hw (by omega) ha,if_neg (Ne.symm hi)]
 rw [zSum,key,zSum]
 have e1 : zOf nd (rd_T60 nd a).f2 b a = 0:=by rw [zOf,hself,if_neg (by simp)]
 have e2 : zOf nd a b a = if hasI nd a b = true then (rd_T60 nd a).f5 else 0:=by
  rw [zOf,hasI_self hw ha]
  simp only [true_and]
 rw [e1,e2]
 omega
theorem zSum_bound {a b Z : Int} (hz : ∀ i,inR i nd.length → 0 ≤ zOf nd a b i ∧ zOf nd a b i ≤ Z) : 0 ≤ zSum nd a b ∧ zSum nd a b ≤ nd.length * Z:=sumI_bound fun i h0 h1=>hz i ⟨h0,h1⟩
end
end Go.Proofs.Ytnffimpoekjkpaa.QFnExactRounds
