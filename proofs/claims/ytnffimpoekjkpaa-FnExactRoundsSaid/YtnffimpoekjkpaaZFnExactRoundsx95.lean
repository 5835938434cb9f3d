/- The solver's plain law: nodes read behind a store, an append; the program's loops over nodes told place by place. -/
import Derived.Test.YtnffimpoekjkpaaZFnExactRoundsx40
import Derived.Test.YtnffimpoekjkpaaZFnExactRoundsx35
import Derived.Test.YtnffimpoekjkpaaZFnExactRoundsx57
import Derived.Test.YtnffimpoekjkpaaZFnExactRoundsx58
import Derived.Test.YtnffimpoekjkpaaZFnExactRoundsx65
namespace Go.Proofs.Ytnffimpoekjkpaa.QFnExactRounds
open Go.RowKit Go.Proofs.YtnffimpoekjkpaaW.PrintWords Go.Proofs.YtnffimpoekjkpaaW.PrintLast Go.Proofs.YtnffimpoekjkpaaW.PrintMore
set_option linter.unusedVariables false
set_option linter.unusedSimpArgs false
theorem rd60_set {nd : List S60} {i j : Int} (x : S60) (h0 : 0 ≤ i) (h1 : i < (nd.length : Int)) (hj : 0 ≤ j) : rd_T60 (nd.set i.toNat x) j = if j = i then x else rd_T60 nd j:=by
 unfold rd_T60
 simp only [List.getD_eq_getElem?_getD,List.getElem?_set]
 by_cases c : j = i
 ·subst c
  rw [if_pos rfl,if_pos rfl,if_pos (by omega)]
  rfl
 rw [if_neg (by omega),if_neg c]
theorem rd60_app {nd : List S60} {j : Int} (x : S60) (hj : 0 ≤ j) (hl : j ≤ nd.length) : rd_T60 (nd ++ [x]) j = if j = nd.length then x else rd_T60 nd j:=by
 unfold rd_T60
 simp only [List.getD_eq_getElem?_getD]
 by_cases c : j = nd.length
 ·rw [if_pos c,List.getElem?_append_right (by omega),show j.toNat - nd.length = 0 by omega]
  rfl
 rw [if_neg c,List.getElem?_append_left (by omega)]
theorem rd_set_if {l : List Int} {i j x : Int} (h0 : 0 ≤ i) (h1 : i < (l.length : Int)) (hj : 0 ≤ j) : rd (l.set i.toNat x) j = if j = i then x else rd l j:=by
 unfold rd
 simp only [List.getD_eq_getElem?_getD,List.getElem?_set]
 by_cases c : j = i
 ·subst c
  rw [if_pos rfl,if_pos rfl,if_pos (by omega)]
  rfl
 rw [if_neg (by omega),if_neg c]
theorem mem_rd {l : List Int} {x : Int} (h : x ∈ l) : ∃ i,inR i l.length ∧ rd l i = x:=by
 obtain ⟨k,hk,e⟩:=List.getElem_of_mem h
 exact ⟨k,⟨by omega,by omega⟩,by simp [rd,hk,e]⟩
theorem rd_inj {l : List Int} (h : l.Nodup) {i j : Int} (hi : inR i l.length) (hj : inR j l.length) (e : rd l i = rd l j) : i = j:=by
 have h1 : i.toNat < l.length:=by have:=hi.1;have:=hi.2;omega
 have h2 : j.toNat < l.length:=by have:=hj.1;have:=hj.2;omega
 have e1 : rd l i = l[i.toNat]:=by simp [rd,h1]
 have e2 : rd l j = l[j.toNat]:=by simp [rd,h2]
 rw [e1,e2] at e
 have hp:=List.pairwise_iff_getElem.1 h
 have a0:=hi.1
 have b0:=hj.1
 rcases Nat.lt_trichotomy i.toNat j.toNat with c|c|c
 ·exact absurd e (hp _ _ h1 h2 c)
 ·omega
 exact absurd e.symm (hp _ _ h2 h1 c)
/-- Two lists of numbers, place by place. -/
theorem list_ext {l m : List Int} (hl : l.length = m.length) (h : ∀ i,inR i l.length → rd l i = rd m i) : l = m:=by
 apply List.ext_getElem hl
 intro n h1 h2
 have:=h n ⟨by omega,by omega⟩
 simpa [rd,h1,h2] using this
theorem mateAt_len {nd : List S60} {n e : Int} : (mateAt nd n e).length = nd.length:=by rw [mateAt,List.length_set]
theorem inAt_len {nd : List S60} {n e : Int} : (inAt nd n e).length = nd.length:=by rw [inAt,List.length_set]
theorem openAt_len {nd : List S60} {n : Int} : (openAt nd n).length = nd.length:=by rw [openAt,List.length_set]
theorem mateAt_rd {nd : List S60} {n e j : Int} (hn : inR n nd.length) (hj : 0 ≤ j) : rd_T60 (mateAt nd n e) j = if j = n then { rd_T60 nd n with f3:=e } else rd_T60 nd j:=rd60_set _ hn.1 hn.2 hj
theorem inAt_rd {nd : List S60} {n e j : Int} (hn : inR n nd.length) (hj : 0 ≤ j) : rd_T60 (inAt nd n e) j = if j = n then { rd_T60 nd n with f2:=e } else rd_T60 nd j:=rd60_set _ hn.1 hn.2 hj
theorem openAt_rd {nd : List S60} {n j : Int} (hn : inR n nd.length) (hj : 0 ≤ j) : rd_T60 (openAt nd n) j = if j = n then { rd_T60 nd n with f6:=true } else rd_T60 nd j:=rd60_set _ hn.1 hn.2 hj
theorem inF_len {n : Int} : ∀ {l : List Int} {nd : List S60},(inF n l nd).length = nd.length
 | [],nd=>rfl
 | m :: l,nd=>by rw [inF,inF_len,mateAt_len,inAt_len]
theorem inF_rd {n : Int} : ∀ {l : List Int} {nd : List S60},(∀ m ∈ l,inR m nd.length) → ∀ {j : Int},0 ≤ j → rd_T60 (inF n l nd) j = if j ∈ l then { rd_T60 nd j with f2:=n,f3:=-1 } else rd_T60 nd j
 | [],nd,_,j,hj=>by rw [inF,if_neg (by simp)]
 | m :: l,nd,hl,j,hj=>by
  have hm:=hl m List.mem_cons_self
  rw [inF,inF_rd (fun x hx=>by rw [mateAt_len,inAt_len];exact hl x (List.mem_cons_of_mem _ hx)) hj,mateAt_rd (by rw [inAt_len];exact hm) hj,inAt_rd hm hj,inAt_rd hm hm.1]
  by_cases c : j = m
  ·subst c
   rw [if_pos rfl,if_pos rfl,if_pos List.mem_cons_self]
   split <;> rfl
  rw [if_neg c,if_neg c]
  by_cases d : j ∈ l
  ·rw [if_pos d,if_pos (List.mem_cons_of_mem _ d)]
  rw [if_neg d,if_neg (by simp [c,d])]
theorem clearF_is : ∀ (l : List Int) (nd : List S60),clearF l nd = inF (-1) l nd
 | [],nd=>rfl
 | m :: l,nd=>by rw [clearF,inF,clearF_is]
/-- A node that differs in its mate alone. -/
def up60 (nd nd' : List S60) : Prop:=nd'.length = nd.length ∧ ∀ j,inR j nd.length → (rd_T60 nd' j).f2 = (rd_T60 nd j).f2
theorem topI_up {nd nd' : List S60} (h : up60 nd nd') (hw : WFn nd) : WFn nd' ∧ (∀ v,inR v nd.length → topI nd' v = topI nd v) ∧ ∀ a,a ≠ -1 → ∀ v,inR v nd.length → hasI nd' a v = hasI nd a v:=by
 have hw' : WFn nd':=by
  intro j hj
  rw [h.1] at hj ⊢
  rw [h.2 j hj]
  exact hw j hj
 refine ⟨hw',up_ind hw fun v hv ih=>?_,fun a ha=>up_ind hw fun v hv ih=>?_⟩
 ·rw [topI_step hw hv,topI_step hw' (by rw [h.1];exact hv),h.2 v hv]
  split
  ·rfl
  rename_i c
  exact ih c ((up_in hw hv).resolve_left c)
 rw [hasI_step hw ha hv,hasI_step hw' ha (by rw [h.1];exact hv),h.2 v hv]
 split
 ·rfl
 by_cases c : (rd_T60 nd v).f2 = -1
 ·rw [c,hasI_none a ha,hasI_none a ha]
 exact ih c ((up_in hw hv).resolve_left c)
theorem up60.trans {a b c : List S60} (h : up60 a b) (k : up60 b c) : up60 a c:=⟨k.1.trans h.1,fun j hj=>(k.2 j (by rw [h.1];exact hj)).trans (h.2 j hj)⟩
theorem up60.refl (a : List S60) : up60 a a:=⟨rfl,fun _ _=>rfl⟩
/-- The mates of a ring's members behind its opening, from a place on: each odd place and the next one. -/
theorem pairF_len {mem lk : List Int} {a size : Int} : ∀ {f : Nat} {k : Int} {nd : List S60},(pairF mem lk a size f k nd).length = nd.length
 | 0,k,nd=>rfl
 | f + 1,k,nd=>by
  rw [pairF]
  split
  ·rw [pairF_len,mateAt_len,mateAt_len]
  rfl
theorem mod_inj {a L i j : Int} (hL : 0 < L) (hi : 0 ≤ i ∧ i < L) (hj : 0 ≤ j ∧ j < L) (h : (a + i) % L = (a + j) % L) : i = j:=by
 have h1 : (i - j) % L = 0:=by
  have:=Int.emod_emod_of_dvd
  have h2:=Int.sub_emod (a + i) (a + j) L
  rw [h,Int.sub_self,Int.zero_emod] at h2
  rw [show a + i - (a + j) = i - j by omega] at h2
  exact h2
 obtain ⟨q,hq⟩:=Int.dvd_of_emod_eq_zero h1
 have : q = 0:=by
  rcases Int.lt_trichotomy q 0 with c|c|c
  ·have:=Int.mul_le_mul_of_nonneg_left (show q ≤ -1 by omega) (show 0 ≤ L by omega);omega
  ·exact c
  have:=Int.mul_le_mul_of_nonneg_left (show 1 ≤ q by omega) (show 0 ≤ L by omega);omega
 subst this
 omega
/-- Place of a ring counted from where it is opened. -/
theorem ring_place {a L i : Int} (hL : 0 < L) (ha : 0 ≤ a ∧ a < L) (hi : 0 ≤ i ∧ i < L) : ∃ k,0 ≤ k ∧ k < L ∧ (a + k) % L = i:=by
 by_cases c : a ≤ i
 ·exact ⟨i - a,by omega,by omega,by rw [show a + (i - a) = i by omega];exact Int.emod_eq_of_lt hi.1 hi.2⟩
 exact ⟨i - a + L,by omega,by omega,by rw [show a + (i - a + L) = i + L by omega,Int.add_emod_right];exact Int.emod_eq_of_lt hi.1 hi.2⟩
theorem mod_in {L x : Int} (hL : 0 < L) : 0 ≤ x % L ∧ x % L < L:=⟨Int.emod_nonneg _ (by omega),Int.emod_lt_of_pos _ hL⟩
/-- Every member's mate: the one at odd place k has the link at k, and so has the one behind it. -/
theorem pairF_rd {mem lk : List Int} {a : Int} (hn : mem.Nodup) (hL : 0 < mem.length) {nd : List S60} (hm : ∀ m ∈ mem,inR m nd.length) :
  ∀ (f : Nat) (k : Int) (nd' : List S60),1 ≤ k → k % 2 = 1 → (mem.length : Int) % 2 = 1 → (mem.length : Int) ≤ k + 2 * f → nd'.length = nd.length →
   (∀ j,0 ≤ j → (∀ i,k ≤ i → i < mem.length → j ≠ rd mem ((a + i) % mem.length)) → rd_T60 (pairF mem lk a mem.length f k nd') j = rd_T60 nd' j) ∧
   (∀ i,k ≤ i → i < mem.length → rd_T60 (pairF mem lk a mem.length f k nd') (rd mem ((a + i) % mem.length)) = { rd_T60 nd' (rd mem ((a + i) % mem.length)) with f3:=rd lk ((a + (if i % 2 = 1 then i else i - 1)) % mem.length) })
 | 0,k,nd',h1,h2,h3,h4,h5=>⟨fun j hj h=>rfl,fun i hi hl=>by omega⟩
 | f + 1,k,nd',h1,h2,h3,h4,h5=>by
  have hLi : (0 : Int) < mem.length:=by omega
  rw [pairF]
  by_cases c : k < (mem.length : Int)
  ·rw [if_pos c]
   have c2 : k + 1 < (mem.length : Int):=by omega
   have r1:=mod_in (x:=a + k) hLi
   have r2:=mod_in (x:=a + k + 1) hLi
   have m1:=hm _ (rd_mem mem _ r1.1 r1.2)
   have m2:=hm _ (rd_mem mem _ r2.1 r2.2)
   rw [← h5] at m1 m2
   have hp : rd mem ((a + k + 1) % mem.length) ≠ rd mem ((a + k) % mem.length):=by
    intro e
    have:=rd_inj hn ⟨r2.1,r2.2⟩ ⟨r1.1,r1.2⟩ e
    rw [show a + k + 1 = a + (k + 1) by omega] at this
    have:=mod_inj hLi ⟨by omega,c2⟩ ⟨by omega,c⟩ this
    omega
   obtain ⟨ih1,ih2⟩:=pairF_rd (lk:=lk) (a:=a) hn hL hm f (k + 2) (mateAt (mateAt nd' (rd mem ((a + k) % mem.length)) (rd lk ((a + k) % mem.length))) (rd mem ((a + k + 1) % mem.length)) (rd lk ((a + k) % mem.length))) (by omega) (by omega) h3 (by omega) (by rw [mateAt_len,mateAt_len];exact h5)
   have hb : ∀ {j : Int},0 ≤ j → rd_T60 (mateAt (mateAt nd' (rd mem ((a + k) % mem.length)) (rd lk ((a + k) % mem.length))) (rd mem ((a + k + 1) % mem.length)) (rd lk ((a + k) % mem.length))) j = if j = rd mem ((a + k + 1) % mem.length) ∨ j = rd mem ((a + k) % mem.length) then { rd_T60 nd' j with f3:=rd lk ((a + k) % mem.length) } else rd_T60 nd' j:=by
    intro j hj
    rw [mateAt_rd (by rw [mateAt_len];exact m2) hj]
    by_cases d : j = rd mem ((a + k + 1) % mem.length)
    ·rw [if_pos d,if_pos (Or.inl d),mateAt_rd m1 m2.1,if_neg hp,d]
    rw [if_neg d,mateAt_rd m1 hj]
    by_cases d2 : j = rd mem ((a + k) % mem.length)
    ·rw [if_pos d2,if_pos (.inr d2),d2]
    rw [if_neg d2,if_neg (by rintro (h|h);exact d h;exact d2 h)]
   refine ⟨fun j hj h=>?_,fun i hi hl=>?_⟩
   ·rw [ih1 j hj fun i hi hl=>h i (by omega) hl,hb hj,if_neg]
    rintro (e|e)
    ·exact h (k + 1) (by omega) c2 (by rw [e,show a + k + 1 = a + (k + 1) by omega])
    exact h k (by omega) c e
   by_cases d : k + 2 ≤ i
   ·rw [ih2 i d hl]
    congr 1
    have r3:=mod_in (x:=a + i) hLi
    have m3:=hm _ (rd_mem mem _ r3.1 r3.2)
    rw [hb m3.1,if_neg]
    rintro (e|e)
    ·have:=rd_inj hn ⟨r3.1,r3.2⟩ ⟨r2.1,r2.2⟩ e
     rw [show a + k + 1 = a + (k + 1) by omega] at this
     have:=mod_inj hLi ⟨by omega,hl⟩ ⟨by omega,c2⟩ this
     omega
    have:=rd_inj hn ⟨r3.1,r3.2⟩ ⟨r1.1,r1.2⟩ e
    have:=mod_inj hLi ⟨by omega,hl⟩ ⟨by omega,c⟩ this
    omega
   have r3:=mod_in (x:=a + i) hLi
   have m3:=hm _ (rd_mem mem _ r3.1 r3.2)
   rw [ih1 _ m3.1,hb m3.1]
   ·rcases (show i = k ∨ i = k + 1 by omega) with rfl|rfl
    ·rw [if_pos (.inr rfl),if_pos h2]
    rw [if_pos (.inl (by rw [show a + k + 1 = a + (k + 1) by omega])),if_neg (by omega),show k + 1 - 1 = k by omega]
   intro i2 hi2 hl2 e
   have r4:=mod_in (x:=a + i2) hLi
   have:=rd_inj hn ⟨r3.1,r3.2⟩ ⟨r4.1,r4.2⟩ e
   have:=mod_inj hLi ⟨by omega,hl⟩ ⟨by omega,hl2⟩ this
   omega
  rw [if_neg c]
  exact ⟨fun j hj h=>rfl,fun i hi hl=>by omega⟩
end Go.Proofs.Ytnffimpoekjkpaa.QFnExactRounds
/- The solver's plain law: the slack of an edge, as the program reckons it and as the reference does: one sum. -/
namespace Go.Proofs.Ytnffimpoekjkpaa.QFnExactRounds
open Go.RowKit Go.Proofs.YtnffimpoekjkpaaW.PrintWords Go.Proofs.YtnffimpoekjkpaaW.PrintLast Go.Proofs.YtnffimpoekjkpaaW.PrintMore
set_option linter.unusedVariables false
set_option linter.unusedSimpArgs false
def scE (x : S51) : Int:=90000 * x.f2 + 300 * x.f3 + x.f4
def slE (y : List Int) (nd : List S60) (x : S51) : Int:=rd y x.f0 + rd y x.f1 - 2 * scE x + zSum nd x.f0 x.f1
/-- An edge of a right graph. -/
structure EdOk (N : Int) (x : S51) : Prop where
 a : 0 ≤ x.f0
 ab : x.f0 < x.f1
 b : x.f1 < N
 w2 : 0 ≤ x.f2 ∧ x.f2 ≤ 50
 w3 : 0 ≤ x.f3 ∧ x.f3 ≤ 50
 w4 : 0 ≤ x.f4 ∧ x.f4 ≤ 50
def ZOk (nd : List S60) : Prop:=∀ i,inR i nd.length → 0 ≤ (rd_T60 nd i).f5 ∧ (rd_T60 nd i).f5 ≤ 10000000
def YOk (y : List Int) : Prop:=∀ i,inR i y.length → 0 ≤ rd y i ∧ rd y i ≤ 10000000
theorem scI_eq {N : Int} {x : S51} (h : EdOk N x) : scI x = scE x:=by
 unfold scI scE
 have:=h.w2;have:=h.w3;have:=h.w4
 rw [w64 (i:=90000 * x.f2) (by omega) (by omega),w64 (i:=300 * x.f3) (by omega) (by omega),w64 (i:=90000 * x.f2 + 300 * x.f3) (by omega) (by omega),w64 (by omega) (by omega)]
theorem scE_in {N : Int} {x : S51} (h : EdOk N x) : 0 ≤ scE x ∧ scE x ≤ 4515050:=by
 unfold scE
 have:=h.w2;have:=h.w3;have:=h.w4
 omega
theorem zOf_comm {nd : List S60} {a b i : Int} : zOf nd a b i = zOf nd b a i:=by
 unfold zOf
 by_cases h1 : hasI nd i a = true <;> by_cases h2 : hasI nd i b = true <;> simp [h1,h2]
theorem zSum_comm {nd : List S60} {a b : Int} : zSum nd a b = zSum nd b a:=sumI_congr fun i _ _=>zOf_comm
theorem zOf_in {nd : List S60} (hz : ZOk nd) {a b i : Int} (hi : inR i nd.length) : 0 ≤ zOf nd a b i ∧ zOf nd a b i ≤ 10000000:=by
 unfold zOf
 split
 ·exact hz i hi
 omega
theorem zSum_in {nd : List S60} (hz : ZOk nd) (hl : nd.length ≤ 1000000) {a b : Int} : 0 ≤ zSum nd a b ∧ zSum nd a b ≤ 10000000000000:=by
 have h:=zSum_bound (nd:=nd) (a:=a) (b:=b) (Z:=10000000) fun i hi=>zOf_in hz hi
 omega
theorem slInF_no {nd : List S60} (hw : WFn nd) {n : Int} (hn : n ≠ -1) : ∀ (k : Nat) (v out : Int),0 < k → v = -1 ∨ inR v nd.length ∧ (nd.length : Int) + 1 < v + k → hasI nd n v = false → slInF nd n k v out = some out
 | 0,v,out,hp,_,_=>absurd hp (by omega)
 | k + 1,v,out,hp,hk,hh=>by
  rw [slInF]
  by_cases c : v = -1
  ·rw [if_pos c]
  rw [if_neg c]
  obtain ⟨hv,hk⟩:=hk.resolve_left c
  rw [hasI_step hw hn hv] at hh
  split at hh
  ·cases hh
  rename_i d
  have h0:=hv.1
  have h1:=hv.2
  rw [if_pos hv,if_neg (Ne.symm d)]
  refine slInF_no hw hn k _ _ (by omega) ?_ hh
  rcases hw v hv with h|h
  ·exact .inl h
  exact .inr ⟨⟨by omega,h.2⟩,by omega⟩
theorem has_strict {nd : List S60} (hw : WFn nd) {n : Int} (hn : inR n nd.length) : hasI nd n (rd_T60 nd n).f2 = false:=by
 rcases up_in hw hn with h|h
 ·rw [h];exact hasI_none n (by have:=hn.1;omega)
 cases e : hasI nd n (rd_T60 nd n).f2 with
 | false=>rfl
 | true =>
  have h1:=has_le hw hn h e
  rcases hw n hn with h2|h2
  ·have:=h.1;omega
  omega
theorem slInF_eq {nd : List S60} (hw : WFn nd) (hz : ZOk nd) {n : Int} (hn : inR n nd.length) : ∀ (k : Nat) (v out : Int),0 < k → v = -1 ∨ inR v nd.length ∧ (nd.length : Int) + 1 < v + k → -4000000000000000000 ≤ out ∧ out ≤ 4000000000000000000 →
  slInF nd n k v out = some (out + if hasI nd n v = true then (rd_T60 nd n).f5 else 0)
 | 0,v,out,hp,_,_=>absurd hp (by omega)
 | k + 1,v,out,hp,hk,ho=>by
  have hn1 : n ≠ -1:=by have:=hn.1;omega
  rw [slInF]
  by_cases c : v = -1
  ·rw [if_pos c,c,hasI_none n hn1,if_neg (by decide),Int.add_zero]
  rw [if_neg c]
  obtain ⟨hv,hk⟩:=hk.resolve_left c
  have h0:=hv.1
  have h1:=hv.2
  have hk2 : (rd_T60 nd v).f2 = -1 ∨ inR (rd_T60 nd v).f2 nd.length ∧ (nd.length : Int) + 1 < (rd_T60 nd v).f2 + k:=by
   rcases hw v hv with h|h
   ·exact .inl h
   exact .inr ⟨⟨by omega,h.2⟩,by omega⟩
  rw [if_pos hv,hasI_step hw hn1 hv]
  by_cases d : n = v
  ·subst d
   have hzz:=hz n hn
   rw [if_pos rfl,if_pos rfl,if_pos rfl,w64 (by omega) (by omega)]
   exact slInF_no hw hn1 k _ _ (by omega) hk2 (has_strict hw hn)
  rw [if_neg d,if_neg (Ne.symm d)]
  exact slInF_eq hw hz hn k _ _ (by omega) hk2 ho
theorem slOutF_eq {nd : List S60} (hw : WFn nd) (hz : ZOk nd) {b : Int} (hb : b = -1 ∨ inR b nd.length) : ∀ (k : Nat) (v out : Int),0 < k → v = -1 ∨ inR v nd.length ∧ (nd.length : Int) + 1 < v + k → -3000000000000000000 ≤ out ∧ out + 10000000 * k ≤ 3000000000000000000 →
  slOutF nd b k v out = some (out + zSum nd v b)
 | 0,v,out,hp,_,_=>absurd hp (by omega)
 | k + 1,v,out,hp,hk,ho=>by
  rw [slOutF]
  by_cases c : v = -1
  ·rw [if_pos c,c,zSum_none',Int.add_zero]
  rw [if_neg c]
  obtain ⟨hv,hk⟩:=hk.resolve_left c
  have h0:=hv.1
  have h1:=hv.2
  have hzz:=hz v hv
  rw [if_pos hv,slInF_eq hw hz hv (nd.length + 2) b out (by omega) (hb.imp_right fun h=>⟨h,by have:=h.1;omega⟩) (by omega)]
  show slOutF nd b k (rd_T60 nd v).f2 (out + if hasI nd v b = true then (rd_T60 nd v).f5 else 0) = _
  rw [slOutF_eq hw hz hb k _ _ (by omega) ?_ (by split <;> omega),zSum_step hw hv b,Int.add_assoc]
  rcases hw v hv with h|h
  ·exact .inl h
  exact .inr ⟨⟨by omega,h.2⟩,by omega⟩
/-- What the two solvers' nodes must be for their slacks to be sums. -/
structure VOk (N : Int) (nd : List S60) : Prop where
 w : WFn nd
 z : ZOk nd
 v : ∀ i,0 ≤ i → i < N → (rd_T60 nd i).f5 = 0 ∧ (rd_T60 nd i).f6 = false
 o : ∀ m,inR m nd.length → (rd_T60 nd m).f2 ≠ -1 → (rd_T60 nd (rd_T60 nd m).f2).f6 = false
 l : nd.length ≤ 1000000
 nn : N ≤ nd.length
theorem slBase_eq {N : Int} {y : List Int} {x : S51} (hx : EdOk N x) (hy : YOk y) (hN : N = y.length) : slBase y x = rd y x.f0 + rd y x.f1 - 2 * scE x:=by
 have h1:=hy x.f0 ⟨hx.a,by have:=hx.ab;have:=hx.b;omega⟩
 have h2:=hy x.f1 ⟨by have:=hx.a;have:=hx.ab;omega,by have:=hx.b;omega⟩
 have h3:=scE_in hx
 rw [slBase,scI_eq hx,w64 (i:=rd y x.f0 + rd y x.f1) (by omega) (by omega),w64 (i:=2 * scE x) (by omega) (by omega),w64 (by omega) (by omega)]
theorem slackI_eq {N : Int} {y : List Int} {nd : List S60} {x : S51} (hx : EdOk N x) (hy : YOk y) (hN : N = y.length) (hv : VOk N nd) : slackI y nd x = slE y nd x:=by
 have hA : inR x.f0 nd.length:=⟨hx.a,by have:=hx.ab;have:=hx.b;have:=hv.nn;omega⟩
 have hB : inR x.f1 nd.length:=⟨by have:=hx.a;have:=hx.ab;omega,by have:=hx.b;have:=hv.nn;omega⟩
 have h1:=hy x.f0 ⟨hx.a,by have:=hx.ab;have:=hx.b;omega⟩
 have h2:=hy x.f1 ⟨by have:=hx.a;have:=hx.ab;omega,by have:=hx.b;omega⟩
 have h3:=scE_in hx
 have hl:=hv.l
 rw [slackI,slOutF_eq hv.w hv.z (up_in hv.w hB) (nd.length + 2) _ _ (by omega) ((up_in hv.w hA).imp_right fun h=>⟨h,by have:=h.1;omega⟩) (by rw [slBase_eq hx hy hN];omega),slBase_eq hx hy hN,slE]
 show _ + zSum nd (rd_T60 nd x.f0).f2 (rd_T60 nd x.f1).f2 = _
 rw [zSum_step hv.w hA x.f1,zSum_comm (a:=(rd_T60 nd x.f0).f2) (b:=x.f1),zSum_step hv.w hB (rd_T60 nd x.f0).f2,zSum_comm (a:=(rd_T60 nd x.f1).f2),(hv.v x.f0 hx.a (by have:=hx.ab;have:=hx.b;omega)).1,(hv.v x.f1 hB.1 hx.b).1]
 simp
/-- No node that is open has another one within. -/
theorem has_open {N : Int} {nd : List S60} (hv : VOk N nd) {i : Int} (hi : inR i nd.length) (ho : (rd_T60 nd i).f6 = true) {v : Int} (hvv : inR v nd.length) : hasI nd i v = true → v = i:=by
 revert v
 have hi1 : i ≠ -1:=by have:=hi.1;omega
 have:=up_ind hv.w (P:=fun v=>hasI nd i v = true → v = i) fun v hv2 ih h=>by
  rw [hasI_step hv.w hi1 hv2] at h
  split at h
  ·assumption
  exfalso
  have c2 : (rd_T60 nd v).f2 ≠ -1:=fun e=>by rw [e,hasI_none i hi1] at h;cases h
  have e:=ih c2 ((up_in hv.w hv2).resolve_left c2) h
  have h2:=hv.o v hv2 c2
  rw [e,ho] at h2
  cases h2
 exact fun {v} hvv=>this v hvv
theorem slS_eq {N : Int} {nd : List S60} (hv : VOk N nd) {a b : Int} (ha : inR a nd.length) (hb : inR b nd.length) (hab : a ≠ b) : ∀ (k : Nat) (i s : Int),0 ≤ i → (nd.length : Int) < i + k → -3000000000000000000 ≤ s ∧ s + 10000000 * (nd.length - i) ≤ 3000000000000000000 →
  slS nd a b k i s + sumI (zOf nd a b) i.toNat = s + zSum nd a b ∨ (nd.length : Int) < i
 | 0,i,s,h0,hk,hs=>.inr (by omega)
 | k + 1,i,s,h0,hk,hs=>by
  by_cases c0 : (nd.length : Int) < i
  ·exact .inr c0
  refine .inl ?_
  rw [slS]
  by_cases c : i < (nd.length : Int)
  ·rw [if_pos c]
   have hi : inR i nd.length:=⟨h0,c⟩
   have hzz:=hv.z i hi
   have e : (if (rd_T60 nd i).f6 = false ∧ hasI nd i a = true ∧ hasI nd i b = true then wrap64 (s + (rd_T60 nd i).f5) else s) = s + zOf nd a b i:=by
    unfold zOf
    by_cases d : hasI nd i a = true ∧ hasI nd i b = true
    ·rw [if_pos d]
     cases f : (rd_T60 nd i).f6 with
     | false=>rw [if_pos ⟨rfl,d⟩,w64 (by omega) (by omega)]
     | true=>exact absurd ((has_open hv hi f ha d.1).trans (has_open hv hi f hb d.2).symm) hab
    rw [if_neg d,if_neg (fun h=>d h.2),Int.add_zero]
   rw [e]
   have hzo:=zOf_in hv.z (a:=a) (b:=b) hi
   have ih:=slS_eq hv ha hb hab k (i + 1) (s + zOf nd a b i) (by omega) (by omega) (by omega)
   have ih:=ih.resolve_right (by omega)
   rw [show (i + 1).toNat = i.toNat + 1 by omega,sumI,Int.toNat_of_nonneg h0] at ih
   omega
  rw [if_neg c,show i.toNat = nd.length by omega]
  rfl
theorem slackS_eq {N : Int} {y : List Int} {nd : List S60} {x : S51} (hx : EdOk N x) (hy : YOk y) (hN : N = y.length) (hv : VOk N nd) : slackS N y nd x = slE y nd x:=by
 have hA : inR x.f0 nd.length:=⟨hx.a,by have:=hx.ab;have:=hx.b;have:=hv.nn;omega⟩
 have hB : inR x.f1 nd.length:=⟨by have:=hx.a;have:=hx.ab;omega,by have:=hx.b;have:=hv.nn;omega⟩
 have h1:=hy x.f0 ⟨hx.a,by have:=hx.ab;have:=hx.b;omega⟩
 have h2:=hy x.f1 ⟨by have:=hx.a;have:=hx.ab;omega,by have:=hx.b;omega⟩
 have h3:=scE_in hx
 have hl:=hv.l
 have hnn:=hv.nn
 have hz0 : sumI (zOf nd x.f0 x.f1) N.toNat = 0:=sumI_zero fun i h0 h1=>by
  unfold zOf
  split
  ·exact (hv.v i h0 (by omega)).1
  rfl
 have h:=(slS_eq hv hA hB (by have:=hx.ab;omega) (nd.length + 1) N (slBase y x) (by omega) (by omega) (by rw [slBase_eq hx hy hN];omega)).resolve_right (by omega)
 rw [hz0,Int.add_zero] at h
 rw [slackS,h,slBase_eq hx hy hN,slE]
end Go.Proofs.Ytnffimpoekjkpaa.QFnExactRounds
/- The solver's plain law: what holds between two rounds. -/
namespace Go.Proofs.Ytnffimpoekjkpaa.QFnExactRounds
open Go.RowKit Go.Proofs.YtnffimpoekjkpaaW.PrintWords Go.Proofs.YtnffimpoekjkpaaW.PrintLast Go.Proofs.YtnffimpoekjkpaaW.PrintMore
set_option linter.unusedVariables false
set_option linter.unusedSimpArgs false
/-- An edge from within one node to within another. -/
def Joins (nd : List S60) (x : S51) (a b : Int) : Prop:=(hasI nd a x.f0 = true ∧ hasI nd b x.f1 = true) ∨ (hasI nd a x.f1 = true ∧ hasI nd b x.f0 = true)
structure Ring (es : List S51) (y : List Int) (nd : List S60) (i : Int) : Prop where
 odd : ((rd_T60 nd i).f0.length : Int) % 2 = 1
 three : 3 ≤ (rd_T60 nd i).f0.length
 lkl : (rd_T60 nd i).f1.length = (rd_T60 nd i).f0.length
 nod : (rd_T60 nd i).f0.Nodup
 mem : ∀ m ∈ (rd_T60 nd i).f0,inR m nd.length ∧ (rd_T60 nd m).f2 = i
 lnk : ∀ k,inR k (rd_T60 nd i).f0.length → inR (rd (rd_T60 nd i).f1 k) es.length ∧ slE y nd (rd_T51 es (rd (rd_T60 nd i).f1 k)) = 0 ∧ Joins nd (rd_T51 es (rd (rd_T60 nd i).f1 k)) (rd (rd_T60 nd i).f0 k) (rd (rd_T60 nd i).f0 ((k + 1) % (rd_T60 nd i).f0.length))
structure Top (nd : List S60) (t : Int) : Prop where
 i : inR t nd.length
 u : (rd_T60 nd t).f2 = -1
 o : (rd_T60 nd t).f6 = false
structure MateOk (es : List S51) (y : List Int) (nd : List S60) (t : Int) : Prop where
 ei : inR (rd_T60 nd t).f3 es.length
 sl : slE y nd (rd_T51 es (rd_T60 nd t).f3) = 0
 ne : topI nd (rd_T51 es (rd_T60 nd t).f3).f0 ≠ topI nd (rd_T51 es (rd_T60 nd t).f3).f1
 tt : topI nd (rd_T51 es (rd_T60 nd t).f3).f0 = t ∨ topI nd (rd_T51 es (rd_T60 nd t).f3).f1 = t
 m0 : (rd_T60 nd (topI nd (rd_T51 es (rd_T60 nd t).f3).f0)).f3 = (rd_T60 nd t).f3
 m1 : (rd_T60 nd (topI nd (rd_T51 es (rd_T60 nd t).f3).f1)).f3 = (rd_T60 nd t).f3
structure FreeOk (N : Int) (y : List Int) (nd : List S60) (Y : Int) (t : Int) : Prop where
 v : 0 ≤ (rd_T60 nd t).f4 ∧ (rd_T60 nd t).f4 < N
 h : hasI nd t (rd_T60 nd t).f4 = true
 b : ∀ i,inR i nd.length → hasI nd i (rd_T60 nd t).f4 = true → (rd_T60 nd i).f4 = (rd_T60 nd t).f4
 yv : rd y (rd_T60 nd t).f4 = Y
/-- What does not change: the graph. -/
structure Gph (N most : Int) (es : List S51) : Prop where
 n0 : 0 ≤ N
 n9 : N ≤ 9
 m : 0 ≤ most ∧ most ≤ 4515050
 e : ∀ i,inR i es.length → EdOk N (rd_T51 es i)
structure Inv (N most : Int) (es : List S51) (D : Int) (y : List Int) (nd : List S60) : Prop where
 yl : N = y.length
 nn : N ≤ nd.length
 sz : nd.length ≤ 100000
 wf : WFn nd
 ver : ∀ i,0 ≤ i → i < N → (rd_T60 nd i).f6 = false ∧ (rd_T60 nd i).f5 = 0 ∧ (rd_T60 nd i).f4 = i ∧ (rd_T60 nd i).f0 = []
 opn : ∀ i,inR i nd.length → (rd_T60 nd i).f6 = true → (rd_T60 nd i).f2 = -1
 par : ∀ m,inR m nd.length → (rd_T60 nd m).f2 ≠ -1 → N ≤ (rd_T60 nd m).f2 ∧ (rd_T60 nd (rd_T60 nd m).f2).f6 = false ∧ m ∈ (rd_T60 nd (rd_T60 nd m).f2).f0
 ring : ∀ i,N ≤ i → i < nd.length → (rd_T60 nd i).f6 = false → Ring es y nd i
 mate : ∀ t,Top nd t → (rd_T60 nd t).f3 ≠ -1 → MateOk es y nd t
 free : ∀ t,Top nd t → (rd_T60 nd t).f3 = -1 → FreeOk N y nd (most - D) t
 zz : ∀ i,inR i nd.length → 0 ≤ (rd_T60 nd i).f5 ∧ (rd_T60 nd i).f5 % 2 = 0 ∧ (rd_T60 nd i).f5 ≤ 2 * D
 yy : ∀ v,inR v y.length → 0 ≤ rd y v ∧ rd y v ≤ most + D
 dd : 0 ≤ D ∧ D ≤ most
 sl : ∀ e,inR e es.length → 0 ≤ slE y nd (rd_T51 es e)
 pa : ∀ u v,inR u y.length → inR v y.length → topI nd u = topI nd v → rd y u % 2 = rd y v % 2
section
variable {N most : Int} {es : List S51} {D : Int} {y : List Int} {nd : List S60}
theorem Inv.vok (g : Gph N most es) (h : Inv N most es D y nd) : VOk N nd :=
 ⟨h.wf,fun i hi=>⟨(h.zz i hi).1,by have:=(h.zz i hi).2.2;have:=h.dd;have:=g.m;omega⟩,fun i h0 h1=>⟨(h.ver i h0 h1).2.1,(h.ver i h0 h1).1⟩,fun m hm hu=>(h.par m hm hu).2.1,by have:=h.sz;omega,h.nn⟩
theorem Inv.yok (g : Gph N most es) (h : Inv N most es D y nd) : YOk y:=fun i hi=>⟨(h.yy i hi).1,by have:=(h.yy i hi).2;have:=h.dd;have:=g.m;omega⟩
theorem Inv.edge (g : Gph N most es) (h : Inv N most es D y nd) {e : Int} (he : inR e es.length) : inR (rd_T51 es e).f0 nd.length ∧ inR (rd_T51 es e).f1 nd.length:=by
 have x:=g.e e he
 exact ⟨⟨x.a,by have:=x.ab;have:=x.b;have:=h.nn;omega⟩,⟨by have:=x.a;have:=x.ab;omega,by have:=x.b;have:=h.nn;omega⟩⟩
theorem Inv.eok (g : Gph N most es) (h : Inv N most es D y nd) : EOk es nd.length:=fun e he=>h.edge g he
theorem Inv.eoy (g : Gph N most es) (h : Inv N most es D y nd) : EOk es y.length:=fun e he=>by
 have x:=g.e e he
 have:=h.yl
 exact ⟨⟨x.a,by have:=x.ab;have:=x.b;omega⟩,⟨by have:=x.a;have:=x.ab;omega,by have:=x.b;omega⟩⟩
theorem Inv.slackI (g : Gph N most es) (h : Inv N most es D y nd) {e : Int} (he : inR e es.length) : slackI y nd (rd_T51 es e) = slE y nd (rd_T51 es e):=slackI_eq (g.e e he) (h.yok g) h.yl (h.vok g)
theorem Inv.slackS (g : Gph N most es) (h : Inv N most es D y nd) {e : Int} (he : inR e es.length) : slackS N y nd (rd_T51 es e) = slE y nd (rd_T51 es e):=slackS_eq (g.e e he) (h.yok g) h.yl (h.vok g)
/-- The top of a node that isn't open. -/
theorem Inv.top (h : Inv N most es D y nd) {v : Int} (hv : inR v nd.length) : (rd_T60 nd v).f6 = false → Top nd (topI nd v):=by
 revert v
 have:=up_ind h.wf (P:=fun v=>(rd_T60 nd v).f6 = false → Top nd (topI nd v)) fun v hv ih ho=>by
  rw [topI_step h.wf hv]
  split
  ·rename_i c;exact ⟨hv,c,ho⟩
  rename_i c;exact ih c ((up_in h.wf hv).resolve_left c) (h.par v hv c).2.1
 exact fun {v} hv=>this v hv
theorem Inv.vtx (h : Inv N most es D y nd) {v : Int} (h0 : 0 ≤ v) (h1 : v < N) : inR v nd.length:=⟨h0,by have:=h.nn;omega⟩
theorem Inv.top_v (h : Inv N most es D y nd) {v : Int} (h0 : 0 ≤ v) (h1 : v < N) : Top nd (topI nd v):=h.top (h.vtx h0 h1) (h.ver v h0 h1).1
theorem Inv.top_a (g : Gph N most es) (h : Inv N most es D y nd) {e : Int} (he : inR e es.length) : Top nd (topI nd (rd_T51 es e).f0):=h.top_v (g.e e he).a (by have:=(g.e e he).ab;have:=(g.e e he).b;omega)
theorem Inv.top_b (g : Gph N most es) (h : Inv N most es D y nd) {e : Int} (he : inR e es.length) : Top nd (topI nd (rd_T51 es e).f1):=h.top_v (by have:=(g.e e he).a;have:=(g.e e he).ab;omega) (g.e e he).b
theorem Top.self (hw : WFn nd) {t : Int} (h : Top nd t) : topI nd t = t:=topI_of_top hw h.i h.u
theorem isTopB_iff {t : Int} (hi : inR t nd.length) : isTopB (rd_T60 nd t) = true ↔ Top nd t:=by
 unfold isTopB
 constructor
 ·intro h
  simp only [Bool.and_eq_true,decide_eq_true_eq,Bool.not_eq_true'] at h
  exact ⟨hi,h.1,h.2⟩
 intro h
 rw [h.u,h.o]
 rfl
/-- The top at a mate edge's other end. -/
def mt (nd : List S60) (es : List S51) (t : Int) : Int:=otherI nd es (rd_T60 nd t).f3 t
theorem Inv.mt_ok (g : Gph N most es) (h : Inv N most es D y nd) {t : Int} (ht : Top nd t) (hm : (rd_T60 nd t).f3 ≠ -1) : Top nd (mt nd es t) ∧ mt nd es t ≠ t ∧ (rd_T60 nd (mt nd es t)).f3 = (rd_T60 nd t).f3 ∧ mt nd es (mt nd es t) = t:=by
 have M:=h.mate t ht hm
 have e:=M.ei
 unfold mt otherI
 by_cases c : topI nd (rd_T51 es (rd_T60 nd t).f3).f0 = t
 ·rw [if_pos c,M.m1,if_neg (fun k=>M.ne k)]
  exact ⟨h.top_b g e,fun k=>M.ne (c.trans k.symm),rfl,c⟩
 have d:=M.tt.resolve_left c
 rw [if_neg c,M.m0,if_pos rfl]
 exact ⟨h.top_a g e,c,rfl,d⟩
end
end Go.Proofs.Ytnffimpoekjkpaa.QFnExactRounds
/- The solver's plain law: the reference's nodes and mates beside the program's. -/
namespace Go.Proofs.Ytnffimpoekjkpaa.QFnExactRounds
open Go.RowKit Go.Proofs.YtnffimpoekjkpaaW.PrintWords Go.Proofs.YtnffimpoekjkpaaW.PrintLast Go.Proofs.YtnffimpoekjkpaaW.PrintMore
set_option linter.unusedVariables false
set_option linter.unusedSimpArgs false
/-- A link that is an edge, in one direction or the other. -/
def LinkIs (es : List S51) (e : Int) (l : S77) : Prop:=(l.f0 = (rd_T51 es e).f0 ∧ l.f1 = (rd_T51 es e).f1) ∨ (l.f0 = (rd_T51 es e).f1 ∧ l.f1 = (rd_T51 es e).f0)
/-- A node of the program's and one of the reference's that are alike, whatever their bases and mates. -/
structure NdRel (es : List S51) (x : S60) (z : S55) : Prop where
 mem : z.f0 = x.f0
 ll : z.f1.length = x.f1.length
 lk : ∀ k,inR k x.f1.length → LinkIs es (rd x.f1 k) (rd_T77 z.f1 k)
 zz : z.f3 = x.f5
 up : z.f4 = x.f2
 op : z.f5 = x.f6
structure RelN (es : List S51) (nd : List S60) (rn : List S55) : Prop where
 l : rn.length = nd.length
 n : ∀ i,inR i nd.length → NdRel es (rd_T60 nd i) (rd_T55 rn i)
section
variable {es : List S51} {nd : List S60} {rn : List S55}
theorem RelN.up60 (h : RelN es nd rn) : up60 nd (cvs rn):=⟨(cvs_len rn).trans h.l,fun j hj=>by rw [rd_cvs];exact (h.n j hj).up⟩
theorem RelN.wf (h : RelN es nd rn) (hw : WFn nd) : WFn (cvs rn):=(topI_up h.up60 hw).1
theorem RelN.top (h : RelN es nd rn) (hw : WFn nd) {v : Int} (hv : inR v nd.length) : topI (cvs rn) v = topI nd v:=(topI_up h.up60 hw).2.1 v hv
theorem RelN.has (h : RelN es nd rn) (hw : WFn nd) {a v : Int} (ha : a ≠ -1) (hv : inR v nd.length) : hasI (cvs rn) a v = hasI nd a v:=(topI_up h.up60 hw).2.2 a ha v hv
theorem RelN.zsum (h : RelN es nd rn) (hw : WFn nd) {a b : Int} (ha : inR a nd.length) (hb : inR b nd.length) : zSum (cvs rn) a b = zSum nd a b:=by
 unfold zSum
 rw [cvs_len,h.l]
 refine sumI_congr fun i h0 h1=>?_
 unfold zOf
 rw [h.has hw (by omega) ha,h.has hw (by omega) hb,rd_cvs]
 have:=(h.n i ⟨h0,h1⟩).zz
 show (if _ then (rd_T55 rn i).f3 else 0) = _
 rw [this]
theorem RelN.vok (h : RelN es nd rn) {N : Int} (hv : VOk N nd) : VOk N (cvs rn):=by
 have hl : (cvs rn).length = nd.length:=(cvs_len rn).trans h.l
 refine ⟨h.wf hv.w,fun i hi=>?_,fun i h0 h1=>?_,fun m hm hu=>?_,by rw [hl];exact hv.l,by rw [hl];exact hv.nn⟩
 ·rw [hl] at hi
  rw [rd_cvs]
  show 0 ≤ (rd_T55 rn i).f3 ∧ (rd_T55 rn i).f3 ≤ _
  rw [(h.n i hi).zz]
  exact hv.z i hi
 ·have hi : inR i nd.length:=⟨h0,by have:=hv.nn;omega⟩
  rw [rd_cvs]
  show (rd_T55 rn i).f3 = 0 ∧ (rd_T55 rn i).f5 = false
  rw [(h.n i hi).zz,(h.n i hi).op]
  exact hv.v i h0 h1
 rw [hl] at hm
 have hmu : (rd_T60 (cvs rn) m).f2 = (rd_T60 nd m).f2:=h.up60.2 m hm
 rw [hmu] at hu ⊢
 rw [rd_cvs]
 show (rd_T55 rn (rd_T60 nd m).f2).f5 = false
 rw [(h.n _ ((up_in hv.w hm).resolve_left hu)).op]
 exact hv.o m hm hu
end
/-- The program's mate edges and the reference's mate links. -/
structure MRel (es : List S51) (nd : List S60) (mts : List S77) : Prop where
 a : ∀ l ∈ mts,∃ e,inR e es.length ∧ LinkIs es e l ∧ topI nd l.f0 ≠ topI nd l.f1 ∧ (rd_T60 nd (topI nd l.f0)).f3 = e ∧ (rd_T60 nd (topI nd l.f1)).f3 = e
 b : ∀ t,Top nd t → (rd_T60 nd t).f3 ≠ -1 → ∃ l ∈ mts,LinkIs es (rd_T60 nd t).f3 l
section
variable {N most : Int} {es : List S51} {D : Int} {y : List Int} {nd : List S60} {rn : List S55} {mts : List S77}
theorem LinkIs.tops {e : Int} {l : S77} (h : LinkIs es e l) : (topI nd l.f0 = topI nd (rd_T51 es e).f0 ∧ topI nd l.f1 = topI nd (rd_T51 es e).f1) ∨ (topI nd l.f0 = topI nd (rd_T51 es e).f1 ∧ topI nd l.f1 = topI nd (rd_T51 es e).f0):=by
 rcases h with ⟨h1,h2⟩|⟨h1,h2⟩
 ·exact .inl ⟨by rw [h1],by rw [h2]⟩
 exact .inr ⟨by rw [h1],by rw [h2]⟩
theorem LinkIs.swap {e : Int} {l : S77} (h : LinkIs es e l) : LinkIs es e ⟨l.f1,l.f0⟩:=h.elim (fun h=>.inr ⟨h.2,h.1⟩) fun h=>.inl ⟨h.2,h.1⟩
theorem LinkIs.vtx (g : Gph N most es) {e : Int} {l : S77} (he : inR e es.length) (h : LinkIs es e l) : (0 ≤ l.f0 ∧ l.f0 < N) ∧ (0 ≤ l.f1 ∧ l.f1 < N) ∧ l.f0 ≠ l.f1:=by
 have x:=g.e e he
 have:=x.a;have:=x.ab;have:=x.b
 rcases h with ⟨h1,h2⟩|⟨h1,h2⟩ <;> rw [h1,h2] <;> omega
theorem MRel.in (g : Gph N most es) (hn : N ≤ nd.length) (h : MRel es nd mts) : ∀ x ∈ mts,inR x.f0 nd.length ∧ inR x.f1 nd.length:=by
 intro x hx
 obtain ⟨e,he,hl,-⟩:=h.a x hx
 have:=hl.vtx g he
 exact ⟨⟨this.1.1,by omega⟩,⟨this.2.1.1,by omega⟩⟩
/-- What the reference finds as a top's mate. -/
theorem mateL_none (g : Gph N most es) (hi : Inv N most es D y nd) (hr : RelN es nd rn) (h : MRel es nd mts) {t : Int} (hm : (rd_T60 nd t).f3 = -1) : ∀ (l : List S77),(∀ x ∈ l,x ∈ mts) → mateL (cvs rn) t l = (⟨0,0⟩,false)
 | [],_=>rfl
 | x :: l,hl=>by
  have hx:=hl x List.mem_cons_self
  obtain ⟨e,he,-,hne,h0,h1⟩:=h.a x hx
  have hin:=h.in g hi.nn x hx
  have he0:=he.1
  rw [mateL,hr.top hi.wf hin.1,hr.top hi.wf hin.2,if_neg,if_neg]
  ·exact mateL_none g hi hr h hm l fun z hz=>hl z (List.mem_cons_of_mem _ hz)
  ·intro e1;rw [e1,hm] at h1;omega
  intro e1;rw [e1,hm] at h0;omega
theorem mateL_some (g : Gph N most es) (hi : Inv N most es D y nd) (hr : RelN es nd rn) (h : MRel es nd mts) {t : Int} (ht : Top nd t) (hm : (rd_T60 nd t).f3 ≠ -1) : ∀ (l : List S77),(∀ x ∈ l,x ∈ mts) → (∃ x ∈ l,LinkIs es (rd_T60 nd t).f3 x) →
  ∃ m,mateL (cvs rn) t l = (m,true) ∧ LinkIs es (rd_T60 nd t).f3 m ∧ topI nd m.f0 = t ∧ topI nd m.f1 = mt nd es t
 | [],_,hx=>by obtain ⟨x,hx,_⟩:=hx;cases hx
 | x :: l,hl,hx=>by
  have hxm:=hl x List.mem_cons_self
  obtain ⟨e,he,hlk,hne,h0,h1⟩:=h.a x hxm
  have hin:=h.in g hi.nn x hxm
  have M:=hi.mate t ht hm
  rw [mateL,hr.top hi.wf hin.1,hr.top hi.wf hin.2]
  by_cases c : topI nd x.f0 = t
  ·rw [if_pos c]
   rw [c] at h0
   subst h0
   refine ⟨x,rfl,hlk,c,?_⟩
   unfold mt otherI
   rcases hlk.tops (nd:=nd) with ⟨a,b⟩|⟨a,b⟩
   ·rw [if_pos (a.symm.trans c),b]
   rw [if_neg (by rw [← b,← c];exact fun k=>hne k.symm),b]
  rw [if_neg c]
  by_cases d : topI nd x.f1 = t
  ·rw [if_pos d]
   rw [d] at h1
   subst h1
   refine ⟨⟨x.f1,x.f0⟩,rfl,hlk.swap,d,?_⟩
   unfold mt otherI
   rcases hlk.tops (nd:=nd) with ⟨a,b⟩|⟨a,b⟩
   ·rw [if_neg (by rw [← a];exact c),a]
   rw [if_pos (b.symm.trans d),a]
  rw [if_neg d]
  refine mateL_some g hi hr h ht hm l (fun z hz=>hl z (List.mem_cons_of_mem _ hz)) ?_
  obtain ⟨z,hz,hzl⟩:=hx
  rcases List.mem_cons.1 hz with rfl|hz
  ·exfalso
   rcases hzl.tops (nd:=nd) with ⟨a,b⟩|⟨a,b⟩
   ·rcases M.tt with k|k
    ·exact c (a.trans k)
    exact d (b.trans k)
   rcases M.tt with k|k
   ·exact d (b.trans k)
   exact c (a.trans k)
  exact ⟨z,hz,hzl⟩
end
end Go.Proofs.Ytnffimpoekjkpaa.QFnExactRounds
/- The solver's plain law: the labels, of the program and of the reference, side by side. -/
namespace Go.Proofs.Ytnffimpoekjkpaa.QFnExactRounds
open Go.RowKit Go.Proofs.YtnffimpoekjkpaaW.PrintWords Go.Proofs.YtnffimpoekjkpaaW.PrintLast Go.Proofs.YtnffimpoekjkpaaW.PrintMore
set_option linter.unusedVariables false
set_option linter.unusedSimpArgs false
/-- Labels: a forest, by ranks. -/
structure Lab (es : List S51) (y : List Int) (nd : List S60) (lb ah bk : List Int) (rk : Int → Nat) (K : Nat) : Prop where
 ll : lb.length = nd.length
 la : ah.length = nd.length
 lk : bk.length = nd.length
 dom : ∀ i,inR i nd.length → rd lb i = 0 ∨ rd lb i = 1 ∨ rd lb i = 2
 top : ∀ i,inR i nd.length → rd lb i ≠ 0 → Top nd i
 free : ∀ i,Top nd i → (rd_T60 nd i).f3 = -1 → rd lb i = 1
 ev : ∀ i,inR i nd.length → rd lb i = 1 → ((rd_T60 nd i).f3 = -1 ∧ rd ah i = -1) ∨ ((rd_T60 nd i).f3 ≠ -1 ∧ rd ah i = mt nd es i ∧ rd lb (mt nd es i) = 2 ∧ rd bk i = (rd_T60 nd i).f3 ∧ rk (mt nd es i) < rk i)
 od : ∀ i,inR i nd.length → rd lb i = 2 → inR (rd ah i) nd.length ∧ rd lb (rd ah i) = 1 ∧ rk (rd ah i) < rk i ∧ inR (rd bk i) es.length ∧ slE y nd (rd_T51 es (rd bk i)) = 0 ∧
  ((topI nd (rd_T51 es (rd bk i)).f0 = rd ah i ∧ topI nd (rd_T51 es (rd bk i)).f1 = i) ∨ (topI nd (rd_T51 es (rd bk i)).f0 = i ∧ topI nd (rd_T51 es (rd bk i)).f1 = rd ah i)) ∧ (rd_T60 nd i).f3 ≠ -1 ∧ rd lb (mt nd es i) = 1
 rk : ∀ i,inR i nd.length → rd lb i ≠ 0 → rk i ≤ K
 cnt : K + lb.count 0 ≤ nd.length
/-- The reference's labels beside them. -/
structure LabS (es : List S51) (nd : List S60) (lb ah bk : List Int) (t : TI) : Prop where
 tl : t.lb = lb
 la : t.ah.length = nd.length
 lr : t.rt.length = nd.length
 lk : ∀ i,inR i nd.length → rd lb i ≠ 0 → rd ah i ≠ -1 → LinkIs es (rd bk i) (rd_T77 t.ah i) ∧ inR (rd bk i) es.length ∧ topI nd (rd_T77 t.ah i).f0 = rd ah i ∧ topI nd (rd_T77 t.ah i).f1 = i
 r0 : ∀ i,inR i nd.length → rd lb i ≠ 0 → rd ah i = -1 → rd t.rt i = i
 r1 : ∀ i,inR i nd.length → rd lb i ≠ 0 → rd ah i ≠ -1 → rd t.rt i = rd t.rt (rd ah i)
 rr : ∀ i,inR i nd.length → rd lb i ≠ 0 → inR (rd t.rt i) nd.length ∧ rd lb (rd t.rt i) = 1 ∧ rd ah (rd t.rt i) = -1
theorem rd_rep {n : Nat} {x i : Int} (hi : inR i n) : rd (List.replicate n x) i = x:=by
 have h : i.toNat < n:=by have:=hi.1;have:=hi.2;omega
 simp [rd,h]
/-- The labels of fresh, place by place. -/
theorem freshF_rd {nd : List S60} : ∀ (k : Nat) (i : Int) (lb ah bk : List Int),0 ≤ i → (nd.length : Int) < i + k → lb.length = nd.length → ah.length = nd.length → bk.length = nd.length → ∀ j,inR j nd.length →
  rd (freshF nd k i lb ah bk).1 j = (if i ≤ j ∧ isTopB (rd_T60 nd j) = true ∧ (rd_T60 nd j).f3 = -1 then 1 else rd lb j) ∧ rd (freshF nd k i lb ah bk).2.1 j = (if i ≤ j then -1 else rd ah j) ∧ rd (freshF nd k i lb ah bk).2.2 j = (if i ≤ j then -1 else rd bk j)
 | 0,i,lb,ah,bk,h0,hk,hl,ha,hb,j,hj=>by
  have:=hj.2
  rw [freshF,if_neg (by omega),if_neg (by omega),if_neg (by omega)]
  exact ⟨rfl,rfl,rfl⟩
 | k + 1,i,lb,ah,bk,h0,hk,hl,ha,hb,j,hj=>by
  have hj2:=hj.2
  rw [freshF]
  by_cases c : i < (nd.length : Int)
  ·rw [if_pos c]
   have hl2 : (if isTopB (rd_T60 nd i) = true ∧ (rd_T60 nd i).f3 = -1 then lb.set i.toNat 1 else lb).length = nd.length:=by split;rw [List.length_set];exact hl;exact hl
   obtain ⟨e1,e2,e3⟩:=freshF_rd k (i + 1) (if isTopB (rd_T60 nd i) = true ∧ (rd_T60 nd i).f3 = -1 then lb.set i.toNat 1 else lb) (ah.set i.toNat (-1)) (bk.set i.toNat (-1)) (by omega) (by omega) hl2 (by rw [List.length_set];exact ha) (by rw [List.length_set];exact hb) j hj
   rw [e1,e2,e3]
   by_cases d : j = i
   ·subst d
    have c1 : ¬j + 1 ≤ j:=by omega
    simp only [c1,Int.le_refl,false_and,true_and,↓reduceIte]
    rw [rd_set_if h0 (by rw [ha];exact c) h0,if_pos rfl,rd_set_if h0 (by rw [hb];exact c) h0,if_pos rfl]
    refine ⟨?_,rfl,rfl⟩
    by_cases e : isTopB (rd_T60 nd j) = true ∧ (rd_T60 nd j).f3 = -1
    ·rw [if_pos e,if_pos e,rd_set_if h0 (by rw [hl];exact c) h0,if_pos rfl]
    rw [if_neg e,if_neg e]
   rw [rd_set_if h0 (by rw [ha];exact c) hj.1,if_neg d,rd_set_if h0 (by rw [hb];exact c) hj.1,if_neg d]
   have e0 : rd (if isTopB (rd_T60 nd i) = true ∧ (rd_T60 nd i).f3 = -1 then lb.set i.toNat 1 else lb) j = rd lb j:=by
    split
    ·rw [rd_set_if h0 (by rw [hl];exact c) hj.1,if_neg d]
    rfl
   rw [e0]
   by_cases f : i + 1 ≤ j
   ·rw [if_pos f,if_pos f,if_pos (show i ≤ j by omega),if_pos (show i ≤ j by omega)]
    refine ⟨?_,rfl,rfl⟩
    by_cases e : isTopB (rd_T60 nd j) = true ∧ (rd_T60 nd j).f3 = -1
    ·rw [if_pos ⟨f,e⟩,if_pos ⟨by omega,e⟩]
    rw [if_neg (fun h=>e h.2),if_neg (fun h=>e h.2)]
   rw [if_neg f,if_neg f,if_neg (show ¬i ≤ j by omega),if_neg (show ¬i ≤ j by omega),if_neg (fun h=>f h.1),if_neg (fun h=>by have:=h.1;omega)]
   exact ⟨rfl,rfl,rfl⟩
  rw [if_neg c,if_neg (by omega),if_neg (by omega),if_neg (by omega)]
  exact ⟨rfl,rfl,rfl⟩
theorem freshI_rd {nd : List S60} {j : Int} (hj : inR j nd.length) : rd (freshI nd).1 j = (if isTopB (rd_T60 nd j) = true ∧ (rd_T60 nd j).f3 = -1 then 1 else 0) ∧ rd (freshI nd).2.1 j = -1 ∧ rd (freshI nd).2.2 j = -1:=by
 have h:=freshF_rd (nd:=nd) (nd.length + 1) 0 (List.replicate nd.length 0) (List.replicate nd.length 0) (List.replicate nd.length 0) (by omega) (by omega) List.length_replicate List.length_replicate List.length_replicate j hj
 rw [freshI,h.1,h.2.1,h.2.2,if_pos hj.1,rd_rep hj]
 refine ⟨?_,rfl,rfl⟩
 by_cases e : isTopB (rd_T60 nd j) = true ∧ (rd_T60 nd j).f3 = -1
 ·rw [if_pos e,if_pos ⟨hj.1,e⟩]
 rw [if_neg e,if_neg (fun h=>e h.2)]
section
variable {N most : Int} {es : List S51} {D : Int} {y : List Int} {nd : List S60} {rn : List S55} {mts : List S77}
theorem fresh_lab (g : Gph N most es) (hi : Inv N most es D y nd) : Lab es y nd (freshI nd).1 (freshI nd).2.1 (freshI nd).2.2 (fun _=>0) 0:=by
 have hl:=freshI_len nd
 have h1 : ∀ i,inR i nd.length → rd (freshI nd).1 i ≠ 0 → isTopB (rd_T60 nd i) = true ∧ (rd_T60 nd i).f3 = -1:=by
  intro i hr h
  rw [(freshI_rd hr).1] at h
  by_cases e : isTopB (rd_T60 nd i) = true ∧ (rd_T60 nd i).f3 = -1
  ·exact e
  rw [if_neg e] at h;exact absurd rfl h
 refine ⟨hl.1,hl.2.1,hl.2.2,fun i hr=>?_,fun i hr h=>(isTopB_iff hr).1 (h1 i hr h).1,fun i ht hm=>?_,fun i hr h=>.inl ⟨(h1 i hr (by rw [h];decide)).2,(freshI_rd hr).2.1⟩,fun i hr h=>?_,fun i hr h=>Nat.le_refl 0,?_⟩
 ·rw [(freshI_rd hr).1]
  split
  ·exact .inr (.inl rfl)
  exact .inl rfl
 ·rw [(freshI_rd ht.i).1,if_pos ⟨(isTopB_iff ht.i).2 ht,hm⟩]
 ·rw [(freshI_rd hr).1] at h
  split at h <;> cases h
 rw [Nat.zero_add,← hl.1]
 exact List.count_le_length
/-- The reference's labels at the start, place by place. -/
theorem startF_rd {nd5 : List S55} {mt5 : List S77} : ∀ (k : Nat) (i : Int) (t : TI),0 ≤ i → (nd5.length : Int) < i + k → t.lb.length = nd5.length → t.rt.length = nd5.length →
  (startF nd5 mt5 k i t).lb.length = nd5.length ∧ (startF nd5 mt5 k i t).rt.length = nd5.length ∧ (startF nd5 mt5 k i t).ah = t.ah ∧ ∀ j,inR j nd5.length →
  rd (startF nd5 mt5 k i t).lb j = (if i ≤ j ∧ isTop5 (rd_T55 nd5 j) = true ∧ (mateL (cvs nd5) j mt5).2 = false then 1 else rd t.lb j) ∧ rd (startF nd5 mt5 k i t).rt j = (if i ≤ j ∧ isTop5 (rd_T55 nd5 j) = true ∧ (mateL (cvs nd5) j mt5).2 = false then j else rd t.rt j)
 | 0,i,t,h0,hk,hl,hr=>⟨hl,hr,rfl,fun j hj=>by have:=hj.2;rw [startF,if_neg (by omega),if_neg (by omega)];exact ⟨rfl,rfl⟩⟩
 | k + 1,i,t,h0,hk,hl,hr=>by
  rw [startF]
  by_cases c : i < (nd5.length : Int)
  ·rw [if_pos c]
   by_cases e : isTop5 (rd_T55 nd5 i) = true ∧ (mateL (cvs nd5) i mt5).2 = false
   ·rw [if_pos e]
    obtain ⟨a1,a2,a3,a4⟩:=startF_rd (nd5:=nd5) (mt5:=mt5) k (i + 1) { t with lb:=t.lb.set i.toNat 1,rt:=t.rt.set i.toNat i } (by omega) (by omega) (by rw [List.length_set];exact hl) (by rw [List.length_set];exact hr)
    refine ⟨a1,a2,a3,fun j hj=>?_⟩
    obtain ⟨b1,b2⟩:=a4 j hj
    rw [b1,b2]
    by_cases d : j = i
    ·subst d
     have c1 : ¬j + 1 ≤ j:=by omega
     simp only [c1,Int.le_refl,false_and,true_and,↓reduceIte]
     rw [if_pos e,if_pos e]
     show rd (t.lb.set j.toNat 1) j = 1 ∧ rd (t.rt.set j.toNat j) j = j
     rw [rd_set_if h0 (by rw [hl];exact c) h0,if_pos rfl,rd_set_if h0 (by rw [hr];exact c) h0,if_pos rfl]
     exact ⟨rfl,rfl⟩
    show (if _ then 1 else rd (t.lb.set i.toNat 1) j) = _ ∧ (if _ then j else rd (t.rt.set i.toNat i) j) = _
    rw [rd_set_if h0 (by rw [hl];exact c) hj.1,if_neg d,rd_set_if h0 (by rw [hr];exact c) hj.1,if_neg d]
    by_cases f : isTop5 (rd_T55 nd5 j) = true ∧ (mateL (cvs nd5) j mt5).2 = false
    ·by_cases q : i + 1 ≤ j
     ·simp only [q,show i ≤ j by omega,f.1,f.2,and_self,↓reduceIte]
     simp only [q,show ¬i ≤ j by omega,false_and,and_self,↓reduceIte]
    rw [if_neg (fun h=>f h.2),if_neg (fun h=>f h.2),if_neg (fun h=>f h.2),if_neg (fun h=>f h.2)];exact ⟨rfl,rfl⟩
   rw [if_neg e]
   obtain ⟨a1,a2,a3,a4⟩:=startF_rd (nd5:=nd5) (mt5:=mt5) k (i + 1) t (by omega) (by omega) hl hr
   refine ⟨a1,a2,a3,fun j hj=>?_⟩
   obtain ⟨b1,b2⟩:=a4 j hj
   rw [b1,b2]
   by_cases f : isTop5 (rd_T55 nd5 j) = true ∧ (mateL (cvs nd5) j mt5).2 = false
   ·have d : j ≠ i:=fun d=>e (d ▸ f)
    by_cases q : i + 1 ≤ j
    ·simp only [q,show i ≤ j by omega,f.1,f.2,and_self,↓reduceIte]
    simp only [q,show ¬i ≤ j by omega,false_and,and_self,↓reduceIte]
   rw [if_neg (fun h=>f h.2),if_neg (fun h=>f h.2),if_neg (fun h=>f h.2),if_neg (fun h=>f h.2)];exact ⟨rfl,rfl⟩
  rw [if_neg c]
  exact ⟨hl,hr,rfl,fun j hj=>by have:=hj.2;rw [if_neg (by omega),if_neg (by omega)];exact ⟨rfl,rfl⟩⟩
/-- Both have the same tops. -/
theorem isTop_rel (hi : Inv N most es D y nd) (hr : RelN es nd rn) {j : Int} (hj : inR j nd.length) : isTop5 (rd_T55 rn j) = isTopB (rd_T60 nd j):=by
 have h:=isTop5_cv (nd:=rn) (hr.wf hi.wf) (i:=j) (by rw [hr.l];exact hj)
 rw [← h,rd_cvs]
 unfold isTopB
 show (decide ((rd_T55 rn j).f4 = -1) && !(rd_T55 rn j).f5) = _
 rw [(hr.n j hj).up,(hr.n j hj).op]
theorem mateL_has (g : Gph N most es) (hi : Inv N most es D y nd) (hr : RelN es nd rn) (hm : MRel es nd mts) {t : Int} (ht : Top nd t) : (mateL (cvs rn) t mts).2 = false ↔ (rd_T60 nd t).f3 = -1:=by
 constructor
 ·intro h
  apply Decidable.byContradiction
  intro c
  obtain ⟨m,e,-⟩:=mateL_some g hi hr hm ht c mts (fun _ h=>h) (hm.b t ht c)
  rw [e] at h
  cases h
 intro h
 rw [mateL_none g hi hr hm h mts (fun _ h=>h)]
theorem start_lab (g : Gph N most es) (hi : Inv N most es D y nd) (hr : RelN es nd rn) (hm : MRel es nd mts) : LabS es nd (freshI nd).1 (freshI nd).2.1 (freshI nd).2.2 (startT rn mts):=by
 obtain ⟨a1,a2,a3,a4⟩:=startF_rd (nd5:=rn) (mt5:=mts) (rn.length + 1) 0 (zeroT rn.length) (by omega) (by omega) List.length_replicate List.length_replicate
 have hlb : (startT rn mts).lb = (freshI nd).1:=by
  refine list_ext (by rw [startT,a1,(freshI_len nd).1,hr.l]) fun i h=>?_
  rw [startT,a1] at h
  have hn : inR i nd.length:=by rw [← hr.l];exact h
  rw [startT,(a4 i h).1,(freshI_rd hn).1,isTop_rel hi hr hn]
  show (if _ then 1 else rd (List.replicate rn.length 0) i) = _
  rw [rd_rep h]
  by_cases c : isTopB (rd_T60 nd i) = true
  ·have ht:=(isTopB_iff hn).1 c
   by_cases d : (rd_T60 nd i).f3 = -1
   ·rw [if_pos ⟨h.1,c,(mateL_has g hi hr hm ht).2 d⟩,if_pos ⟨c,d⟩]
   rw [if_neg (fun h=>d ((mateL_has g hi hr hm ht).1 h.2.2)),if_neg (fun h=>d h.2)]
  rw [if_neg (fun h=>c h.2.1),if_neg (fun h=>c h.1)]
 refine ⟨hlb,by rw [startT,a3];exact List.length_replicate.trans hr.l,by rw [startT,a2,hr.l],fun i hn h1 h2=>absurd (freshI_rd hn).2.1 h2,fun i hn h1 _=>?_,fun i hn h1 h2=>absurd (freshI_rd hn).2.1 h2,fun i hn h1=>?_⟩ <;>
 ·have h5 : inR i rn.length:=by rw [hr.l];exact hn
  have hrt : rd (startT rn mts).rt i = i:=by
   rw [startT,(a4 i h5).2]
   rw [(freshI_rd hn).1] at h1
   by_cases c : isTopB (rd_T60 nd i) = true ∧ (rd_T60 nd i).f3 = -1
   ·rw [if_pos ⟨hn.1,by rw [isTop_rel hi hr hn];exact c.1,(mateL_has g hi hr hm ((isTopB_iff hn).1 c.1)).2 c.2⟩]
   rw [if_neg c] at h1;exact absurd rfl h1
  have hone : rd (freshI nd).1 i = 1:=by
   rw [(freshI_rd hn).1] at h1 ⊢
   split
   ·rfl
   rename_i c
   rw [if_neg c] at h1
   exact absurd rfl h1
  first|exact hrt|(rw [hrt];exact ⟨hn,hone,(freshI_rd hn).2.1⟩)
end
end Go.Proofs.Ytnffimpoekjkpaa.QFnExactRounds
/- The solver's plain law: both sides label alike, till nothing is found or two even tops meet. -/
namespace Go.Proofs.Ytnffimpoekjkpaa.QFnExactRounds
open Go.RowKit Go.Proofs.YtnffimpoekjkpaaW.PrintWords Go.Proofs.YtnffimpoekjkpaaW.PrintLast Go.Proofs.YtnffimpoekjkpaaW.PrintMore
set_option linter.unusedVariables false
set_option linter.unusedSimpArgs false
/-- An edge by which something is found. -/
def GoodE (y : List Int) (nd : List S60) (lb : List Int) (x : S51) : Prop:=topI nd x.f0 ≠ topI nd x.f1 ∧ slE y nd x = 0 ∧ (rd lb (topI nd x.f0) = 1 ∨ rd lb (topI nd x.f1) = 1) ∧ rd lb (topI nd x.f0) ≠ 2 ∧ rd lb (topI nd x.f1) ≠ 2
instance (y : List Int) (nd : List S60) (lb : List Int) (x : S51) : Decidable (GoodE y nd lb x):=by unfold GoodE;infer_instance
section
variable {N most : Int} {es : List S51} {D : Int} {y : List Int} {nd : List S60} {rn : List S55} {mts : List S77} {lb ah bk : List Int} {rk : Int → Nat} {K : Nat} {t : TI}
theorem skip_iff (g : Gph N most es) (hi : Inv N most es D y nd) {e : Int} (he : inR e es.length) : skipP N y nd lb (rd_T51 es e) ↔ ¬GoodE y nd lb (rd_T51 es e):=by
 unfold skipP GoodE
 rw [hi.slackS g he]
 constructor
 ·rintro (h|h|⟨h,k⟩|h|h) ⟨a,b,c,d,f⟩
  ·exact a h
  ·exact h b
  ·rcases c with c|c
   ·exact h c
   exact k c
  ·exact d h
  exact f h
 intro h
 by_cases a : topI nd (rd_T51 es e).f0 = topI nd (rd_T51 es e).f1
 ·exact .inl a
 by_cases b : slE y nd (rd_T51 es e) = 0
 ·by_cases d : rd lb (topI nd (rd_T51 es e).f0) = 2
  ·exact .inr (.inr (.inr (.inl d)))
  by_cases f : rd lb (topI nd (rd_T51 es e).f1) = 2
  ·exact .inr (.inr (.inr (.inr f)))
  refine .inr (.inr (.inl ⟨fun c=>h ⟨a,b,.inl c,d,f⟩,fun c=>h ⟨a,b,.inr c,d,f⟩⟩))
 exact .inr (.inl b)
theorem scanF_spec (g : Gph N most es) (hi : Inv N most es D y nd) : ∀ (k : Nat) (i : Int),0 ≤ i → (es.length : Int) < i + k →
  (scanF N y nd lb es k i = -1 ∧ ∀ e,i ≤ e → e < es.length → ¬GoodE y nd lb (rd_T51 es e)) ∨ (i ≤ scanF N y nd lb es k i ∧ scanF N y nd lb es k i < es.length ∧ GoodE y nd lb (rd_T51 es (scanF N y nd lb es k i)))
 | 0,i,h0,hk=>.inl ⟨rfl,fun e h1 h2=>by omega⟩
 | k + 1,i,h0,hk=>by
  rw [scanF]
  by_cases c : i < (es.length : Int)
  ·rw [if_pos c]
   by_cases d : skipP N y nd lb (rd_T51 es i)
   ·rw [if_pos d]
    rcases scanF_spec g hi k (i + 1) (by omega) (by omega) with ⟨h1,h2⟩|⟨h1,h2,h3⟩
    ·refine .inl ⟨h1,fun e h3 h4=>?_⟩
     by_cases e0 : e = i
     ·rw [e0];exact (skip_iff g hi ⟨h0,c⟩).1 d
     exact h2 e (by omega) h4
    exact .inr ⟨by omega,h2,h3⟩
   rw [if_neg d]
   refine .inr ⟨Int.le_refl _,c,?_⟩
   apply Decidable.byContradiction
   intro h
   exact d ((skip_iff g hi ⟨h0,c⟩).2 h)
  rw [if_neg c]
  exact .inl ⟨rfl,fun e h1 h2=>by omega⟩
/-- The program's search is the reference's. -/
theorem found_scan (g : Gph N most es) (hi : Inv N most es D y nd) (hd : ∀ i,inR i nd.length → rd lb i = 0 ∨ rd lb i = 1 ∨ rd lb i = 2) : ∀ (k : Nat) (i : Int),0 ≤ i → (es.length : Int) < i + k →
  foundF y nd lb es k i = if scanF N y nd lb es k i = -1 then (-1,-1,-1) else (scanF N y nd lb es k i,if rd lb (topI nd (rd_T51 es (scanF N y nd lb es k i)).f0) = 1 then (topI nd (rd_T51 es (scanF N y nd lb es k i)).f0,topI nd (rd_T51 es (scanF N y nd lb es k i)).f1) else (topI nd (rd_T51 es (scanF N y nd lb es k i)).f1,topI nd (rd_T51 es (scanF N y nd lb es k i)).f0))
 | 0,i,h0,hk=>by rw [foundF,scanF,if_pos rfl]
 | k + 1,i,h0,hk=>by
  rw [foundF,scanF]
  by_cases c : i < (es.length : Int)
  ·rw [if_pos c,if_pos c]
   have he : inR i es.length:=⟨h0,c⟩
   have ih:=found_scan g hi hd k (i + 1) (by omega) (by omega)
   have dA:=hd _ (hi.top_a g he).i
   have dB:=hd _ (hi.top_b g he).i
   rw [hi.slackI g he]
   by_cases q : skipP N y nd lb (rd_T51 es i)
   ·rw [if_pos q]
    have q2:=(skip_iff g hi he).1 q
    by_cases a : topI nd (rd_T51 es i).f0 = topI nd (rd_T51 es i).f1
    ·rw [if_pos a];exact ih
    rw [if_neg a]
    by_cases b : slE y nd (rd_T51 es i) = 0
    ·rw [if_neg (by simpa using b),if_neg,if_neg]
     ·exact ih
     ·rintro ⟨h1,h2⟩
      exact q2 ⟨a,b,.inr h1,by omega,by omega⟩
     rintro ⟨h1,h2⟩
     exact q2 ⟨a,b,.inl h1,by omega,h2⟩
    rw [if_pos b];exact ih
   rw [if_neg q]
   have q2 : GoodE y nd lb (rd_T51 es i):=by
    apply Decidable.byContradiction
    intro h
    exact q ((skip_iff g hi he).2 h)
   obtain ⟨a,b,c1,c2,c3⟩:=q2
   rw [if_neg a,if_neg (by simpa using b),if_neg (show ¬i = -1 by omega)]
   by_cases d : rd lb (topI nd (rd_T51 es i).f0) = 1
   ·rw [if_pos ⟨d,c3⟩,if_pos d]
   rw [if_neg (fun h=>d h.1),if_pos ⟨c1.resolve_left d,by omega⟩,if_neg d]
  rw [if_neg c,if_neg c,if_pos rfl]
theorem scan_cvs (g : Gph N most es) (hi : Inv N most es D y nd) (hr : RelN es nd rn) : ∀ (k : Nat) (i : Int),0 ≤ i → scanF N y (cvs rn) lb es k i = scanF N y nd lb es k i
 | 0,i,h0=>rfl
 | k + 1,i,h0=>by
  rw [scanF,scanF]
  by_cases c : i < (es.length : Int)
  ·rw [if_pos c,if_pos c,scan_cvs g hi hr k (i + 1) (by omega)]
   have he : inR i es.length:=⟨h0,c⟩
   have hin:=hi.edge g he
   have e1 : skipP N y (cvs rn) lb (rd_T51 es i) ↔ skipP N y nd lb (rd_T51 es i):=by
    unfold skipP
    rw [hr.top hi.wf hin.1,hr.top hi.wf hin.2,hi.slackS g he,slackS_eq (g.e i he) (hi.yok g) hi.yl (hr.vok (hi.vok g))]
    unfold slE
    rw [hr.zsum hi.wf hin.1 hin.2]
   by_cases d : skipP N y nd lb (rd_T51 es i)
   ·rw [if_pos d,if_pos (e1.2 d)]
   rw [if_neg d,if_neg (fun h=>d (e1.1 h))]
  rw [if_neg c,if_neg c]
end
theorem count_set {l : List Int} {i : Int} {x : Int} (hi : inR i l.length) (h0 : rd l i = 0) (hx : x ≠ 0) : (l.set i.toNat x).count 0 + 1 = l.count 0:=by
 have h1 : i.toNat < l.length:=by have:=hi.1;have:=hi.2;omega
 have e : l[i.toNat] = 0:=by simpa [rd,h1] using h0
 have hp : 0 < l.count 0:=List.count_pos_iff.2 (e ▸ List.getElem_mem h1)
 rw [List.count_set h1,e]
 simp [hx]
 omega
section
variable {N most : Int} {es : List S51} {D : Int} {y : List Int} {nd : List S60} {rn : List S55} {mts : List S77} {lb ah bk : List Int} {rk : Int → Nat} {K : Nat} {t : TI}
/-- One step of the labelling: from an even top by an edge to a bare one, and on by its mate edge. -/
theorem lab_step (g : Gph N most es) (hi : Inv N most es D y nd) (L : Lab es y nd lb ah bk rk K) {e a b : Int} (he : inR e es.length) (hs : slE y nd (rd_T51 es e) = 0) (ha : inR a nd.length) (hla : rd lb a = 1) (hb : Top nd b) (hlb : rd lb b = 0) (hab : (topI nd (rd_T51 es e).f0 = a ∧ topI nd (rd_T51 es e).f1 = b) ∨ (topI nd (rd_T51 es e).f0 = b ∧ topI nd (rd_T51 es e).f1 = a)) :
  (rd_T60 nd b).f3 ≠ -1 ∧ Top nd (mt nd es b) ∧ mt nd es b ≠ b ∧ a ≠ b ∧ mt nd es b ≠ a ∧ rd lb (mt nd es b) = 0 ∧
  Lab es y nd ((lb.set b.toNat 2).set (mt nd es b).toNat 1) ((ah.set b.toNat a).set (mt nd es b).toNat b) ((bk.set b.toNat e).set (mt nd es b).toNat (rd_T60 nd b).f3) (fun i=>if i = b then K + 1 else if i = mt nd es b then K + 2 else rk i) (K + 2):=by
 have hm : (rd_T60 nd b).f3 ≠ -1:=fun h=>by rw [L.free b hb h] at hlb;cases hlb
 obtain ⟨hc,hcb,hcf,hcm⟩:=hi.mt_ok g hb hm
 obtain ⟨c,hce⟩ : ∃ c,mt nd es b = c:=⟨_,rfl⟩
 rw [hce] at hc hcb hcf hcm ⊢
 have hab' : a ≠ b:=fun h=>by rw [h,hlb] at hla;cases hla
 have hlc : rd lb c = 0:=by
  rcases L.dom c hc.i with h|h|h
  ·exact h
  ·rcases L.ev c hc.i h with ⟨k,_⟩|⟨_,_,k,_⟩
   ·rw [hcf] at k;exact absurd k hm
   rw [hcm,hlb] at k;cases k
  have k:=(L.od c hc.i h).2.2.2.2.2.2.2
  rw [hcm,hlb] at k;cases k
 have hca : c ≠ a:=fun h=>by rw [h,hla] at hlc;cases hlc
 have lB : b < (lb.length : Int):=by rw [L.ll];exact hb.i.2
 have lC : c < ((lb.set b.toNat 2).length : Int):=by rw [List.length_set,L.ll];exact hc.i.2
 have rlb : ∀ {i : Int},0 ≤ i → rd ((lb.set b.toNat 2).set c.toNat 1) i = if i = c then 1 else if i = b then 2 else rd lb i:=fun h0=>by rw [rd_set_if hc.i.1 lC h0,rd_set_if hb.i.1 lB h0]
 have rah : ∀ {i : Int},0 ≤ i → rd ((ah.set b.toNat a).set c.toNat b) i = if i = c then b else if i = b then a else rd ah i:=fun h0=>by rw [rd_set_if hc.i.1 (by rw [List.length_set,L.la];exact hc.i.2) h0,rd_set_if hb.i.1 (by rw [L.la];exact hb.i.2) h0]
 have rbk : ∀ {i : Int},0 ≤ i → rd ((bk.set b.toNat e).set c.toNat (rd_T60 nd b).f3) i = if i = c then (rd_T60 nd b).f3 else if i = b then e else rd bk i:=fun h0=>by rw [rd_set_if hc.i.1 (by rw [List.length_set,L.lk];exact hc.i.2) h0,rd_set_if hb.i.1 (by rw [L.lk];exact hb.i.2) h0]
 have old : ∀ i,rd lb i = 1 ∨ rd lb i = 2 → i ≠ c ∧ i ≠ b:=fun i h=>⟨fun k=>by rw [k,hlc] at h;omega,fun k=>by rw [k,hlb] at h;omega⟩
 have rk0 : ∀ i,inR i nd.length → rd lb i ≠ 0 → (if i = b then K + 1 else if i = c then K + 2 else rk i) = rk i:=fun i hn h=>by
  have:=L.dom i hn
  have o:=old i (by omega)
  rw [if_neg o.2,if_neg o.1]
 refine ⟨hm,hc,hcb,hab',hca,hlc,⟨by rw [List.length_set,List.length_set];exact L.ll,by rw [List.length_set,List.length_set];exact L.la,by rw [List.length_set,List.length_set];exact L.lk,fun i hn=>?_,fun i hn h=>?_,fun i ht h=>?_,fun i hn h=>?_,fun i hn h=>?_,fun i hn h=>?_,?_⟩⟩
 ·rw [rlb hn.1]
  split
  ·exact .inr (.inl rfl)
  split
  ·exact .inr (.inr rfl)
  exact L.dom i hn
 ·rw [rlb hn.1] at h
  by_cases c1 : i = c
  ·rw [c1];exact hc
  by_cases c2 : i = b
  ·rw [c2];exact hb
  rw [if_neg c1,if_neg c2] at h;exact L.top i hn h
 ·have k:=L.free i ht h
  have o:=old i (.inl k)
  rw [rlb ht.i.1,if_neg o.1,if_neg o.2];exact k
 ·rw [rlb hn.1] at h
  by_cases c1 : i = c
  ·subst c1
   refine .inr ⟨by rw [hcf];exact hm,?_,?_,?_,?_⟩
   ·rw [rah hn.1,if_pos rfl,hcm]
   ·rw [hcm,rlb hb.i.1,if_neg hcb.symm,if_pos rfl]
   ·rw [rbk hn.1,if_pos rfl,hcf]
   show (if mt nd es i = b then K + 1 else _) < (if i = b then K + 1 else if i = i then K + 2 else rk i)
   rw [hcm,if_pos rfl,if_neg hcb,if_pos rfl]
   omega
  rw [if_neg c1] at h
  by_cases c2 : i = b
  ·rw [if_pos c2] at h;cases h
  rw [if_neg c2] at h
  rw [rah hn.1,if_neg c1,if_neg c2,rbk hn.1,if_neg c1,if_neg c2]
  rcases L.ev i hn h with ⟨k1,k2⟩|⟨k1,k2,k3,k4,k5⟩
  ·exact .inl ⟨k1,k2⟩
  have ht:=L.top i hn (by rw [h];decide)
  have hmi:=(hi.mt_ok g ht k1).1.i
  have o:=old _ (.inr k3)
  refine .inr ⟨k1,k2,by rw [rlb hmi.1,if_neg o.1,if_neg o.2];exact k3,k4,?_⟩
  show (if mt nd es i = b then K + 1 else if mt nd es i = c then K + 2 else rk (mt nd es i)) < (if i = b then K + 1 else if i = c then K + 2 else rk i)
  rw [rk0 _ hmi (by rw [k3];decide),rk0 i hn (by rw [h];decide)]
  exact k5
 ·rw [rlb hn.1] at h
  by_cases c1 : i = c
  ·rw [if_pos c1] at h;cases h
  rw [if_neg c1] at h
  by_cases c2 : i = b
  ·subst c2
   have ra : rd ((ah.set i.toNat a).set c.toNat i) i = a:=by rw [rah hn.1,if_neg c1,if_pos rfl]
   have rb : rd ((bk.set i.toNat e).set c.toNat (rd_T60 nd i).f3) i = e:=by rw [rbk hn.1,if_neg c1,if_pos rfl]
   have oa:=old a (.inl hla)
   rw [ra,rb]
   refine ⟨ha,by rw [rlb ha.1,if_neg oa.1,if_neg oa.2];exact hla,?_,he,hs,hab,hm,by rw [hce,rlb hc.i.1,if_pos rfl]⟩
   show (if a = i then K + 1 else if a = c then K + 2 else rk a) < (if i = i then K + 1 else if i = c then K + 2 else rk i)
   rw [rk0 a ha (by rw [hla];decide),if_pos rfl]
   have:=L.rk a ha (by rw [hla];decide)
   omega
  rw [if_neg c2] at h
  have ra : rd ((ah.set b.toNat a).set c.toNat b) i = rd ah i:=by rw [rah hn.1,if_neg c1,if_neg c2]
  have rb : rd ((bk.set b.toNat e).set c.toNat (rd_T60 nd b).f3) i = rd bk i:=by rw [rbk hn.1,if_neg c1,if_neg c2]
  rw [ra,rb]
  obtain ⟨k1,k2,k3,k4,k5,k6,k7,k8⟩:=L.od i hn h
  have ht:=L.top i hn (by rw [h];decide)
  have hmi:=(hi.mt_ok g ht k7).1.i
  have o1:=old _ (.inl k2)
  have o2:=old _ (.inl k8)
  refine ⟨k1,by rw [rlb k1.1,if_neg o1.1,if_neg o1.2];exact k2,?_,k4,k5,k6,k7,by rw [rlb hmi.1,if_neg o2.1,if_neg o2.2];exact k8⟩
  show (if rd ah i = b then K + 1 else if rd ah i = c then K + 2 else rk (rd ah i)) < (if i = b then K + 1 else if i = c then K + 2 else rk i)
  rw [rk0 _ k1 (by rw [k2];decide),rk0 i hn (by rw [h];decide)]
  exact k3
 ·rw [rlb hn.1] at h
  show (if i = b then K + 1 else if i = c then K + 2 else rk i) ≤ K + 2
  by_cases c2 : i = b
  ·rw [if_pos c2];omega
  by_cases c1 : i = c
  ·rw [if_neg c2,if_pos c1];omega
  rw [if_neg c1,if_neg c2] at h
  rw [if_neg c2,if_neg c1]
  have:=L.rk i hn h
  omega
 have e1:=count_set (x:=2) (show inR b lb.length by rw [L.ll];exact hb.i) hlb (by decide)
 have e2:=count_set (l:=lb.set b.toNat 2) (x:=1) (show inR c (lb.set b.toNat 2).length by rw [List.length_set,L.ll];exact hc.i) (by rw [rd_set_if hb.i.1 lB hc.i.1,if_neg hcb];exact hlc) (by decide)
 have:=L.cnt
 omega
end
end Go.Proofs.Ytnffimpoekjkpaa.QFnExactRounds
/- The solver's plain law: both sides label alike, whole. -/
namespace Go.Proofs.Ytnffimpoekjkpaa.QFnExactRounds
open Go.RowKit Go.Proofs.YtnffimpoekjkpaaW.PrintWords Go.Proofs.YtnffimpoekjkpaaW.PrintLast Go.Proofs.YtnffimpoekjkpaaW.PrintMore
set_option linter.unusedVariables false
set_option linter.unusedSimpArgs false
theorem rd77_set {l : List S77} {i j : Int} (x : S77) (h0 : 0 ≤ i) (h1 : i < (l.length : Int)) (hj : 0 ≤ j) : rd_T77 (l.set i.toNat x) j = if j = i then x else rd_T77 l j:=by
 unfold rd_T77
 by_cases c : j = i
 ·rw [if_pos c,c]
  have h : i.toNat < l.length:=by omega
  simp [h]
 rw [if_neg c]
 have h : i.toNat ≠ j.toNat:=by omega
 simp [List.getElem?_set,h]
theorem set2 {l : List Int} {b c i x z : Int} {n : Nat} (hl : l.length = n) (hb : inR b n) (hc : inR c n) (h0 : 0 ≤ i) : rd ((l.set b.toNat x).set c.toNat z) i = if i = c then z else if i = b then x else rd l i:=by
 subst hl
 rw [rd_set_if hc.1 (by rw [List.length_set];exact hc.2) h0,rd_set_if hb.1 hb.2 h0]
section
variable {N most : Int} {es : List S51} {D : Int} {y : List Int} {nd : List S60} {rn : List S55} {mts : List S77} {lb ah bk : List Int} {rk : Int → Nat} {K : Nat} {t : TI}
/-- A labelled node's ahead is labelled. -/
theorem Lab.ahead (g : Gph N most es) (hv : Inv N most es D y nd) (L : Lab es y nd lb ah bk rk K) {i : Int} (hi : inR i nd.length) (h : rd lb i ≠ 0) (ha : rd ah i ≠ -1) : inR (rd ah i) nd.length ∧ rd lb (rd ah i) ≠ 0 ∧ rk (rd ah i) < rk i:=by
 rcases L.dom i hi with k|k|k
 ·exact absurd k h
 ·rcases L.ev i hi k with ⟨_,q⟩|⟨q0,q1,q2,_,q3⟩
  ·exact absurd q ha
  rw [q1];exact ⟨(hv.mt_ok g (L.top i hi h) q0).1.i,by rw [q2];decide,q3⟩
 have q:=L.od i hi k
 exact ⟨q.1,by rw [q.2.1];decide,q.2.2.1⟩
theorem labS_step (g : Gph N most es) (hv : Inv N most es D y nd) (L : Lab es y nd lb ah bk rk K) (S : LabS es nd lb ah bk t) {e a b c f : Int} {l m : S77} (he : inR e es.length) (hf : inR f es.length) (ha : inR a nd.length) (hb : inR b nd.length) (hc : inR c nd.length) (hla : rd lb a = 1) (hlb : rd lb b = 0) (hlc : rd lb c = 0) (hcb : c ≠ b)
  (hl : LinkIs es e l) (hl0 : topI nd l.f0 = a) (hl1 : topI nd l.f1 = b) (hm : LinkIs es f m) (hm0 : topI nd m.f0 = b) (hm1 : topI nd m.f1 = c) :
  LabS es nd ((lb.set b.toNat 2).set c.toNat 1) ((ah.set b.toNat a).set c.toNat b) ((bk.set b.toNat e).set c.toNat f) (growT t a b l m c):=by
 have hab : a ≠ b:=fun h=>by rw [h,hlb] at hla;cases hla
 have hac : a ≠ c:=fun h=>by rw [h,hlc] at hla;cases hla
 have rlb : ∀ {i : Int},0 ≤ i → rd ((lb.set b.toNat 2).set c.toNat 1) i = if i = c then 1 else if i = b then 2 else rd lb i:=fun h0=>set2 L.ll hb hc h0
 have rah : ∀ {i : Int},0 ≤ i → rd ((ah.set b.toNat a).set c.toNat b) i = if i = c then b else if i = b then a else rd ah i:=fun h0=>set2 L.la hb hc h0
 have rbk : ∀ {i : Int},0 ≤ i → rd ((bk.set b.toNat e).set c.toNat f) i = if i = c then f else if i = b then e else rd bk i:=fun h0=>set2 L.lk hb hc h0
 have rta : ∀ {i : Int},0 ≤ i → rd_T77 ((t.ah.set b.toNat l).set c.toNat m) i = if i = c then m else if i = b then l else rd_T77 t.ah i:=fun h0=>by
  rw [rd77_set _ hc.1 (by rw [List.length_set,S.la];exact hc.2) h0,rd77_set _ hb.1 (by rw [S.la];exact hb.2) h0]
 have rrt : ∀ {i : Int},0 ≤ i → rd ((t.rt.set b.toNat (rd t.rt a)).set c.toNat (rd (t.rt.set b.toNat (rd t.rt a)) a)) i = if i = c then rd t.rt a else if i = b then rd t.rt a else rd t.rt i:=fun h0=>by
  rw [set2 S.lr hb hc h0,rd_set_if hb.1 (by rw [S.lr];exact hb.2) ha.1,if_neg hab]
 have old : ∀ {i : Int},rd lb i ≠ 0 → i ≠ c ∧ i ≠ b:=fun h=>⟨fun k=>h (k ▸ hlc),fun k=>h (k ▸ hlb)⟩
 have hb1 : b ≠ -1:=by have:=hb.1;omega
 have ha1 : a ≠ -1:=by have:=ha.1;omega
 have RR:=S.rr a ha (by rw [hla];decide)
 have root : ∀ {r : Int},inR r nd.length ∧ rd lb r = 1 ∧ rd ah r = -1 → inR r nd.length ∧ rd ((lb.set b.toNat 2).set c.toNat 1) r = 1 ∧ rd ((ah.set b.toNat a).set c.toNat b) r = -1:=fun {r} h=>by
  have o:=old (i:=r) (by rw [h.2.1];decide)
  refine ⟨h.1,?_,?_⟩
  ·rw [rlb h.1.1,if_neg o.1,if_neg o.2];exact h.2.1
  rw [rah h.1.1,if_neg o.1,if_neg o.2];exact h.2.2
 refine ⟨by rw [growT,S.tl],by rw [growT];simp only [List.length_set];exact S.la,by rw [growT];simp only [List.length_set];exact S.lr,fun i hi h1 h2=>?_,fun i hi h1 h2=>?_,fun i hi h1 h2=>?_,fun i hi h1=>?_⟩ <;> simp only [growT]
 ·rw [rlb hi.1] at h1
  rw [rah hi.1] at h2
  rw [rta hi.1,rbk hi.1,rah hi.1]
  by_cases d : i = c
  ·simp only [if_pos d]
   exact ⟨hm,hf,hm0,hm1.trans d.symm⟩
  simp only [if_neg d] at h1 h2 ⊢
  by_cases q : i = b
  ·simp only [if_pos q]
   exact ⟨hl,he,hl0,hl1.trans q.symm⟩
  simp only [if_neg q] at h1 h2 ⊢
  exact S.lk i hi h1 h2
 ·rw [rlb hi.1] at h1
  rw [rah hi.1] at h2
  rw [rrt hi.1]
  by_cases d : i = c
  ·rw [if_pos d] at h2;exact absurd h2 hb1
  rw [if_neg d] at h1 h2 ⊢
  by_cases q : i = b
  ·rw [if_pos q] at h2;exact absurd h2 ha1
  rw [if_neg q] at h1 h2 ⊢
  exact S.r0 i hi h1 h2
 ·rw [rlb hi.1] at h1
  rw [rah hi.1] at h2
  have e1 : rd ((ah.set b.toNat a).set c.toNat b) i = if i = c then b else if i = b then a else rd ah i:=rah hi.1
  rw [rrt hi.1,e1]
  by_cases d : i = c
  ·rw [if_pos d,if_pos d,rrt hb.1,if_neg hcb.symm,if_pos rfl]
  rw [if_neg d] at h1 h2 ⊢
  rw [if_neg d]
  by_cases q : i = b
  ·rw [if_pos q,if_pos q,rrt ha.1,if_neg hac,if_neg hab]
  rw [if_neg q] at h1 h2 ⊢
  rw [if_neg q]
  have k:=L.ahead g hv hi h1 h2
  have o:=old k.2.1
  rw [rrt k.1.1,if_neg o.1,if_neg o.2]
  exact S.r1 i hi h1 h2
 rw [rlb hi.1] at h1
 rw [rrt hi.1]
 by_cases d : i = c
 ·rw [if_pos d];exact root RR
 rw [if_neg d] at h1 ⊢
 by_cases q : i = b
 ·rw [if_pos q];exact root RR
 rw [if_neg q] at h1 ⊢
 exact root (S.rr i hi h1)
/-- Both sides label alike, whole. -/
theorem grow_label (g : Gph N most es) (hi : Inv N most es D y nd) (hr : RelN es nd rn) (hm : MRel es nd mts) : ∀ (k : Nat) (lb ah bk : List Int) (t : TI) (rk : Int → Nat) (K : Nat),Lab es y nd lb ah bk rk K → LabS es nd lb ah bk t → lb.count 0 < k →
  ∃ (e a c : Int) (lb' ah' bk' : List Int) (t' : TI) (rk' : Int → Nat) (K' : Nat),growF y nd es k lb ah bk = some ((e,a,c),lb',ah',bk') ∧ labelF N y (cvs rn) mts es k t = some (t',e) ∧ Lab es y nd lb' ah' bk' rk' K' ∧ LabS es nd lb' ah' bk' t' ∧
   ((e = -1 ∧ ∀ i,inR i es.length → ¬GoodE y nd lb' (rd_T51 es i)) ∨ (inR e es.length ∧ GoodE y nd lb' (rd_T51 es e) ∧ rd lb' a = 1 ∧ rd lb' c = 1 ∧ a = topI nd (rd_T51 es e).f0 ∧ c = topI nd (rd_T51 es e).f1))
 | 0,lb,ah,bk,t,rk,K,L,S,hk=>absurd hk (by omega)
 | k + 1,lb,ah,bk,t,rk,K,L,S,hk=>by
  have hf:=found_scan g hi L.dom (es.length + 1) 0 (by omega) (by omega)
  have hs:=scanF_spec (lb:=lb) g hi (es.length + 1) 0 (by omega) (by omega)
  have hc:=scan_cvs (lb:=lb) g hi hr (es.length + 1) 0 (by omega)
  rw [growF,labelF,S.tl,hc,foundI,hf]
  rcases hs with ⟨h1,h2⟩|⟨h1,h2,h3⟩
  ·rw [h1,if_pos rfl,if_pos rfl,if_pos rfl]
   exact ⟨-1,-1,-1,lb,ah,bk,t,rk,K,rfl,rfl,L,S,.inl ⟨rfl,fun i hr=>h2 i hr.1 hr.2⟩⟩
  generalize scanF N y nd lb es (es.length + 1) 0 = e at h1 h2 h3 ⊢
  have he : inR e es.length:=⟨h1,h2⟩
  have hin:=hi.edge g he
  have ne : e ≠ -1:=by omega
  rw [if_neg ne,if_neg ne,if_neg ne,hr.top hi.wf hin.1,hr.top hi.wf hin.2]
  obtain ⟨g1,g2,g3,g4,g5⟩:=h3
  have ta:=hi.top_a g he
  have tb:=hi.top_b g he
  -- the step on,from `a` to `b`
  have step : ∀ (a b : Int) (l : S77),inR a nd.length → Top nd b → rd lb a = 1 → rd lb b = 0 → LinkIs es e l → topI nd l.f0 = a → topI nd l.f1 = b → (topI nd (rd_T51 es e).f0 = a ∧ topI nd (rd_T51 es e).f1 = b) ∨ (topI nd (rd_T51 es e).f0 = b ∧ topI nd (rd_T51 es e).f1 = a) →
    ∃ (e' a' c' : Int) (lb' ah' bk' : List Int) (t' : TI) (rk' : Int → Nat) (K' : Nat),
     (if inR (rd_T60 nd b).f3 es.length then growF y nd es k ((lb.set b.toNat 2).set (otherI nd es (rd_T60 nd b).f3 b).toNat 1) ((ah.set b.toNat a).set (otherI nd es (rd_T60 nd b).f3 b).toNat b) ((bk.set b.toNat e).set (otherI nd es (rd_T60 nd b).f3 b).toNat (rd_T60 nd b).f3) else none) = some ((e',a',c'),lb',ah',bk') ∧
     labelF N y (cvs rn) mts es k (nextT (cvs rn) mts t a b l) = some (t',e') ∧ Lab es y nd lb' ah' bk' rk' K' ∧ LabS es nd lb' ah' bk' t' ∧
     ((e' = -1 ∧ ∀ i,inR i es.length → ¬GoodE y nd lb' (rd_T51 es i)) ∨ (inR e' es.length ∧ GoodE y nd lb' (rd_T51 es e') ∧ rd lb' a' = 1 ∧ rd lb' c' = 1 ∧ a' = topI nd (rd_T51 es e').f0 ∧ c' = topI nd (rd_T51 es e').f1)):=by
   intro a b l ha hb hla hlb hl hl0 hl1 hab
   obtain ⟨q1,q2,q3,q4,q5,q6,q7⟩:=lab_step g hi L he g2 ha hla hb hlb hab
   obtain ⟨m,m1,m2,m3,m4⟩:=mateL_some g hi hr hm hb q1 mts (fun _ h=>h) (hm.b b hb q1)
   have M:=hi.mate b hb q1
   have hmi:=m2.vtx g M.ei
   have S2:=labS_step g hi L S he M.ei ha hb.i q2.i hla hlb q6 q3 hl hl0 hl1 m2 m3 m4
   have e1 : nextT (cvs rn) mts t a b l = growT t a b l m (mt nd es b):=by
    rw [nextT,m1]
    show growT t a b l m (topI (cvs rn) m.f1) = _
    rw [hr.top hi.wf (hi.vtx hmi.2.1.1 hmi.2.1.2),m4]
   rw [if_pos M.ei,e1]
   refine grow_label g hi hr hm k _ _ _ _ _ _ q7 S2 ?_
   have c1:=count_set (x:=2) (show inR b lb.length by rw [L.ll];exact hb.i) hlb (by decide)
   have c2:=count_set (l:=lb.set b.toNat 2) (x:=1) (show inR (mt nd es b) (lb.set b.toNat 2).length by rw [List.length_set,L.ll];exact q2.i) (by rw [rd_set_if hb.i.1 (by rw [L.ll];exact hb.i.2) q2.i.1,if_neg q3];exact q6) (by decide)
   show ((lb.set b.toNat 2).set (mt nd es b).toNat 1).count 0 < k
   omega
  by_cases ca : rd lb (topI nd (rd_T51 es e).f0) = 1
  ·rw [if_pos ca]
   by_cases cb : rd lb (topI nd (rd_T51 es e).f1) = 1
   ·rw [if_pos cb,if_pos ⟨ca,cb⟩]
    exact ⟨_,_,_,_,_,_,_,_,_,rfl,rfl,L,S,.inr ⟨he,⟨g1,g2,g3,g4,g5⟩,ca,cb,rfl,rfl⟩⟩
   rw [if_neg cb]
   rw [if_neg (show ¬(rd lb (topI nd (rd_T51 es e).f0) = 1 ∧ rd lb (topI nd (rd_T51 es e).f1) = 1) from fun h=>cb h.2)]
   have e1 : linkT (cvs rn) mts t (rd_T51 es e) = nextT (cvs rn) mts t (topI nd (rd_T51 es e).f0) (topI nd (rd_T51 es e).f1) ⟨(rd_T51 es e).f0,(rd_T51 es e).f1⟩:=by
    rw [linkT,S.tl,hr.top hi.wf hin.1,hr.top hi.wf hin.2,if_pos ca]
   rw [e1]
   exact step _ _ ⟨(rd_T51 es e).f0,(rd_T51 es e).f1⟩ ta.i tb ca (by rcases L.dom _ tb.i with h|h|h;exact h;exact absurd h cb;exact absurd h g5) (.inl ⟨rfl,rfl⟩) rfl rfl (.inl ⟨rfl,rfl⟩)
  have cb:=g3.resolve_left ca
  rw [if_neg ca,if_neg ca]
  rw [if_neg (show ¬(rd lb (topI nd (rd_T51 es e).f0) = 1 ∧ rd lb (topI nd (rd_T51 es e).f1) = 1) from fun h=>ca h.1)]
  have e1 : linkT (cvs rn) mts t (rd_T51 es e) = nextT (cvs rn) mts t (topI nd (rd_T51 es e).f1) (topI nd (rd_T51 es e).f0) ⟨(rd_T51 es e).f1,(rd_T51 es e).f0⟩:=by
   rw [linkT,S.tl,hr.top hi.wf hin.1,hr.top hi.wf hin.2,if_neg ca]
  rw [e1]
  exact step _ _ ⟨(rd_T51 es e).f1,(rd_T51 es e).f0⟩ tb.i ta cb (by rcases L.dom _ ta.i with h|h|h;exact h;exact absurd h ca;exact absurd h g4) (.inr ⟨rfl,rfl⟩) rfl rfl (.inr ⟨rfl,rfl⟩)
end
end Go.Proofs.Ytnffimpoekjkpaa.QFnExactRounds
/- The solver's plain law: the way from a labelled node to its root, on both sides. -/
namespace Go.Proofs.Ytnffimpoekjkpaa.QFnExactRounds
open Go.RowKit Go.Proofs.YtnffimpoekjkpaaW.PrintWords Go.Proofs.YtnffimpoekjkpaaW.PrintLast Go.Proofs.YtnffimpoekjkpaaW.PrintMore
set_option linter.unusedVariables false
set_option linter.unusedSimpArgs false
/-- A list without doubles within another is no longer. -/
theorem nodup_len : ∀ {l m : List Int},l.Nodup → (∀ x ∈ l,x ∈ m) → l.length ≤ m.length
 | [],m,_,_=>Nat.zero_le _
 | x :: l,m,hn,hs=>by
  have hx:=hs x List.mem_cons_self
  have hn2:=List.nodup_cons.1 hn
  have:=nodup_len (l:=l) (m:=m.erase x) hn2.2 fun z hz=>(List.mem_erase_of_ne (fun e : z = x=>hn2.1 (by rw [← e];exact hz))).2 (hs z (List.mem_cons_of_mem _ hz))
  rw [List.length_erase_of_mem hx] at this
  have:=List.length_pos_of_mem hx
  rw [List.length_cons]
  omega
inductive Way (ah : List Int) : Int → List Int → Prop
 | last {n : Int} (h : rd ah n = -1) : Way ah n [n]
 | more {n : Int} {l : List Int} (h : rd ah n ≠ -1) (w : Way ah (rd ah n) l) : Way ah n (n :: l)
section
variable {N most : Int} {es : List S51} {D : Int} {y : List Int} {nd : List S60} {rn : List S55} {mts : List S77} {lb ah bk : List Int} {rk : Int → Nat} {K : Nat} {t : TI}
/-- Every node that isn't open has a vertex within. -/
theorem Inv.has_vtx (h : Inv N most es D y nd) : ∀ (k : Nat) (i : Int),i < k → inR i nd.length → (rd_T60 nd i).f6 = false → ∃ v,0 ≤ v ∧ v < N ∧ hasI nd i v = true
 | 0,i,hk,hi,ho=>by have:=hi.1;omega
 | k + 1,i,hk,hi,ho=>by
  by_cases c : i < N
  ·exact ⟨i,hi.1,c,hasI_self h.wf hi⟩
  have R:=h.ring i (by omega) hi.2 ho
  have h3:=R.three
  obtain ⟨m,l,e⟩ : ∃ m l,(rd_T60 nd i).f0 = m :: l:=by
   cases hq : (rd_T60 nd i).f0 with
   | nil=>rw [hq] at h3;cases h3
   | cons m l=>exact ⟨m,l,rfl⟩
  have hm:=R.mem m (by rw [e];exact List.mem_cons_self)
  have hi1 : i ≠ -1:=by have:=hi.1;omega
  have hs : hasI nd i m = true:=by
   have:=has_up h.wf hm.1 (by rw [hm.2];exact hi1) hm.1 (hasI_self h.wf hm.1)
   rw [hm.2] at this;exact this
  have lt : m < i:=by
   have l1:=has_le h.wf hi hm.1 hs
   have : m ≠ i:=fun e2=>by
    have:=h.wf
    have q:=has_strict h.wf hm.1
    rw [hm.2,e2,hasI_self h.wf hi] at q
    cases q
   omega
  have hmo : (rd_T60 nd m).f6 = false:=by
   cases q : (rd_T60 nd m).f6 with
   | false=>rfl
   | true=>have:=h.opn m hm.1 q;rw [hm.2] at this;exact absurd this hi1
  obtain ⟨v,v0,v1,v2⟩:=h.has_vtx k m (by omega) hm.1 hmo
  exact ⟨v,v0,v1,has_trans h.wf hi hm.1 hs (h.vtx v0 v1) v2⟩
theorem Inv.top_vtx (h : Inv N most es D y nd) {i : Int} (ht : Top nd i) : ∃ v,0 ≤ v ∧ v < N ∧ topI nd v = i:=by
 obtain ⟨v,v0,v1,v2⟩:=h.has_vtx (i.toNat + 1) i (by omega) ht.i ht.o
 exact ⟨v,v0,v1,(has_of_top h.wf ht.i ht.u (h.vtx v0 v1)).1 v2⟩
theorem Inv.tops_len (g : Gph N most es) (h : Inv N most es D y nd) {l : List Int} (hn : l.Nodup) (ht : ∀ x ∈ l,Top nd x) : l.length ≤ 9:=by
 have:=nodup_len (m:=(List.range N.toNat).map fun v : Nat=>topI nd v) hn fun x hx=>by
  obtain ⟨v,v0,v1,v2⟩:=h.top_vtx (ht x hx)
  exact List.mem_map.2 ⟨v.toNat,List.mem_range.2 (by omega),by rw [Int.toNat_of_nonneg v0];exact v2⟩
 rw [List.length_map,List.length_range] at this
 have:=g.n9
 omega
theorem way_ex (g : Gph N most es) (hi : Inv N most es D y nd) (L : Lab es y nd lb ah bk rk K) : ∀ (k : Nat) (n : Int),rk n < k → inR n nd.length → rd lb n ≠ 0 → ∃ l,Way ah n l
 | 0,n,hk,hn,hl=>by omega
 | k + 1,n,hk,hn,hl=>by
  by_cases c : rd ah n = -1
  ·exact ⟨_,.last c⟩
  have q:=L.ahead g hi hn hl c
  obtain ⟨l,w⟩:=way_ex g hi L k _ (by omega) q.1 q.2.1
  exact ⟨_,.more c w⟩
theorem Way.mem (g : Gph N most es) (hi : Inv N most es D y nd) (L : Lab es y nd lb ah bk rk K) {n : Int} {l : List Int} (w : Way ah n l) : inR n nd.length → rd lb n ≠ 0 → ∀ m ∈ l,inR m nd.length ∧ rd lb m ≠ 0 ∧ rk m ≤ rk n ∧ (m = n ∨ rk m < rk n):=by
 induction w with
 | last h =>
  intro hn hl m hm
  rw [List.mem_singleton] at hm
  subst hm
  exact ⟨hn,hl,Nat.le_refl _,.inl rfl⟩
 | more h w ih =>
  intro hn hl m hm
  have q:=L.ahead g hi hn hl h
  rcases List.mem_cons.1 hm with rfl|hm
  ·exact ⟨hn,hl,Nat.le_refl _,.inl rfl⟩
  have:=ih q.1 q.2.1 m hm
  exact ⟨this.1,this.2.1,by omega,.inr (by omega)⟩
theorem Way.nodup (g : Gph N most es) (hi : Inv N most es D y nd) (L : Lab es y nd lb ah bk rk K) {n : Int} {l : List Int} (w : Way ah n l) : inR n nd.length → rd lb n ≠ 0 → l.Nodup:=by
 induction w with
 | last h=>intro _ _;exact List.nodup_cons.2 ⟨List.not_mem_nil,List.nodup_nil⟩
 | more h w ih =>
  intro hn hl
  have q:=L.ahead g hi hn hl h
  refine List.nodup_cons.2 ⟨fun hm=>?_,ih q.1 q.2.1⟩
  have:=(w.mem g hi L q.1 q.2.1 _ hm).2.2.1
  omega
theorem Way.len (g : Gph N most es) (hi : Inv N most es D y nd) (L : Lab es y nd lb ah bk rk K) {n : Int} {l : List Int} (w : Way ah n l) (hn : inR n nd.length) (hl : rd lb n ≠ 0) : l.length ≤ 9 :=
 hi.tops_len g (w.nodup g hi L hn hl) fun x hx=>have q:=w.mem g hi L hn hl x hx;L.top x q.1 q.2.1
theorem Way.head {n : Int} {l : List Int} (w : Way ah n l) : ∃ l',l = n :: l':=by
 cases w with
 | last h=>exact ⟨_,rfl⟩
 | more h w=>exact ⟨_,rfl⟩
theorem Way.wayF (g : Gph N most es) (hi : Inv N most es D y nd) (L : Lab es y nd lb ah bk rk K) {n : Int} {l : List Int} (w : Way ah n l) : inR n nd.length → rd lb n ≠ 0 → QFnExactRounds.wayF ah (l.length + 1) n = some l:=by
 induction w with
 | @last n h =>
  intro hn hl
  rw [QFnExactRounds.wayF,if_neg (show ¬n = -1 by have:=hn.1;omega),if_pos (by rw [L.la];exact hn),h,List.length_singleton,QFnExactRounds.wayF,if_pos rfl]
  rfl
 | @more n l h w ih =>
  intro hn hl
  have q:=L.ahead g hi hn hl h
  rw [QFnExactRounds.wayF,if_neg (show ¬n = -1 by have:=hn.1;omega),if_pos (by rw [L.la];exact hn),List.length_cons,ih q.1 q.2.1]
  rfl
theorem Way.wayS (g : Gph N most es) (hi : Inv N most es D y nd) (hr : RelN es nd rn) (L : Lab es y nd lb ah bk rk K) (S : LabS es nd lb ah bk t) {n : Int} {l : List Int} (w : Way ah n l) : inR n nd.length → rd lb n ≠ 0 → QFnExactRounds.wayS (cvs rn) t.ah t.rt l.length n = some l:=by
 induction w with
 | @last n h =>
  intro hn hl
  rw [List.length_singleton,QFnExactRounds.wayS,if_pos (by rw [S.lr];exact hn),if_pos (S.r0 n hn hl h)]
 | @more n l h w ih =>
  intro hn hl
  have q:=L.ahead g hi hn hl h
  have k:=S.lk n hn hl h
  have kv:=k.1.vtx g k.2.1
  have kn:=hi.vtx kv.1.1 kv.1.2
  rw [List.length_cons,QFnExactRounds.wayS,if_pos (by rw [S.lr];exact hn),if_neg (fun e=>h (by have:=(S.rr n hn hl).2.2;rw [e] at this;exact this)),if_pos ⟨by rw [S.la];exact hn,by rw [cvs_len,hr.l];exact kn⟩,hr.top hi.wf kn,k.2.2.1,ih q.1 q.2.1]
  rfl
theorem Way.root (g : Gph N most es) (hi : Inv N most es D y nd) (L : Lab es y nd lb ah bk rk K) (S : LabS es nd lb ah bk t) {n : Int} {l : List Int} (w : Way ah n l) : inR n nd.length → rd lb n ≠ 0 → ∀ m ∈ l,rd t.rt m = rd t.rt n:=by
 induction w with
 | last h=>intro hn hl m hm;rw [List.mem_singleton] at hm;rw [hm]
 | more h w ih =>
  intro hn hl m hm
  have q:=L.ahead g hi hn hl h
  rcases List.mem_cons.1 hm with rfl|hm
  ·rfl
  rw [ih q.1 q.2.1 m hm,S.r1 _ hn hl h]
theorem Way.root_mem (g : Gph N most es) (hi : Inv N most es D y nd) (L : Lab es y nd lb ah bk rk K) (S : LabS es nd lb ah bk t) {n : Int} {l : List Int} (w : Way ah n l) : inR n nd.length → rd lb n ≠ 0 → rd t.rt n ∈ l:=by
 induction w with
 | last h=>intro hn hl;rw [S.r0 _ hn hl h];exact List.mem_singleton.2 rfl
 | more h w ih =>
  intro hn hl
  have q:=L.ahead g hi hn hl h
  rw [S.r1 _ hn hl h]
  exact List.mem_cons_of_mem _ (ih q.1 q.2.1)
/-- The program's root. -/
theorem Way.rootF (g : Gph N most es) (hi : Inv N most es D y nd) (L : Lab es y nd lb ah bk rk K) (S : LabS es nd lb ah bk t) {n : Int} {l : List Int} (w : Way ah n l) : inR n nd.length → rd lb n ≠ 0 → ∀ k,l.length ≤ k → QFnExactRounds.rootF ah k n = some (rd t.rt n):=by
 induction w with
 | @last n h =>
  intro hn hl k hk
  obtain ⟨k,rfl⟩ : ∃ q,k = q + 1:=⟨k - 1,by rw [List.length_singleton] at hk;omega⟩
  rw [S.r0 n hn hl h,QFnExactRounds.rootF,if_pos (by rw [L.la];exact hn),if_pos h]
 | @more n l h w ih =>
  intro hn hl k hk
  obtain ⟨k,rfl⟩ : ∃ q,k = q + 1:=⟨k - 1,by rw [List.length_cons] at hk;omega⟩
  have q:=L.ahead g hi hn hl h
  rw [List.length_cons] at hk
  rw [S.r1 n hn hl h,QFnExactRounds.rootF,if_pos (by rw [L.la];exact hn),if_neg h]
  exact ih q.1 q.2.1 k (by omega)
/-- What is on a way: its first node, an odd node, or an odd one's ahead. -/
theorem Way.shape (g : Gph N most es) (hi : Inv N most es D y nd) (L : Lab es y nd lb ah bk rk K) {n : Int} {l : List Int} (w : Way ah n l) : inR n nd.length → rd lb n ≠ 0 → ∀ m ∈ l,(rd ah m ≠ -1 → rd ah m ∈ l) ∧ (m = n ∨ ∃ b ∈ l,rd ah b = m ∧ rd ah b ≠ -1 ∧ rd lb b + rd lb m = 3):=by
 induction w with
 | last h =>
  intro hn hl m hm
  rw [List.mem_singleton] at hm
  subst hm
  exact ⟨fun k=>absurd h k,.inl rfl⟩
 | @more n l h w ih =>
  intro hn hl m hm
  have q:=L.ahead g hi hn hl h
  have q3 : rd lb n + rd lb (rd ah n) = 3:=by
   rcases L.dom n hn with k|k|k
   ·exact absurd k hl
   ·rcases L.ev n hn k with ⟨_,e⟩|⟨_,e1,e2,_⟩
    ·exact absurd e h
    rw [k,e1,e2];rfl
   rw [k,(L.od n hn k).2.1];rfl
  rcases List.mem_cons.1 hm with rfl|hm
  ·refine ⟨fun _=>List.mem_cons_of_mem _ ?_,.inl rfl⟩
   obtain ⟨l',e⟩:=w.head
   rw [e];exact List.mem_cons_self
  obtain ⟨a,b⟩:=ih q.1 q.2.1 m hm
  refine ⟨fun k=>List.mem_cons_of_mem _ (a k),.inr ?_⟩
  rcases b with rfl|⟨b,b1,b2,b3,b4⟩
  ·exact ⟨n,List.mem_cons_self,rfl,h,q3⟩
  exact ⟨b,List.mem_cons_of_mem _ b1,b2,b3,b4⟩
/-- A way turned over: every odd node on it and its ahead have the edge between them, the first has the new one. -/
theorem flip_is (g : Gph N most es) (hi : Inv N most es D y nd) (L : Lab es y nd lb ah bk rk K) : ∀ (k : Nat) (n e : Int) (l : List Int) (nd1 : List S60),Way ah n l → l.length < k → inR n nd.length → rd lb n = 1 → nd1.length = nd.length →
  ∃ nd2,flipF ah bk k n e nd1 = some nd2 ∧ nd2.length = nd1.length ∧ (∀ j,inR j nd.length → ∃ f,rd_T60 nd2 j = { rd_T60 nd1 j with f3:=f } ∧ (j ∉ l → f = (rd_T60 nd1 j).f3)) ∧ (rd_T60 nd2 n).f3 = e ∧ ∀ b ∈ l,rd lb b = 2 → (rd_T60 nd2 b).f3 = rd bk b ∧ (rd_T60 nd2 (rd ah b)).f3 = rd bk b
 | 0,n,e,l,nd1,w,hk,hn,hl,h1=>by omega
 | k + 1,n,e,l,nd1,w,hk,hn,hl,h1=>by
  have hn1 : inR n nd1.length:=by rw [h1];exact hn
  have hna : inR n ah.length:=by rw [L.la];exact hn
  rw [flipF,if_neg (show ¬n = -1 by have:=hn.1;omega),if_pos ⟨hn1,hna⟩]
  cases w with
  | last h =>
   rw [if_pos h]
   refine ⟨_,rfl,mateAt_len,fun j hj=>?_,by rw [mateAt_rd hn1 hn.1,if_pos rfl],fun b hb h2=>?_⟩
   ·rw [mateAt_rd hn1 hj.1]
    by_cases c : j = n
    ·subst c;rw [if_pos rfl];exact ⟨_,rfl,fun q=>absurd (List.mem_singleton.2 rfl) q⟩
    rw [if_neg c];exact ⟨_,rfl,fun _=>rfl⟩
   rw [List.mem_singleton] at hb
   rw [hb,hl] at h2;cases h2
  | @more _ l h w =>
   have q:=L.ahead g hi hn (by rw [hl];decide) h
   have hb2 : rd lb (rd ah n) = 2:=by
    rcases L.ev n hn hl with ⟨_,z⟩|⟨_,z1,z2,_⟩
    ·exact absurd z h
    rw [z1];exact z2
   have hbn : rd ah n ≠ n:=fun z=>by rw [z,hl] at hb2;cases hb2
   generalize hbd : rd ah n = b at *
   have hb1 : inR b nd1.length:=by rw [h1];exact q.1
   rw [if_neg h,if_pos ⟨hb1,by rw [L.la];exact q.1,by rw [L.lk];exact q.1⟩]
   have O:=L.od b q.1 hb2
   have nodb:=w.nodup g hi L q.1 q.2.1
   cases w with
   | last h0=>exact absurd h0 (by have:=O.1.1;omega)
   | @more _ l h0 w =>
    have hl2 : (mateAt (mateAt nd1 n e) b (rd bk b)).length = nd.length:=by rw [mateAt_len,mateAt_len,h1]
    rw [List.length_cons,List.length_cons] at hk
    obtain ⟨nd2,e1,e2,e3,e4,e5⟩:=flip_is g hi L k (rd ah b) (rd bk b) l _ w (by omega) O.1 O.2.1 hl2
    have M:=w.mem g hi L O.1 (by rw [O.2.1];decide)
    have nb : b ∉ l:=(List.nodup_cons.1 nodb).1
    have nn : n ∉ l:=fun z=>by have:=(M n z).2.2.1;have:=O.2.2.1;have:=q.2.2;omega
    have bl : inR b (mateAt nd1 n e).length:=by rw [mateAt_len];exact hb1
    have R0 : ∀ {j : Int},0 ≤ j → rd_T60 (mateAt (mateAt nd1 n e) b (rd bk b)) j = if j = b then { rd_T60 nd1 b with f3:=rd bk b } else if j = n then { rd_T60 nd1 n with f3:=e } else rd_T60 nd1 j:=fun {j} h=>by
     rw [mateAt_rd bl h,mateAt_rd hn1 h,mateAt_rd hn1 q.1.1,if_neg hbn]
    refine ⟨nd2,e1,by rw [e2,hl2,h1],fun j hj=>?_,?_,fun z hz hz2=>?_⟩
    ·obtain ⟨f,f1,f2⟩:=e3 j hj
     rw [f1]
     refine ⟨f,?_,fun hjl=>?_⟩
     ·rw [R0 hj.1]
      split
      ·rename_i c;rw [c]
      split
      ·rename_i c;rw [c]
      rfl
     have c1 : j ≠ n:=fun z=>hjl (z ▸ List.mem_cons_self)
     have c2 : j ≠ b:=fun z=>hjl (z ▸ List.mem_cons_of_mem _ List.mem_cons_self)
     rw [f2 (fun z=>hjl (List.mem_cons_of_mem _ (List.mem_cons_of_mem _ z))),R0 hj.1,if_neg c2,if_neg c1]
    ·obtain ⟨f,f1,f2⟩:=e3 n hn
     rw [f1]
     show f = e
     rw [f2 nn,R0 hn.1,if_neg hbn.symm,if_pos rfl]
    rcases List.mem_cons.1 hz with rfl|hz
    ·rw [hl] at hz2;cases hz2
    rcases List.mem_cons.1 hz with rfl|hz
    ·refine ⟨?_,e4⟩
     obtain ⟨f,f1,f2⟩:=e3 z q.1
     rw [f1]
     show f = _
     rw [f2 nb,R0 q.1.1,if_pos rfl]
    exact e5 z hz hz2
end
end Go.Proofs.Ytnffimpoekjkpaa.QFnExactRounds
/- The solver's plain law: other mates on the same nodes; a way's flip, both ways flipped. -/
namespace Go.Proofs.Ytnffimpoekjkpaa.QFnExactRounds
open Go.RowKit Go.Proofs.YtnffimpoekjkpaaW.PrintWords Go.Proofs.YtnffimpoekjkpaaW.PrintLast Go.Proofs.YtnffimpoekjkpaaW.PrintMore
set_option linter.unusedVariables false
set_option linter.unusedSimpArgs false
/-- The same nodes, whatever their mates. -/
structure Same (nd nd' : List S60) : Prop where
 l : nd'.length = nd.length
 n : ∀ j,inR j nd.length → ∃ f,rd_T60 nd' j = { rd_T60 nd j with f3:=f }
section
variable {N most : Int} {es : List S51} {D : Int} {y : List Int} {nd nd' nd2 : List S60} {rn : List S55} {mts : List S77} {lb ah bk : List Int} {rk : Int → Nat} {K : Nat} {t : TI}
theorem Same.trans (h : Same nd nd') (k : Same nd' nd2) : Same nd nd2:=⟨k.l.trans h.l,fun j hj=>by
 obtain ⟨f,e⟩:=k.n j (by rw [h.l];exact hj)
 obtain ⟨f',e'⟩:=h.n j hj
 exact ⟨f,by rw [e,e']⟩⟩
theorem Same.f (h : Same nd nd') {j : Int} (hj : inR j nd.length) : (rd_T60 nd' j).f0 = (rd_T60 nd j).f0 ∧ (rd_T60 nd' j).f1 = (rd_T60 nd j).f1 ∧ (rd_T60 nd' j).f2 = (rd_T60 nd j).f2 ∧ (rd_T60 nd' j).f4 = (rd_T60 nd j).f4 ∧ (rd_T60 nd' j).f5 = (rd_T60 nd j).f5 ∧ (rd_T60 nd' j).f6 = (rd_T60 nd j).f6:=by
 obtain ⟨f,e⟩:=h.n j hj
 rw [e]
 exact ⟨rfl,rfl,rfl,rfl,rfl,rfl⟩
theorem Same.up (h : Same nd nd') : up60 nd nd':=⟨h.l,fun j hj=>(h.f hj).2.2.1⟩
theorem Same.top (h : Same nd nd') {i : Int} : Top nd' i ↔ Top nd i:=by
 constructor
 ·intro t
  have hi : inR i nd.length:=by rw [← h.l];exact t.i
  exact ⟨hi,(h.f hi).2.2.1.symm.trans t.u,(h.f hi).2.2.2.2.2.symm.trans t.o⟩
 intro t
 exact ⟨by rw [h.l];exact t.i,(h.f t.i).2.2.1.trans t.u,(h.f t.i).2.2.2.2.2.trans t.o⟩
theorem Same.topI (h : Same nd nd') (hw : WFn nd) {v : Int} (hv : inR v nd.length) : topI nd' v = QFnExactRounds.topI nd v:=(topI_up h.up hw).2.1 v hv
theorem Same.has (h : Same nd nd') (hw : WFn nd) {a v : Int} (ha : a ≠ -1) (hv : inR v nd.length) : hasI nd' a v = hasI nd a v:=(topI_up h.up hw).2.2 a ha v hv
theorem Same.zsum (h : Same nd nd') (hw : WFn nd) {a b : Int} (ha : inR a nd.length) (hb : inR b nd.length) : zSum nd' a b = zSum nd a b:=by
 unfold zSum
 rw [h.l]
 refine sumI_congr fun i h0 h1=>?_
 unfold zOf
 rw [h.has hw (by omega) ha,h.has hw (by omega) hb,(h.f ⟨h0,h1⟩).2.2.2.2.1]
theorem Same.slE (h : Same nd nd') (hw : WFn nd) {x : S51} (ha : inR x.f0 nd.length) (hb : inR x.f1 nd.length) : slE y nd' x = QFnExactRounds.slE y nd x:=by
 unfold QFnExactRounds.slE
 rw [h.zsum hw ha hb]
theorem Same.ring (g : Gph N most es) (hi : Inv N most es D y nd) (h : Same nd nd') {i : Int} (hin : inR i nd.length) (R : Ring es y nd i) : Ring es y nd' i:=by
 have f:=h.f hin
 refine ⟨by rw [f.1];exact R.odd,by rw [f.1];exact R.three,by rw [f.1,f.2.1];exact R.lkl,by rw [f.1];exact R.nod,?_,?_⟩
 ·rw [f.1]
  intro m hm
  have:=R.mem m hm
  exact ⟨by rw [h.l];exact this.1,(h.f this.1).2.2.1.trans this.2⟩
 rw [f.1,f.2.1]
 intro k hk
 obtain ⟨k1,k2,k3⟩:=R.lnk k hk
 have e:=hi.edge g k1
 have m1 : inR (rd (rd_T60 nd i).f0 k) nd.length:=(R.mem _ (rd_mem _ _ hk.1 hk.2)).1
 have hk2 : 0 ≤ (k + 1) % ((rd_T60 nd i).f0.length : Int) ∧ (k + 1) % ((rd_T60 nd i).f0.length : Int) < (rd_T60 nd i).f0.length:=mod_in (by have:=R.three;omega)
 have m2 : inR (rd (rd_T60 nd i).f0 ((k + 1) % (rd_T60 nd i).f0.length)) nd.length:=(R.mem _ (rd_mem _ _ hk2.1 hk2.2)).1
 refine ⟨k1,by rw [h.slE hi.wf e.1 e.2];exact k2,?_⟩
 unfold Joins at k3 ⊢
 have n1 : rd (rd_T60 nd i).f0 k ≠ -1:=by have:=m1.1;omega
 have n2 : rd (rd_T60 nd i).f0 ((k + 1) % (rd_T60 nd i).f0.length) ≠ -1:=by have:=m2.1;omega
 rw [h.has hi.wf n1 e.1,h.has hi.wf n1 e.2,h.has hi.wf n2 e.1,h.has hi.wf n2 e.2]
 exact k3
/-- A pair of tops that have the edge between them. -/
structure Pair (es : List S51) (y : List Int) (nd nd' : List S60) (e a b : Int) : Prop where
 ei : inR e es.length
 sl : slE y nd (rd_T51 es e) = 0
 ne : a ≠ b
 j : (topI nd (rd_T51 es e).f0 = a ∧ topI nd (rd_T51 es e).f1 = b) ∨ (topI nd (rd_T51 es e).f0 = b ∧ topI nd (rd_T51 es e).f1 = a)
 a : (rd_T60 nd' a).f3 = e
 b : (rd_T60 nd' b).f3 = e
theorem Pair.symm {e a b : Int} (h : Pair es y nd nd' e a b) : Pair es y nd nd' e b a:=⟨h.ei,h.sl,h.ne.symm,h.j.symm,h.b,h.a⟩
theorem Pair.ok (g : Gph N most es) (hi : Inv N most es D y nd) (h : Same nd nd') {e a b : Int} (p : Pair es y nd nd' e a b) : MateOk es y nd' a:=by
 have hin:=hi.edge g p.ei
 have e0:=h.topI hi.wf hin.1
 have e1:=h.topI hi.wf hin.2
 refine ⟨by rw [p.a];exact p.ei,by rw [p.a,h.slE hi.wf hin.1 hin.2];exact p.sl,?_,?_,?_,?_⟩ <;> rw [p.a]
 ·rw [e0,e1]
  rcases p.j with ⟨x,z⟩|⟨x,z⟩ <;> rw [x,z]
  ·exact p.ne
  exact p.ne.symm
 ·rw [e0,e1]
  rcases p.j with ⟨x,z⟩|⟨x,z⟩
  ·exact .inl x
  exact .inr z
 ·rw [e0]
  rcases p.j with ⟨x,z⟩|⟨x,z⟩ <;> rw [x]
  ·exact p.a
  exact p.b
 rw [e1]
 rcases p.j with ⟨x,z⟩|⟨x,z⟩ <;> rw [z]
 ·exact p.b
 exact p.a
/-- A top and its mate are a pair. -/
theorem Inv.pair (g : Gph N most es) (hi : Inv N most es D y nd) {i : Int} (ht : Top nd i) (hm : (rd_T60 nd i).f3 ≠ -1) : Pair es y nd nd (rd_T60 nd i).f3 i (mt nd es i):=by
 have M:=hi.mate i ht hm
 have q:=hi.mt_ok g ht hm
 refine ⟨M.ei,M.sl,q.2.1.symm,?_,rfl,q.2.2.1⟩
 unfold mt otherI
 by_cases c : QFnExactRounds.topI nd (rd_T51 es (rd_T60 nd i).f3).f0 = i
 ·rw [if_pos c];exact .inl ⟨c,rfl⟩
 rw [if_neg c];exact .inr ⟨rfl,M.tt.resolve_left c⟩
theorem Inv.remate (g : Gph N most es) (hi : Inv N most es D y nd) (h : Same nd nd') (hm : ∀ i,Top nd i → (rd_T60 nd' i).f3 ≠ -1 → MateOk es y nd' i) (hf : ∀ i,Top nd i → (rd_T60 nd' i).f3 = -1 → (rd_T60 nd i).f3 = -1) : Inv N most es D y nd':=by
 have hv : ∀ {i : Int},0 ≤ i → i < N → inR i nd.length:=fun a b=>hi.vtx a b
 refine ⟨hi.yl,by rw [h.l];exact hi.nn,by rw [h.l];exact hi.sz,(topI_up h.up hi.wf).1,fun i h0 h1=>?_,fun i hn ho=>?_,fun m hn hu=>?_,fun i h0 h1 ho=>?_,fun i ht=>hm i (h.top.1 ht),fun i ht hq=>?_,fun i hn=>?_,hi.yy,hi.dd,fun e he=>?_,fun u v hu hv e=>?_⟩
 ·have f:=h.f (hv h0 h1)
  rw [f.1,f.2.2.2.1,f.2.2.2.2.1,f.2.2.2.2.2]
  exact hi.ver i h0 h1
 ·rw [h.l] at hn
  have f:=h.f hn
  rw [f.2.2.1]
  exact hi.opn i hn (f.2.2.2.2.2.symm.trans ho)
 ·rw [h.l] at hn
  have f:=h.f hn
  rw [f.2.2.1] at hu ⊢
  have hp:=(up_in hi.wf hn).resolve_left hu
  have f2:=h.f hp
  rw [f2.1,f2.2.2.2.2.2]
  exact hi.par m hn hu
 ·rw [h.l] at h1
  have hin : inR i nd.length:=⟨by have:=g.n0;omega,h1⟩
  exact h.ring g hi hin (hi.ring i h0 h1 ((h.f hin).2.2.2.2.2.symm.trans ho))
 ·have ht2:=h.top.1 ht
  have F:=hi.free i ht2 (hf i ht2 hq)
  have f:=h.f ht2.i
  have hin : inR (rd_T60 nd i).f4 nd.length:=hv F.v.1 F.v.2
  refine ⟨by rw [f.2.2.2.1];exact F.v,?_,fun j hj k=>?_,by rw [f.2.2.2.1];exact F.yv⟩
  ·rw [f.2.2.2.1,h.has hi.wf (by have:=ht2.i.1;omega) hin];exact F.h
  rw [h.l] at hj
  rw [f.2.2.2.1] at k ⊢
  rw [h.has hi.wf (by have:=hj.1;omega) hin] at k
  rw [(h.f hj).2.2.2.1]
  exact F.b j hj k
 ·rw [h.l] at hn
  rw [(h.f hn).2.2.2.2.1]
  exact hi.zz i hn
 ·have hin:=hi.edge g he
  rw [h.slE hi.wf hin.1 hin.2]
  exact hi.sl e he
 have a : inR u nd.length:=hi.vtx hu.1 (by have:=hi.yl;have:=hu.2;omega)
 have b : inR v nd.length:=hi.vtx hv.1 (by have:=hi.yl;have:=hv.2;omega)
 rw [h.topI hi.wf a,h.topI hi.wf b] at e
 exact hi.pa u v hu hv e
/-- On a way from an even node, a mate's mate is on it. -/
theorem Way.mates (g : Gph N most es) (hi : Inv N most es D y nd) (L : Lab es y nd lb ah bk rk K) {n : Int} {l : List Int} (w : Way ah n l) (hn : inR n nd.length) (hl : rd lb n = 1) {m : Int} (hm : m ∈ l) (hq : (rd_T60 nd m).f3 ≠ -1) : mt nd es m ∈ l:=by
 have h0 : rd lb n ≠ 0:=by rw [hl];decide
 have M:=w.mem g hi L hn h0
 have S:=w.shape g hi L hn h0 m hm
 have mm:=M m hm
 have odd : rd lb m = 2 → mt nd es m ∈ l:=fun h2=>by
  rcases S.2 with rfl|⟨b,b1,b2,b3,b4⟩
  ·rw [hl] at h2;cases h2
  have mb:=M b b1
  have hb : rd lb b = 1:=by omega
  rcases L.ev b mb.1 hb with ⟨_,z⟩|⟨z1,z2,_⟩
  ·exact absurd z b3
  have k:=(hi.mt_ok g (L.top b mb.1 mb.2.1) z1).2.2.2
  rw [← z2,b2] at k
  rw [k];exact b1
 rcases L.dom m mm.1 with k|k|k
 ·exact absurd k mm.2.1
 ·rcases L.ev m mm.1 k with ⟨z,_⟩|⟨z1,z2,z3,_⟩
  ·exact absurd z hq
  rw [← z2]
  refine S.1 ?_
  rw [z2]
  have:=(hi.mt_ok g (L.top m mm.1 mm.2.1) z1).1.i.1
  omega
 exact odd k
end
end Go.Proofs.Ytnffimpoekjkpaa.QFnExactRounds
/- The solver's plain law: an augment's new mates, on both sides. -/
namespace Go.Proofs.Ytnffimpoekjkpaa.QFnExactRounds
open Go.RowKit Go.Proofs.YtnffimpoekjkpaaW.PrintWords Go.Proofs.YtnffimpoekjkpaaW.PrintLast Go.Proofs.YtnffimpoekjkpaaW.PrintMore
set_option linter.unusedVariables false
set_option linter.unusedSimpArgs false
theorem nod_snoc {α : Type} {l : List α} {x : α} (h : l.Nodup) (hx : x ∉ l) : (l ++ [x]).Nodup:=by
 rw [List.nodup_append]
 refine ⟨h,List.nodup_cons.2 ⟨List.not_mem_nil,List.nodup_nil⟩,fun a ha b hb e=>?_⟩
 rw [List.mem_singleton] at hb
 exact hx (hb ▸ e ▸ ha)
theorem mem_withF {nd : List S60} {t : Int} {x : S77} : ∀ {l : List S77},x ∈ withF nd t l ↔ x ∈ l ∧ topI nd x.f0 ≠ t ∧ topI nd x.f1 ≠ t
 | []=>by rw [withF];exact ⟨fun h=>absurd h List.not_mem_nil,fun h=>h.1⟩
 | z :: l=>by
  rw [withF]
  split
  ·rename_i c
   rw [List.mem_cons,List.mem_cons,mem_withF]
   constructor
   ·rintro (rfl|h)
    ·exact ⟨.inl rfl,c⟩
    exact ⟨.inr h.1,h.2⟩
   rintro ⟨rfl|h,k⟩
   ·exact .inl rfl
   exact .inr ⟨h,k⟩
  rename_i c
  rw [List.mem_cons,mem_withF]
  constructor
  ·rintro ⟨h,k⟩;exact ⟨.inr h,k⟩
  rintro ⟨rfl|h,k⟩
  ·exact absurd k c
  exact ⟨h,k⟩
theorem withF_nod {nd : List S60} {t : Int} : ∀ {l : List S77},l.Nodup → (withF nd t l).Nodup
 | [],h=>h
 | z :: l,h=>by
  have h2:=List.nodup_cons.1 h
  rw [withF]
  split
  ·exact List.nodup_cons.2 ⟨fun k=>h2.1 (mem_withF.1 k).1,withF_nod h2.2⟩
  exact withF_nod h2.2
theorem mem_wlF {nd : List S60} {x : S77} : ∀ {ws : List Int} {l : List S77},x ∈ wlF nd ws l ↔ x ∈ l ∧ ∀ n ∈ ws,topI nd x.f0 ≠ n ∧ topI nd x.f1 ≠ n
 | [],l=>by rw [wlF];exact ⟨fun h=>⟨h,fun n hn=>absurd hn List.not_mem_nil⟩,fun h=>h.1⟩
 | z :: ws,l=>by
  rw [wlF,mem_wlF,mem_withF]
  constructor
  ·rintro ⟨⟨h,k⟩,q⟩
   refine ⟨h,fun n hn=>?_⟩
   rcases List.mem_cons.1 hn with rfl|hn
   ·exact k
   exact q n hn
  rintro ⟨h,q⟩
  exact ⟨⟨h,q z List.mem_cons_self⟩,fun n hn=>q n (List.mem_cons_of_mem _ hn)⟩
theorem wlF_nod {nd : List S60} : ∀ {ws : List Int} {l : List S77},l.Nodup → (wlF nd ws l).Nodup
 | [],l,h=>h
 | z :: ws,l,h=>by rw [wlF];exact wlF_nod (withF_nod h)
theorem mem_ahF {lb : List Int} {ah : List S77} {x : S77} : ∀ {ws : List Int} {l : List S77},x ∈ ahF lb ah ws l ↔ x ∈ l ∨ ∃ n ∈ ws,rd lb n = 2 ∧ x = rd_T77 ah n
 | [],l=>by rw [ahF];exact ⟨.inl,fun h=>h.elim id fun ⟨n,hn,_⟩=>absurd hn List.not_mem_nil⟩
 | z :: ws,l=>by
  rw [ahF,mem_ahF]
  constructor
  ·rintro (h|⟨n,hn,k⟩)
   ·by_cases c : rd lb z = 2
    ·rw [if_pos c,List.mem_append,List.mem_singleton] at h
     rcases h with h|h
     ·exact .inl h
     exact .inr ⟨z,List.mem_cons_self,c,h⟩
    rw [if_neg c] at h;exact .inl h
   exact .inr ⟨n,List.mem_cons_of_mem _ hn,k⟩
  rintro (h|⟨n,hn,k1,k2⟩)
  ·left
   split
   ·exact List.mem_append_left _ h
   exact h
  rcases List.mem_cons.1 hn with rfl|hn
  ·left;rw [if_pos k1,List.mem_append,List.mem_singleton];exact .inr k2
  exact .inr ⟨n,hn,k1,k2⟩
theorem ahF_nod {lb : List Int} {ah : List S77} : ∀ {ws : List Int} {l : List S77},l.Nodup → ws.Nodup → (∀ n ∈ ws,∀ k ∈ ws,rd lb n = 2 → rd lb k = 2 → rd_T77 ah n = rd_T77 ah k → n = k) → (∀ n ∈ ws,rd lb n = 2 → rd_T77 ah n ∉ l) → (ahF lb ah ws l).Nodup
 | [],l,h,_,_,_=>h
 | z :: ws,l,h,hw,hj,hx=>by
  have h2:=List.nodup_cons.1 hw
  rw [ahF]
  refine ahF_nod ?_ h2.2 (fun n hn k hk=>hj n (List.mem_cons_of_mem _ hn) k (List.mem_cons_of_mem _ hk)) fun n hn q=>?_
  ·split
   ·rename_i c;exact nod_snoc h (hx z List.mem_cons_self c)
   exact h
  split
  ·rename_i c
   rw [List.mem_append,List.mem_singleton]
   rintro (r|r)
   ·exact hx n (List.mem_cons_of_mem _ hn) q r
   have:=hj n (List.mem_cons_of_mem _ hn) z List.mem_cons_self q c r
   exact h2.1 (this ▸ hn)
  exact hx n (List.mem_cons_of_mem _ hn) q
section
variable {N most : Int} {es : List S51} {D : Int} {y : List Int} {nd nd' nd2 : List S60} {rn : List S55} {mts : List S77} {lb ah bk : List Int} {rk : Int → Nat} {K : Nat} {t : TI}
theorem Pair.link (g : Gph N most es) (hi : Inv N most es D y nd) (h : Same nd nd') {e a b : Int} (p : Pair es y nd nd' e a b) {l : S77} (hl : LinkIs es e l) : ∃ e,inR e es.length ∧ LinkIs es e l ∧ topI nd' l.f0 ≠ topI nd' l.f1 ∧ (rd_T60 nd' (topI nd' l.f0)).f3 = e ∧ (rd_T60 nd' (topI nd' l.f1)).f3 = e:=by
 have hv:=hl.vtx g p.ei
 rw [h.topI hi.wf (hi.vtx hv.1.1 hv.1.2),h.topI hi.wf (hi.vtx hv.2.1.1 hv.2.1.2)]
 refine ⟨e,p.ei,hl,?_⟩
 rcases hl.tops (nd:=nd) with ⟨x,z⟩|⟨x,z⟩ <;> rw [x,z] <;> rcases p.j with ⟨u,v⟩|⟨u,v⟩ <;> rw [u,v]
 ·exact ⟨p.ne,p.a,p.b⟩
 ·exact ⟨p.ne.symm,p.b,p.a⟩
 ·exact ⟨p.ne.symm,p.b,p.a⟩
 exact ⟨p.ne,p.a,p.b⟩
/-- Both ways flipped. -/
theorem flips (g : Gph N most es) (hi : Inv N most es D y nd) (hr : RelN es nd rn) (hm : MRel es nd mts) (hd : mts.Nodup) (L : Lab es y nd lb ah bk rk K) (S : LabS es nd lb ah bk t) {e a c : Int} {ws us : List Int} (he : inR e es.length) (hs : slE y nd (rd_T51 es e) = 0)
  (ea : topI nd (rd_T51 es e).f0 = a) (ec : topI nd (rd_T51 es e).f1 = c) (la : rd lb a = 1) (lc : rd lb c = 1) (wa : Way ah a ws) (wc : Way ah c us) (hrt : rd t.rt a ≠ rd t.rt c) {k : Nat} (k1 : ws.length < k) (k2 : us.length < k) :
  ∃ nd1 nd2,flipF ah bk k a e nd = some nd1 ∧ flipF ah bk k c e nd1 = some nd2 ∧ Same nd nd2 ∧ Inv N most es D y nd2 ∧
   MRel es nd2 (ahF lb t.ah us (ahF lb t.ah ws (wlF (cvs rn) us (wlF (cvs rn) ws mts) ++ [⟨(rd_T51 es e).f0,(rd_T51 es e).f1⟩]))) ∧ (ahF lb t.ah us (ahF lb t.ah ws (wlF (cvs rn) us (wlF (cvs rn) ws mts) ++ [⟨(rd_T51 es e).f0,(rd_T51 es e).f1⟩]))).Nodup ∧
   (∀ i,Top nd i → (rd_T60 nd2 i).f3 = -1 → (rd_T60 nd i).f3 = -1) ∧ ∃ r,Top nd r ∧ (rd_T60 nd r).f3 = -1 ∧ (rd_T60 nd2 r).f3 ≠ -1:=by
 have ha : inR a nd.length:=ea ▸ (hi.top_a g he).i
 have hc : inR c nd.length:=ec ▸ (hi.top_b g he).i
 have la0 : rd lb a ≠ 0:=by rw [la];decide
 have lc0 : rd lb c ≠ 0:=by rw [lc];decide
 have hac : a ≠ c:=fun z=>hrt (by rw [z])
 obtain ⟨nd1,f1,f2,f3,f4,f5⟩:=flip_is g hi L k a e ws nd wa k1 ha la rfl
 obtain ⟨nd2,g1,g2,g3,g4,g5⟩:=flip_is g hi L k c e us nd1 wc k2 hc lc f2
 have MA:=wa.mem g hi L ha la0
 have MC:=wc.mem g hi L hc lc0
 have dis : ∀ m,m ∈ ws → m ∈ us → False:=fun m h1 h2=>hrt ((wa.root g hi L S ha la0 m h1).symm.trans (wc.root g hi L S hc lc0 m h2))
 have hS1 : Same nd nd1:=⟨f2,fun j hj=>by obtain ⟨f,q,_⟩:=f3 j hj;exact ⟨f,q⟩⟩
 have hS : Same nd nd2:=hS1.trans ⟨g2,fun j hj=>by obtain ⟨f,q,_⟩:=g3 j (by rw [← f2];exact hj);exact ⟨f,q⟩⟩
 have n1 : ∀ {j},inR j nd.length → j ∉ ws → (rd_T60 nd1 j).f3 = (rd_T60 nd j).f3:=fun hj h=>by obtain ⟨f,q,z⟩:=f3 _ hj;rw [q];exact z h
 have n2 : ∀ {j},inR j nd.length → j ∉ us → (rd_T60 nd2 j).f3 = (rd_T60 nd1 j).f3:=fun hj h=>by obtain ⟨f,q,z⟩:=g3 _ hj;rw [q];exact z h
 have out : ∀ {j},inR j nd.length → j ∉ ws → j ∉ us → (rd_T60 nd2 j).f3 = (rd_T60 nd j).f3:=fun hj h1 h2=>(n2 hj h2).trans (n1 hj h1)
 have aw : a ∈ ws:=by obtain ⟨l',q⟩:=wa.head;rw [q];exact List.mem_cons_self
 have cu : c ∈ us:=by obtain ⟨l',q⟩:=wc.head;rw [q];exact List.mem_cons_self
 have PX : Pair es y nd nd2 e a c:=⟨he,hs,hac,.inl ⟨ea,ec⟩,(n2 ha (fun z=>dis a aw z)).trans f4,g4⟩
 have sA:=wa.shape g hi L ha la0
 have sC:=wc.shape g hi L hc lc0
 have POa : ∀ b ∈ ws,rd lb b = 2 → Pair es y nd nd2 (rd bk b) b (rd ah b):=fun b hb h2=>by
  have O:=L.od b (MA b hb).1 h2
  have q:=f5 b hb h2
  have z:=(sA b hb).1 (by have:=O.1.1;omega)
  exact ⟨O.2.2.2.1,O.2.2.2.2.1,fun w=>by have:=O.2.2.1;rw [← w] at this;omega,O.2.2.2.2.2.1.symm,(n2 (MA b hb).1 (dis b hb)).trans q.1,(n2 O.1 (dis _ z)).trans q.2⟩
 have POc : ∀ b ∈ us,rd lb b = 2 → Pair es y nd nd2 (rd bk b) b (rd ah b):=fun b hb h2=>by
  have O:=L.od b (MC b hb).1 h2
  have q:=g5 b hb h2
  exact ⟨O.2.2.2.1,O.2.2.2.2.1,fun w=>by have:=O.2.2.1;rw [← w] at this;omega,O.2.2.2.2.2.1.symm,q.1,q.2⟩
 -- every node on a way has its pair and its link
 have LKo : ∀ b,b ∈ ws ∨ b ∈ us → rd lb b = 2 → LinkIs es (rd bk b) (rd_T77 t.ah b) ∧ topI nd (rd_T77 t.ah b).f1 = b:=fun b hb h2=>by
  have hin : inR b nd.length:=hb.elim (fun h=>(MA b h).1) fun h=>(MC b h).1
  have O:=L.od b hin h2
  have q:=S.lk b hin (by rw [h2];decide) (by have:=O.1.1;omega)
  exact ⟨q.1,q.2.2.2⟩
 obtain ⟨mt2,emt⟩ : ∃ m,ahF lb t.ah us (ahF lb t.ah ws (wlF (cvs rn) us (wlF (cvs rn) ws mts) ++ [⟨(rd_T51 es e).f0,(rd_T51 es e).f1⟩])) = m:=⟨_,rfl⟩
 have mm : ∀ x,x ∈ mt2 ↔ (((x ∈ mts ∧ ∀ n ∈ ws,topI (cvs rn) x.f0 ≠ n ∧ topI (cvs rn) x.f1 ≠ n) ∧ ∀ n ∈ us,topI (cvs rn) x.f0 ≠ n ∧ topI (cvs rn) x.f1 ≠ n) ∨ x = ⟨(rd_T51 es e).f0,(rd_T51 es e).f1⟩) ∨ (∃ n ∈ ws,rd lb n = 2 ∧ x = rd_T77 t.ah n) ∨ ∃ n ∈ us,rd lb n = 2 ∧ x = rd_T77 t.ah n:=fun x=>by
  rw [← emt,mem_ahF,mem_ahF,List.mem_append,List.mem_singleton,mem_wlF,mem_wlF,or_assoc]
 have PR : ∀ m,m ∈ ws ∨ m ∈ us → ∃ f u l,Pair es y nd nd2 f m u ∧ l ∈ mt2 ∧ LinkIs es f l:=by
  intro m hm2
  rcases hm2 with h|h
  ·rcases L.dom m (MA m h).1 with q|q|q
   ·exact absurd q (MA m h).2.1
   ·rcases (sA m h).2 with rfl|⟨b,b1,b2,b3,b4⟩
    ·exact ⟨e,c,_,PX,(mm _).2 (.inl (.inr rfl)),.inl ⟨rfl,rfl⟩⟩
    have z : rd lb b = 2:=by omega
    exact ⟨_,_,_,(b2 ▸ POa b b1 z).symm,(mm _).2 (.inr (.inl ⟨b,b1,z,rfl⟩)),(LKo b (.inl b1) z).1⟩
   exact ⟨_,_,_,POa m h q,(mm _).2 (.inr (.inl ⟨m,h,q,rfl⟩)),(LKo m (.inl h) q).1⟩
  rcases L.dom m (MC m h).1 with q|q|q
  ·exact absurd q (MC m h).2.1
  ·rcases (sC m h).2 with rfl|⟨b,b1,b2,b3,b4⟩
   ·exact ⟨e,a,_,PX.symm,(mm _).2 (.inl (.inr rfl)),.inl ⟨rfl,rfl⟩⟩
   have z : rd lb b = 2:=by omega
   exact ⟨_,_,_,(b2 ▸ POc b b1 z).symm,(mm _).2 (.inr (.inr ⟨b,b1,z,rfl⟩)),(LKo b (.inr b1) z).1⟩
  exact ⟨_,_,_,POc m h q,(mm _).2 (.inr (.inr ⟨m,h,q,rfl⟩)),(LKo m (.inr h) q).1⟩
 -- a pair outside the ways stays
 have OUT : ∀ i,Top nd i → (rd_T60 nd i).f3 ≠ -1 → i ∉ ws → i ∉ us → mt nd es i ∉ ws ∧ mt nd es i ∉ us ∧ Pair es y nd nd2 (rd_T60 nd i).f3 i (mt nd es i):=by
  intro i ht hq h1 h2
  have q:=hi.mt_ok g ht hq
  have z1 : mt nd es i ∉ ws:=fun z=>h1 (by have:=wa.mates g hi L ha la z (by rw [q.2.2.1];exact hq);rw [q.2.2.2] at this;exact this)
  have z2 : mt nd es i ∉ us:=fun z=>h2 (by have:=wc.mates g hi L hc lc z (by rw [q.2.2.1];exact hq);rw [q.2.2.2] at this;exact this)
  have p:=hi.pair g ht hq
  exact ⟨z1,z2,p.ei,p.sl,p.ne,p.j,out ht.i h1 h2,(out q.1.i z1 z2).trans q.2.2.1⟩
 have free : ∀ i,Top nd i → (rd_T60 nd2 i).f3 = -1 → (rd_T60 nd i).f3 = -1:=fun i ht q=>by
  by_cases h : i ∈ ws ∨ i ∈ us
  ·obtain ⟨f,u,l,p,_⟩:=PR i h
   have:=p.ei.1
   rw [p.a] at q
   omega
  rw [← out ht.i (fun z=>h (.inl z)) (fun z=>h (.inr z))];exact q
 have hinv : Inv N most es D y nd2:=hi.remate g hS (fun i ht q=>by
  by_cases h : i ∈ ws ∨ i ∈ us
  ·obtain ⟨f,u,l,p,_⟩:=PR i h
   exact p.ok g hi hS
  have h1 : i ∉ ws:=fun z=>h (.inl z)
  have h2 : i ∉ us:=fun z=>h (.inr z)
  exact (OUT i ht (by rw [← out ht.i h1 h2];exact q) h1 h2).2.2.ok g hi hS) free
 have tv : ∀ x ∈ mts,topI (cvs rn) x.f0 = topI nd x.f0 ∧ topI (cvs rn) x.f1 = topI nd x.f1:=fun x hx=>by
  have:=hm.in g hi.nn x hx
  exact ⟨hr.top hi.wf this.1,hr.top hi.wf this.2⟩
 have rt0 : rd t.rt a ∈ ws:=wa.root_mem g hi L S ha la0
 have RR:=S.rr a ha la0
 rw [emt]
 refine ⟨nd1,nd2,f1,g1,hS,hinv,⟨fun x hx=>?_,fun i ht q=>?_⟩,?_,free,rd t.rt a,L.top _ RR.1 (by rw [RR.2.1];decide),?_,?_⟩
 ·rcases (mm x).1 hx with (⟨⟨h1,h2⟩,h3⟩|h)|⟨n,n1,n2,n3⟩|⟨n,n1,n2,n3⟩
  ·obtain ⟨e1,e2,e3,e4,e5,e6⟩:=hm.a x h1
   have hv:=e3.vtx g e2
   have i0:=hi.vtx hv.1.1 hv.1.2
   have i1:=hi.vtx hv.2.1.1 hv.2.1.2
   have tvx:=tv x h1
   rw [hS.topI hi.wf i0,hS.topI hi.wf i1]
   refine ⟨e1,e2,e3,e4,?_,?_⟩
   ·rw [out (topI_in hi.wf i0) (fun z=>(h2 _ z).1 tvx.1) (fun z=>(h3 _ z).1 tvx.1)];exact e5
   rw [out (topI_in hi.wf i1) (fun z=>(h2 _ z).2 tvx.2) (fun z=>(h3 _ z).2 tvx.2)];exact e6
  ·exact PX.link g hi hS (h ▸ .inl ⟨rfl,rfl⟩)
  ·exact (POa n n1 n2).link g hi hS (n3 ▸ (LKo n (.inl n1) n2).1)
  exact (POc n n1 n2).link g hi hS (n3 ▸ (LKo n (.inr n1) n2).1)
 ·have ht2:=hS.top.1 ht
  by_cases h : i ∈ ws ∨ i ∈ us
  ·obtain ⟨f,u,l,p,l1,l2⟩:=PR i h
   exact ⟨l,l1,p.a.symm ▸ l2⟩
  have h1 : i ∉ ws:=fun z=>h (.inl z)
  have h2 : i ∉ us:=fun z=>h (.inr z)
  rw [out ht2.i h1 h2] at q ⊢
  obtain ⟨o1,o2,o3⟩:=OUT i ht2 q h1 h2
  obtain ⟨l,l1,l2⟩:=hm.b i ht2 q
  refine ⟨l,(mm l).2 (.inl (.inl ?_)),l2⟩
  have tvl:=tv l l1
  have key : ∀ n,n ≠ i → n ≠ mt nd es i → topI (cvs rn) l.f0 ≠ n ∧ topI (cvs rn) l.f1 ≠ n:=fun n na nb=>by
   rw [tvl.1,tvl.2]
   rcases l2.tops (nd:=nd) with ⟨x,z⟩|⟨x,z⟩ <;> rw [x,z] <;> rcases o3.j with ⟨u,v⟩|⟨u,v⟩ <;> rw [u,v]
   ·exact ⟨na.symm,nb.symm⟩
   ·exact ⟨nb.symm,na.symm⟩
   ·exact ⟨nb.symm,na.symm⟩
   exact ⟨na.symm,nb.symm⟩
  exact ⟨⟨l1,fun n hn=>key n (fun z=>h1 (z ▸ hn)) (fun z=>o1 (z ▸ hn))⟩,fun n hn=>key n (fun z=>h2 (z ▸ hn)) (fun z=>o2 (z ▸ hn))⟩
 ·rw [← emt]
  have inj : ∀ n k,(n ∈ ws ∨ n ∈ us) → (k ∈ ws ∨ k ∈ us) → rd lb n = 2 → rd lb k = 2 → rd_T77 t.ah n = rd_T77 t.ah k → n = k:=fun n k hn hk q1 q2 z=>by
   rw [← (LKo n hn q1).2,← (LKo k hk q2).2,z]
  have notX : ∀ n,(n ∈ ws ∨ n ∈ us) → rd lb n = 2 → rd_T77 t.ah n ≠ ⟨(rd_T51 es e).f0,(rd_T51 es e).f1⟩:=fun n hn q z=>by
   have:=(LKo n hn q).2
   rw [z] at this
   have : c = n:=ec.symm.trans this
   rw [← this,lc] at q
   cases q
  have notw : ∀ n,(n ∈ ws ∨ n ∈ us) → rd lb n = 2 → rd_T77 t.ah n ∉ wlF (cvs rn) us (wlF (cvs rn) ws mts):=fun n hn q z=>by
   rw [mem_wlF,mem_wlF] at z
   have w:=(LKo n hn q).2
   have:=(tv _ z.1.1).2.trans w
   rcases hn with hn|hn
   ·exact (z.1.2 n hn).2 this
   exact (z.2 n hn).2 this
  refine ahF_nod (ahF_nod (nod_snoc (wlF_nod (wlF_nod hd)) fun z=>?_) (wa.nodup g hi L ha la0) (fun n hn k hk=>inj n k (.inl hn) (.inl hk)) fun n hn q z=>?_) (wc.nodup g hi L hc lc0) (fun n hn k hk=>inj n k (.inr hn) (.inr hk)) fun n hn q z=>?_
  ·rw [mem_wlF,mem_wlF] at z
   exact (z.1.2 a aw).1 ((tv _ z.1.1).1.trans ea)
  ·rw [List.mem_append,List.mem_singleton] at z
   exact z.elim (notw n (.inl hn) q) (notX n (.inl hn) q)
  rw [mem_ahF,List.mem_append,List.mem_singleton] at z
  rcases z with (z|z)|⟨k,k1,k2,k3⟩
  ·exact notw n (.inr hn) q z
  ·exact notX n (.inr hn) q z
  have:=inj n k (.inr hn) (.inl k1) q k2 k3
  exact dis k k1 (this ▸ hn)
 ·have hroot:=RR
  rcases L.ev _ RR.1 RR.2.1 with ⟨z,_⟩|⟨_,z,z2,_⟩
  ·exact z
  exfalso
  rw [RR.2.2] at z
  have:=(hi.mt_ok g (L.top _ RR.1 (by rw [RR.2.1];decide)) (by assumption)).1.i.1
  omega
 obtain ⟨f,u,l,p,_⟩:=PR _ (.inl rt0)
 rw [p.a]
 have:=p.ei.1
 omega
end
end Go.Proofs.Ytnffimpoekjkpaa.QFnExactRounds
/- The solver's plain law: a ring opened. -/
namespace Go.Proofs.Ytnffimpoekjkpaa.QFnExactRounds
open Go.RowKit Go.Proofs.YtnffimpoekjkpaaW.PrintWords Go.Proofs.YtnffimpoekjkpaaW.PrintLast Go.Proofs.YtnffimpoekjkpaaW.PrintMore
set_option linter.unusedVariables false
set_option linter.unusedSimpArgs false
theorem atF_none {nd : List S60} {v : Int} : ∀ {l : List Int} {k a : Int},(∀ m ∈ l,hasI nd m v = false) → atF nd v l k a = a
 | [],k,a,h=>rfl
 | m :: l,k,a,h=>by
  rw [atF,atF_none fun x hx=>h x (List.mem_cons_of_mem _ hx),h m List.mem_cons_self]
  rfl
theorem rd_cons {m : Int} {l : List Int} {p : Int} (hp : 0 < p) : rd (m :: l) p = rd l (p - 1):=by
 unfold rd
 obtain ⟨q,e⟩ : ∃ q : Nat,p.toNat = q + 1:=⟨p.toNat - 1,by omega⟩
 rw [e,show (p - 1).toNat = q by omega,List.getD_cons_succ]
theorem atF_one {nd : List S60} {v : Int} : ∀ {l : List Int} {p k a : Int},inR p l.length → l.Nodup → hasI nd (rd l p) v = true → (∀ m ∈ l,hasI nd m v = true → m = rd l p) → atF nd v l k a = k + p
 | [],p,k,a,hp,_,_,_=>absurd hp.2 (by have:=hp.1;simp;omega)
 | m :: l,p,k,a,hp,hn,h,hu=>by
  have h2:=List.nodup_cons.1 hn
  rw [atF]
  by_cases c : p = 0
  ·subst c
   have e : rd (m :: l) 0 = m:=rfl
   rw [e] at h hu
   rw [if_pos h,atF_none fun x hx=>?_,Int.add_zero]
   cases q : hasI nd x v with
   | false=>rfl
   | true=>exact absurd (hu x (List.mem_cons_of_mem _ hx) q ▸ hx) h2.1
  have hp0 : 0 < p:=by have:=hp.1;omega
  rw [rd_cons hp0] at h hu
  have hp2 : inR (p - 1) l.length:=⟨by omega,by have:=hp.2;rw [List.length_cons] at this;omega⟩
  have hm : hasI nd m v = false:=by
   cases q : hasI nd m v with
   | false=>rfl
   | true=>exact absurd (hu m List.mem_cons_self q ▸ rd_mem l _ hp2.1 hp2.2) h2.1
  rw [hm,if_neg (by decide),atF_one hp2 h2.2 h fun x hx=>hu x (List.mem_cons_of_mem _ hx)]
  omega
/-- A ring that has been opened, place by place. -/
structure Opened (nd nd' : List S60) (r a : Int) : Prop where
 l : nd'.length = nd.length
 rr : rd_T60 nd' r = { rd_T60 nd r with f6:=true }
 m0 : rd_T60 nd' (rd (rd_T60 nd r).f0 a) = { rd_T60 nd (rd (rd_T60 nd r).f0 a) with f2:=-1,f3:=(rd_T60 nd r).f3 }
 ms : ∀ i : Int,1 ≤ i → i < (rd_T60 nd r).f0.length → rd_T60 nd' (rd (rd_T60 nd r).f0 ((a + i) % (rd_T60 nd r).f0.length)) = { rd_T60 nd (rd (rd_T60 nd r).f0 ((a + i) % (rd_T60 nd r).f0.length)) with f2:=-1,f3:=rd (rd_T60 nd r).f1 ((a + (if i % 2 = 1 then i else i - 1)) % (rd_T60 nd r).f0.length) }
 o : ∀ j,inR j nd.length → j ≠ r → j ∉ (rd_T60 nd r).f0 → rd_T60 nd' j = rd_T60 nd j
section
variable {N most : Int} {es : List S51} {D : Int} {y : List Int} {nd nd' nd2 : List S60} {rn : List S55} {mts : List S77} {lb ah bk : List Int} {rk : Int → Nat} {K : Nat} {t : TI} {r a : Int}
/-- Within a ring a node is within a member. -/
theorem Inv.member (hi : Inv N most es D y nd) {r : Int} (hr : inR r nd.length) (R : Ring es y nd r) : ∀ v,inR v nd.length → hasI nd r v = true → v ≠ r → ∃ m ∈ (rd_T60 nd r).f0,hasI nd m v = true:=by
 have r1 : r ≠ -1:=by have:=hr.1;omega
 refine up_ind hi.wf fun v hv ih h hne=>?_
 rw [hasI_step hi.wf r1 hv,if_neg hne] at h
 have hu : (rd_T60 nd v).f2 ≠ -1:=fun e=>by rw [e,hasI_none r r1] at h;cases h
 by_cases c : (rd_T60 nd v).f2 = r
 ·have:=(hi.par v hv hu).2.2
  rw [c] at this
  exact ⟨v,this,hasI_self hi.wf hv⟩
 have hin:=(up_in hi.wf hv).resolve_left hu
 obtain ⟨m,m1,m2⟩:=ih hu hin h c
 refine ⟨m,m1,?_⟩
 have:=(R.mem m m1).1.1
 rw [hasI_step hi.wf (by omega) hv]
 split
 ·rfl
 exact m2
/-- The place of the member that holds a node. -/
theorem Inv.place (hi : Inv N most es D y nd) {r : Int} (hr : inR r nd.length) (R : Ring es y nd r) {v : Int} (hv : inR v nd.length) (h : hasI nd r v = true) (hne : v ≠ r) : ∃ p,inR p (rd_T60 nd r).f0.length ∧ hasI nd (rd (rd_T60 nd r).f0 p) v = true ∧ atF nd v (rd_T60 nd r).f0 0 0 = p:=by
 obtain ⟨m,m1,m2⟩:=hi.member hr R v hv h hne
 obtain ⟨p,p1,p2⟩:=mem_rd m1
 refine ⟨p,p1,by rw [p2];exact m2,?_⟩
 rw [atF_one p1 R.nod (by rw [p2];exact m2) fun x hx k=>?_,Int.zero_add]
 have hx2:=R.mem x hx
 have hm2:=R.mem m m1
 rw [p2]
 exact has_member hi.wf hx2.1 hm2.1 hx2.2 hm2.2 (by have:=hr.1;omega) hv k m2
theorem Ring.at_in (R : Ring es y nd r) {i : Int} : inR (rd (rd_T60 nd r).f0 ((a + i) % (rd_T60 nd r).f0.length)) nd.length ∧ rd (rd_T60 nd r).f0 ((a + i) % (rd_T60 nd r).f0.length) ∈ (rd_T60 nd r).f0:=by
 have hL : (0 : Int) < (rd_T60 nd r).f0.length:=by have:=R.three;omega
 have q:=mod_in (x:=a + i) hL
 have m:=rd_mem (rd_T60 nd r).f0 _ q.1 q.2
 exact ⟨(R.mem _ m).1,m⟩
theorem unfold_is (ht : Top nd r) (R : Ring es y nd r) (ha : inR a (rd_T60 nd r).f0.length) (he : atI nd es r = a) : Opened nd (unfoldI es nd r) r a:=by
 have hrm : r ∉ (rd_T60 nd r).f0:=fun h=>by have:=(R.mem r h).2;rw [ht.u] at this;have:=ht.i.1;omega
 have hL : (0 : Int) < (rd_T60 nd r).f0.length:=by have:=R.three;omega
 have hm : ∀ m ∈ (rd_T60 nd r).f0,inR m nd.length:=fun m h=>(R.mem m h).1
 have ea : (a + 0) % ((rd_T60 nd r).f0.length : Int) = a:=by rw [Int.add_zero];exact Int.emod_eq_of_lt ha.1 ha.2
 have ham:=rd_mem (rd_T60 nd r).f0 a ha.1 ha.2
 have hal:=hm _ ham
 have hra : r ≠ rd (rd_T60 nd r).f0 a:=fun e=>hrm (by rw [← e] at ham;exact ham)
 rw [unfoldI,he,clearF_is]
 have lI : (inF (-1) (rd_T60 nd r).f0 nd).length = nd.length:=inF_len
 have rI : ∀ {j : Int},0 ≤ j → rd_T60 (inF (-1) (rd_T60 nd r).f0 nd) j = if j ∈ (rd_T60 nd r).f0 then { rd_T60 nd j with f2:=-1,f3:=-1 } else rd_T60 nd j:=fun {j} h=>inF_rd hm h
 have rX : ∀ {j : Int},0 ≤ j → rd_T60 (mateAt (inF (-1) (rd_T60 nd r).f0 nd) (rd (rd_T60 nd r).f0 a) (rd_T60 nd r).f3) j = if j = rd (rd_T60 nd r).f0 a then { rd_T60 nd j with f2:=-1,f3:=(rd_T60 nd r).f3 } else if j ∈ (rd_T60 nd r).f0 then { rd_T60 nd j with f2:=-1,f3:=-1 } else rd_T60 nd j:=fun {j} h=>by
  rw [mateAt_rd (by rw [lI];exact hal) h,rI hal.1,if_pos ham,rI h]
  split
  ·rename_i c;rw [c]
  rfl
 have lX : (mateAt (inF (-1) (rd_T60 nd r).f0 nd) (rd (rd_T60 nd r).f0 a) (rd_T60 nd r).f3).length = nd.length:=by rw [mateAt_len,lI]
 generalize mateAt (inF (-1) (rd_T60 nd r).f0 nd) (rd (rd_T60 nd r).f0 a) (rd_T60 nd r).f3 = X at rX lX ⊢
 obtain ⟨p1,p2⟩:=pairF_rd (lk:=(rd_T60 nd r).f1) (a:=a) R.nod (by omega) hm ((rd_T60 nd r).f0.length + 1) 1 X (by omega) (by omega) R.odd (by omega) lX
 have lP : (pairF (rd_T60 nd r).f0 (rd_T60 nd r).f1 a (rd_T60 nd r).f0.length ((rd_T60 nd r).f0.length + 1) 1 X).length = nd.length:=by rw [pairF_len,lX]
 generalize pairF (rd_T60 nd r).f0 (rd_T60 nd r).f1 a (rd_T60 nd r).f0.length ((rd_T60 nd r).f0.length + 1) 1 X = P at p1 p2 lP ⊢
 have hrP : inR r P.length:=by rw [lP];exact ht.i
 have nm : ∀ {j : Int},j ∉ (rd_T60 nd r).f0 → rd_T60 P j = rd_T60 X j ∨ j < 0:=fun {j} h=>by
  by_cases c : 0 ≤ j
  ·exact .inl (p1 j c fun i h1 h2 e=>h (e ▸ R.at_in.2))
  exact .inr (by omega)
 refine ⟨by rw [openAt_len,lP],?_,?_,fun i h1 h2=>?_,fun j hj h1 h2=>?_⟩
 ·rw [openAt_rd hrP ht.i.1,if_pos rfl,(nm hrm).resolve_right (by have:=ht.i.1;omega),rX ht.i.1,if_neg hra,if_neg hrm]
 ·rw [openAt_rd hrP hal.1,if_neg hra.symm,p1 _ hal.1 fun i h1 h2 e=>?_,rX hal.1,if_pos rfl]
  have q:=mod_in (x:=a + i) hL
  have:=rd_inj R.nod ha q e
  have:=mod_inj hL ⟨Int.le_refl 0,hL⟩ ⟨by omega,h2⟩ (ea.trans this)
  omega
 ·have q:=mod_in (x:=a + i) hL
  have hin:=R.at_in (a:=a) (i:=i)
  have hri : rd (rd_T60 nd r).f0 ((a + i) % (rd_T60 nd r).f0.length) ≠ r:=fun e=>hrm (by rw [e] at hin;exact hin.2)
  rw [openAt_rd hrP hin.1.1,if_neg hri,p2 i h1 h2,rX hin.1.1,if_neg,if_pos hin.2]
  intro e
  have:=rd_inj R.nod q ha e
  have:=mod_inj hL ⟨by omega,h2⟩ ⟨Int.le_refl 0,hL⟩ (this.trans ea.symm)
  omega
 rw [openAt_rd hrP hj.1,if_neg h1,(nm h2).resolve_right (by have:=hj.1;omega),rX hj.1,if_neg (show ¬j = rd (rd_T60 nd r).f0 a from fun e=>h2 (by rw [e];exact ham)),if_neg h2]
/-- A member of an opened ring. -/
theorem Opened.mem (O : Opened nd nd' r a) (R : Ring es y nd r) (ha : inR a (rd_T60 nd r).f0.length) {m : Int} (hm : m ∈ (rd_T60 nd r).f0) : ∃ f,rd_T60 nd' m = { rd_T60 nd m with f2:=-1,f3:=f }:=by
 obtain ⟨p,p1,p2⟩:=mem_rd hm
 have hL : (0 : Int) < (rd_T60 nd r).f0.length:=by have:=R.three;omega
 obtain ⟨k,k1,k2,k3⟩:=ring_place hL ha p1
 by_cases c : k = 0
 ·rw [c,Int.add_zero,Int.emod_eq_of_lt ha.1 ha.2] at k3
  rw [← p2,← k3]
  exact ⟨_,O.m0⟩
 rw [← p2,← k3]
 exact ⟨_,O.ms k (by omega) k2⟩
section
variable (hi : Inv N most es D y nd) (ht : Top nd r) (R : Ring es y nd r) (ha : inR a (rd_T60 nd r).f0.length) (O : Opened nd nd' r a)
include hi ht R ha O
theorem Opened.f {j : Int} (hj : inR j nd.length) : (rd_T60 nd' j).f0 = (rd_T60 nd j).f0 ∧ (rd_T60 nd' j).f1 = (rd_T60 nd j).f1 ∧ (rd_T60 nd' j).f4 = (rd_T60 nd j).f4 ∧ (rd_T60 nd' j).f5 = (rd_T60 nd j).f5 ∧ (j ≠ r → (rd_T60 nd' j).f6 = (rd_T60 nd j).f6) ∧ (rd_T60 nd' j).f2 = (if (rd_T60 nd j).f2 = r then -1 else (rd_T60 nd j).f2):=by
 by_cases c : j = r
 ·subst c
  rw [O.rr,if_neg (by rw [ht.u];have:=ht.i.1;omega)]
  exact ⟨rfl,rfl,rfl,rfl,fun h=>absurd rfl h,rfl⟩
 by_cases d : j ∈ (rd_T60 nd r).f0
 ·obtain ⟨f,e⟩:=O.mem R ha d
  rw [e,if_pos (R.mem j d).2]
  exact ⟨rfl,rfl,rfl,rfl,fun _=>rfl,rfl⟩
 rw [O.o j hj c d,if_neg]
 ·exact ⟨rfl,rfl,rfl,rfl,fun _=>rfl,rfl⟩
 intro e
 have:=(hi.par j hj (by rw [e];have:=ht.i.1;omega)).2.2
 rw [e] at this
 exact d this
theorem Opened.wf : WFn nd':=by
 intro i hn
 rw [O.l] at hn ⊢
 rw [(O.f hi ht R ha hn).2.2.2.2.2]
 split
 ·exact .inl rfl
 exact hi.wf i hn
theorem Opened.has {i : Int} (hne : i ≠ r) (hi1 : i ≠ -1) : ∀ v,inR v nd.length → hasI nd' i v = hasI nd i v:=by
 refine up_ind hi.wf fun v hv ih=>?_
 rw [hasI_step (O.wf hi ht R ha) hi1 (by rw [O.l];exact hv),hasI_step hi.wf hi1 hv,(O.f hi ht R ha hv).2.2.2.2.2]
 split
 ·rfl
 by_cases c : (rd_T60 nd v).f2 = r
 ·rw [if_pos c,hasI_none i hi1,c,hasI_step hi.wf hi1 ht.i,if_neg (Ne.symm hne),ht.u,hasI_none i hi1]
 rw [if_neg c]
 by_cases d : (rd_T60 nd v).f2 = -1
 ·rw [d,hasI_none i hi1,hasI_none i hi1]
 exact ih d ((up_in hi.wf hv).resolve_left d)
theorem Opened.has_r : ∀ v,inR v nd.length → hasI nd' r v = decide (v = r):=by
 have r1 : r ≠ -1:=by have:=ht.i.1;omega
 refine up_ind hi.wf fun v hv ih=>?_
 rw [hasI_step (O.wf hi ht R ha) r1 (by rw [O.l];exact hv),(O.f hi ht R ha hv).2.2.2.2.2]
 by_cases c : v = r
 ·rw [if_pos c];exact (decide_eq_true c).symm
 rw [if_neg c,decide_eq_false c]
 by_cases d : (rd_T60 nd v).f2 = r
 ·rw [if_pos d,hasI_none r r1]
 rw [if_neg d]
 by_cases q : (rd_T60 nd v).f2 = -1
 ·rw [q,hasI_none r r1]
 rw [ih q ((up_in hi.wf hv).resolve_left q),decide_eq_false d]
theorem Opened.top : ∀ v,inR v nd.length → topI nd v ≠ r → topI nd' v = topI nd v:=by
 refine up_ind hi.wf fun v hv ih h=>?_
 rw [topI_step (O.wf hi ht R ha) (by rw [O.l];exact hv),(O.f hi ht R ha hv).2.2.2.2.2]
 rw [topI_step hi.wf hv] at h ⊢
 by_cases q : (rd_T60 nd v).f2 = -1
 ·have e : (if (rd_T60 nd v).f2 = r then -1 else (rd_T60 nd v).f2) = -1:=by rw [q];split <;> rfl
  rw [if_pos q,if_pos e]
 rw [if_neg q] at h ⊢
 have hr : (rd_T60 nd v).f2 ≠ r:=fun e=>h (by rw [e];exact topI_of_top hi.wf ht.i ht.u)
 rw [if_neg hr,if_neg q]
 exact ih q ((up_in hi.wf hv).resolve_left q) h
theorem Opened.top_m {v : Int} (hv : inR v nd.length) {m : Int} (hm : m ∈ (rd_T60 nd r).f0) (h : hasI nd m v = true) : topI nd' v = m:=by
 have q:=R.mem m hm
 have hr : m ≠ r:=fun e=>by rw [e,ht.u] at q;have:=ht.i.1;omega
 refine (has_of_top (O.wf hi ht R ha) (by rw [O.l];exact q.1) ?_ (by rw [O.l];exact hv)).1 ?_
 ·rw [(O.f hi ht R ha q.1).2.2.2.2.2,if_pos q.2]
 rw [O.has hi ht R ha hr (by have:=q.1.1;omega) v hv];exact h
/-- A node's top before is its top's top. -/
theorem Opened.coarse : ∀ v,inR v nd.length → topI nd (topI nd' v) = topI nd v:=by
 refine up_ind hi.wf fun v hv ih=>?_
 rw [topI_step (O.wf hi ht R ha) (by rw [O.l];exact hv),(O.f hi ht R ha hv).2.2.2.2.2]
 by_cases d : (rd_T60 nd v).f2 = r
 ·rw [if_pos d,if_pos rfl]
 rw [if_neg d]
 by_cases q : (rd_T60 nd v).f2 = -1
 ·rw [if_pos q]
 rw [if_neg q,ih q ((up_in hi.wf hv).resolve_left q)]
 rw [topI_step hi.wf hv,if_neg q]
theorem Opened.zsum (hz : (rd_T60 nd r).f5 = 0) {u v : Int} (hu : inR u nd.length) (hv : inR v nd.length) : zSum nd' u v = zSum nd u v:=by
 unfold zSum
 rw [O.l]
 refine sumI_congr fun i h0 h1=>?_
 unfold zOf
 have f:=(O.f hi ht R ha ⟨h0,h1⟩).2.2.2.1
 by_cases c : i = r
 ·rw [c] at f ⊢
  rw [f,hz,ite_self,ite_self]
 rw [O.has hi ht R ha c (by omega) u hu,O.has hi ht R ha c (by omega) v hv,f]
theorem Opened.sl (hz : (rd_T60 nd r).f5 = 0) {x : S51} (hu : inR x.f0 nd.length) (hv : inR x.f1 nd.length) : slE y nd' x = slE y nd x:=by
 unfold slE
 rw [O.zsum hi ht R ha hz hu hv]
/-- Which nodes are tops now. -/
theorem Opened.tops {i : Int} : Top nd' i ↔ (Top nd i ∧ i ≠ r) ∨ i ∈ (rd_T60 nd r).f0:=by
 constructor
 ·intro h
  have hn : inR i nd.length:=by rw [← O.l];exact h.i
  have f:=O.f hi ht R ha hn
  have hr : i ≠ r:=fun e=>by have:=h.o;rw [e,O.rr] at this;cases this
  have u:=h.u
  rw [f.2.2.2.2.2] at u
  by_cases d : (rd_T60 nd i).f2 = r
  ·right
   have:=(hi.par i hn (by rw [d];have:=ht.i.1;omega)).2.2
   rw [d] at this;exact this
  rw [if_neg d] at u
  exact .inl ⟨⟨hn,u,(f.2.2.2.2.1 hr).symm.trans h.o⟩,hr⟩
 rintro (⟨h,hr⟩|h)
 ·have f:=O.f hi ht R ha h.i
  refine ⟨by rw [O.l];exact h.i,?_,(f.2.2.2.2.1 hr).trans h.o⟩
  rw [f.2.2.2.2.2,h.u]
  split <;> rfl
 have q:=R.mem i h
 have f:=O.f hi ht R ha q.1
 have hr : i ≠ r:=fun e=>by rw [e,ht.u] at q;have:=ht.i.1;omega
 refine ⟨by rw [O.l];exact q.1,by rw [f.2.2.2.2.2,if_pos q.2],?_⟩
 rw [f.2.2.2.2.1 hr]
 cases z : (rd_T60 nd i).f6 with
 | false=>rfl
 | true =>
  have:=hi.opn i q.1 z
  rw [q.2] at this
  have:=ht.i.1
  omega
end
end
end Go.Proofs.Ytnffimpoekjkpaa.QFnExactRounds
/- The solver's plain law: what holds between rounds holds after a ring is opened. -/
namespace Go.Proofs.Ytnffimpoekjkpaa.QFnExactRounds
open Go.RowKit Go.Proofs.YtnffimpoekjkpaaW.PrintWords Go.Proofs.YtnffimpoekjkpaaW.PrintLast Go.Proofs.YtnffimpoekjkpaaW.PrintMore
set_option linter.unusedVariables false
set_option linter.unusedSimpArgs false
set_option linter.unusedSectionVars false
section
variable {N most : Int} {es : List S51} {D : Int} {y : List Int} {nd nd' nd2 : List S60} {rn : List S55} {mts : List S77} {lb ah bk : List Int} {rk : Int → Nat} {K : Nat} {t : TI} {r a : Int}
theorem Pair.self_ok {e a b : Int} (p : Pair es y nd nd e a b) : MateOk es y nd a:=by
 refine ⟨by rw [p.a];exact p.ei,by rw [p.a];exact p.sl,?_,?_,?_,?_⟩ <;> rw [p.a]
 ·rcases p.j with ⟨x,z⟩|⟨x,z⟩ <;> rw [x,z]
  ·exact p.ne
  exact p.ne.symm
 ·rcases p.j with ⟨x,z⟩|⟨x,z⟩
  ·exact .inl x
  exact .inr z
 ·rcases p.j with ⟨x,z⟩|⟨x,z⟩ <;> rw [x]
  ·exact p.a
  exact p.b
 rcases p.j with ⟨x,z⟩|⟨x,z⟩ <;> rw [z]
 ·exact p.b
 exact p.a
theorem Pair.self_link {e a b : Int} (p : Pair es y nd nd e a b) {l : S77} (hl : LinkIs es e l) : ∃ e,inR e es.length ∧ LinkIs es e l ∧ topI nd l.f0 ≠ topI nd l.f1 ∧ (rd_T60 nd (topI nd l.f0)).f3 = e ∧ (rd_T60 nd (topI nd l.f1)).f3 = e:=by
 refine ⟨e,p.ei,hl,?_⟩
 rcases hl.tops (nd:=nd) with ⟨x,z⟩|⟨x,z⟩ <;> rw [x,z] <;> rcases p.j with ⟨u,v⟩|⟨u,v⟩ <;> rw [u,v]
 ·exact ⟨p.ne,p.a,p.b⟩
 ·exact ⟨p.ne.symm,p.b,p.a⟩
 ·exact ⟨p.ne.symm,p.b,p.a⟩
 exact ⟨p.ne,p.a,p.b⟩
/-- The vertex by which a matched top is held. -/
theorem Inv.hold_mate (g : Gph N most es) (hi : Inv N most es D y nd) (ht : Top nd r) (hm : (rd_T60 nd r).f3 ≠ -1) : topI nd (holdI nd es r) = r ∧ ∃ w,topI nd w = mt nd es r ∧ (((rd_T51 es (rd_T60 nd r).f3).f0 = holdI nd es r ∧ (rd_T51 es (rd_T60 nd r).f3).f1 = w) ∨ ((rd_T51 es (rd_T60 nd r).f3).f0 = w ∧ (rd_T51 es (rd_T60 nd r).f3).f1 = holdI nd es r)):=by
 have p:=hi.pair g ht hm
 have e:=hi.edge g p.ei
 have h0:=has_of_top hi.wf ht.i ht.u e.1
 unfold holdI
 rw [if_neg hm]
 rcases p.j with ⟨x,z⟩|⟨x,z⟩
 ·rw [if_pos (h0.2 x)]
  exact ⟨x,_,z,.inl ⟨rfl,rfl⟩⟩
 rw [if_neg (fun q=>p.ne (by rw [← x];exact (h0.1 q).symm))]
 exact ⟨z,_,x,.inr ⟨rfl,rfl⟩⟩
theorem Inv.hold_v (g : Gph N most es) (hi : Inv N most es D y nd) (ht : Top nd r) : (0 ≤ holdI nd es r ∧ holdI nd es r < N) ∧ hasI nd r (holdI nd es r) = true:=by
 by_cases c : (rd_T60 nd r).f3 = -1
 ·have F:=hi.free r ht c
  unfold holdI
  rw [if_pos c]
  exact ⟨F.v,F.h⟩
 obtain ⟨h1,w,h2,h3⟩:=hi.hold_mate g ht c
 have x:=g.e _ (hi.mate r ht c).ei
 have:=x.a;have:=x.ab;have:=x.b
 have hv : 0 ≤ holdI nd es r ∧ holdI nd es r < N:=by
  rcases h3 with ⟨q,_⟩|⟨_,q⟩ <;> rw [← q] <;> omega
 exact ⟨hv,(has_of_top hi.wf ht.i ht.u (hi.vtx hv.1 hv.2)).2 h1⟩
section
variable (g : Gph N most es) (hi : Inv N most es D y nd) (ht : Top nd r) (hN : N ≤ r) (hz : (rd_T60 nd r).f5 = 0) (R : Ring es y nd r) (ha : inR a (rd_T60 nd r).f0.length) (hh : hasI nd (rd (rd_T60 nd r).f0 a) (holdI nd es r) = true) (O : Opened nd nd' r a)
include g hi ht hN hz R ha hh O
/-- The ring's mate, now its member's. -/
theorem Opened.pair_a (hm : (rd_T60 nd r).f3 ≠ -1) : Pair es y nd' nd' (rd_T60 nd r).f3 (mt nd es r) (rd (rd_T60 nd r).f0 a):=by
 obtain ⟨h1,w,h2,h3⟩:=hi.hold_mate g ht hm
 have p:=hi.pair g ht hm
 have e:=hi.edge g p.ei
 have hv:=(hi.hold_v g ht).1
 have q:=hi.mt_ok g ht hm
 have ham:=rd_mem (rd_T60 nd r).f0 a ha.1 ha.2
 have hnm : mt nd es r ∉ (rd_T60 nd r).f0:=fun z=>by have:=(R.mem _ z).2;rw [q.1.u] at this;have:=ht.i.1;omega
 have t1 : topI nd' (holdI nd es r) = rd (rd_T60 nd r).f0 a:=O.top_m hi ht R ha (hi.vtx hv.1 hv.2) ham hh
 have hw : inR w nd.length:=by rcases h3 with ⟨_,z⟩|⟨z,_⟩ <;> rw [← z];exact e.2;exact e.1
 have t2 : topI nd' w = mt nd es r:=(O.top hi ht R ha w hw (by rw [h2];exact q.2.1)).trans h2
 refine ⟨p.ei,by rw [O.sl hi ht R ha hz e.1 e.2];exact p.sl,fun z=>hnm (z ▸ ham),?_,?_,?_⟩
 ·rcases h3 with ⟨x,z⟩|⟨x,z⟩ <;> rw [x,z,t1,t2]
  ·exact .inr ⟨rfl,rfl⟩
  exact .inl ⟨rfl,rfl⟩
 ·rw [O.o _ q.1.i q.2.1 hnm];exact q.2.2.1
 rw [O.m0]
/-- Two members that lie side by side are mates now. -/
theorem Opened.pair_k {k : Int} (h1 : 1 ≤ k) (h2 : k % 2 = 1) (h3 : k < (rd_T60 nd r).f0.length) : k + 1 < (rd_T60 nd r).f0.length ∧ Pair es y nd' nd' (rd (rd_T60 nd r).f1 ((a + k) % (rd_T60 nd r).f0.length)) (rd (rd_T60 nd r).f0 ((a + k) % (rd_T60 nd r).f0.length)) (rd (rd_T60 nd r).f0 ((a + (k + 1)) % (rd_T60 nd r).f0.length)):=by
 have hL : (0 : Int) < (rd_T60 nd r).f0.length:=by have:=R.three;omega
 have odd:=R.odd
 have h4 : k + 1 < (rd_T60 nd r).f0.length:=by omega
 have q1:=mod_in (x:=a + k) hL
 have q2:=mod_in (x:=a + (k + 1)) hL
 obtain ⟨l1,l2,l3⟩:=R.lnk _ q1
 have e:=hi.edge g l1
 rw [show ((a + k) % ((rd_T60 nd r).f0.length : Int) + 1) % ((rd_T60 nd r).f0.length : Int) = (a + (k + 1)) % ((rd_T60 nd r).f0.length : Int) by rw [Int.emod_add_emod,Int.add_assoc]] at l3
 have m1:=R.at_in (a:=a) (i:=k)
 have m2:=R.at_in (a:=a) (i:=k + 1)
 refine ⟨h4,l1,by rw [O.sl hi ht R ha hz e.1 e.2];exact l2,fun z=>?_,?_,?_,?_⟩
 ·have:=mod_inj hL ⟨by omega,h3⟩ ⟨by omega,h4⟩ (rd_inj R.nod q1 q2 z)
  omega
 ·rcases l3 with ⟨x,z⟩|⟨x,z⟩
  ·exact .inl ⟨O.top_m hi ht R ha e.1 m1.2 x,O.top_m hi ht R ha e.2 m2.2 z⟩
  exact .inr ⟨O.top_m hi ht R ha e.1 m2.2 z,O.top_m hi ht R ha e.2 m1.2 x⟩
 ·rw [O.ms k h1 h3,if_pos h2]
 rw [O.ms (k + 1) (by omega) h4,if_neg (by omega),show k + 1 - 1 = k by omega]
/-- A member is the holder or one of two side by side. -/
theorem Opened.mem_k {m : Int} (hm : m ∈ (rd_T60 nd r).f0) : m = rd (rd_T60 nd r).f0 a ∨ ∃ k : Int,1 ≤ k ∧ k % 2 = 1 ∧ k < (rd_T60 nd r).f0.length ∧ (m = rd (rd_T60 nd r).f0 ((a + k) % (rd_T60 nd r).f0.length) ∨ m = rd (rd_T60 nd r).f0 ((a + (k + 1)) % (rd_T60 nd r).f0.length)):=by
 have hL : (0 : Int) < (rd_T60 nd r).f0.length:=by have:=R.three;omega
 obtain ⟨p,p1,p2⟩:=mem_rd hm
 obtain ⟨k,k1,k2,k3⟩:=ring_place hL ha p1
 by_cases c : k = 0
 ·rw [c,Int.add_zero,Int.emod_eq_of_lt ha.1 ha.2] at k3
  exact .inl (by rw [k3,p2])
 right
 by_cases d : k % 2 = 1
 ·exact ⟨k,by omega,d,k2,.inl (by rw [k3,p2])⟩
 exact ⟨k - 1,by omega,by omega,by omega,.inr (by rw [show k - 1 + 1 = k by omega,k3,p2])⟩
/-- Every matched top has its pair. -/
theorem Opened.pairs {i : Int} (h : Top nd' i) (hm : (rd_T60 nd' i).f3 ≠ -1) : ∃ e j,Pair es y nd' nd' e i j:=by
 rcases (O.tops hi ht R ha).1 h with ⟨hi2,hr⟩|hmem
 ·have hnm : ∀ {i},Top nd i → i ∉ (rd_T60 nd r).f0:=fun q z=>by have:=(R.mem _ z).2;rw [q.u] at this;have:=ht.i.1;omega
  have e0:=O.o i hi2.i hr (hnm hi2)
  rw [e0] at hm
  have p:=hi.pair g hi2 hm
  have q:=hi.mt_ok g hi2 hm
  have e:=hi.edge g p.ei
  by_cases c : mt nd es i = r
  ·have hm2 : (rd_T60 nd r).f3 ≠ -1:=by rw [← c,q.2.2.1];exact hm
   have:=O.pair_a g hi ht hN hz R ha hh hm2
   rw [show mt nd es r = i by rw [← c];exact q.2.2.2] at this
   exact ⟨_,_,this⟩
  refine ⟨(rd_T60 nd i).f3,mt nd es i,p.ei,by rw [O.sl hi ht R ha hz e.1 e.2];exact p.sl,p.ne,?_,by rw [e0],by rw [O.o _ q.1.i c (hnm q.1)];exact q.2.2.1⟩
  rcases p.j with ⟨x,z⟩|⟨x,z⟩
  ·exact .inl ⟨(O.top hi ht R ha _ e.1 (by rw [x];exact hr)).trans x,(O.top hi ht R ha _ e.2 (by rw [z];exact c)).trans z⟩
  exact .inr ⟨(O.top hi ht R ha _ e.1 (by rw [x];exact c)).trans x,(O.top hi ht R ha _ e.2 (by rw [z];exact hr)).trans z⟩
 rcases O.mem_k g hi ht hN hz R ha hh hmem with rfl|⟨k,k1,k2,k3,rfl|rfl⟩
 ·rw [O.m0] at hm
  exact ⟨_,_,(O.pair_a g hi ht hN hz R ha hh hm).symm⟩
 ·exact ⟨_,_,(O.pair_k g hi ht hN hz R ha hh k1 k2 k3).2⟩
 exact ⟨_,_,(O.pair_k g hi ht hN hz R ha hh k1 k2 k3).2.symm⟩
/-- A top that's free now was free, or is the member that holds a free ring's base. -/
theorem Opened.frees {i : Int} (h : Top nd' i) (hm : (rd_T60 nd' i).f3 = -1) : ((Top nd i ∧ i ≠ r ∧ (rd_T60 nd i).f3 = -1) ∨ (i = rd (rd_T60 nd r).f0 a ∧ (rd_T60 nd r).f3 = -1 ∧ (rd_T60 nd i).f4 = (rd_T60 nd r).f4)) ∧ (rd_T60 nd' i).f4 = (rd_T60 nd i).f4:=by
 have hn : inR i nd.length:=by rw [← O.l];exact h.i
 refine ⟨?_,(O.f hi ht R ha hn).2.2.1⟩
 rcases (O.tops hi ht R ha).1 h with ⟨hi2,hr⟩|hmem
 ·left
  have hnm : i ∉ (rd_T60 nd r).f0:=fun z=>by have:=(R.mem _ z).2;rw [hi2.u] at this;have:=ht.i.1;omega
  rw [O.o i hi2.i hr hnm] at hm
  exact ⟨hi2,hr,hm⟩
 right
 rcases O.mem_k g hi ht hN hz R ha hh hmem with rfl|⟨k,k1,k2,k3,rfl|rfl⟩
 ·rw [O.m0] at hm
  have hm2 : (rd_T60 nd r).f3 = -1:=hm
  refine ⟨rfl,hm2,?_⟩
  have F:=hi.free r ht hm2
  have e : holdI nd es r = (rd_T60 nd r).f4:=by unfold holdI;rw [if_pos hm2]
  rw [e] at hh
  exact F.b _ (R.mem _ (rd_mem _ a ha.1 ha.2)).1 hh
 ·have p:=(O.pair_k g hi ht hN hz R ha hh k1 k2 k3).2
  have:=p.ei.1
  rw [p.a] at hm;omega
 have p:=(O.pair_k g hi ht hN hz R ha hh k1 k2 k3).2
 have:=p.ei.1
 rw [p.b] at hm;omega
theorem Opened.inv : Inv N most es D y nd':=by
 have hvt : ∀ {i : Int},0 ≤ i → i < N → inR i nd.length:=fun a b=>hi.vtx a b
 have F:=fun {j : Int} (hj : inR j nd.length)=>O.f hi ht R ha hj
 refine ⟨hi.yl,by rw [O.l];exact hi.nn,by rw [O.l];exact hi.sz,O.wf hi ht R ha,fun i h0 h1=>?_,fun i hn ho=>?_,fun m hn hu=>?_,fun i h0 h1 ho=>?_,fun i h hm=>?_,fun i h hm=>?_,fun i hn=>?_,hi.yy,hi.dd,fun e he=>?_,fun u v hu hv e=>?_⟩
 ·have f:=F (hvt h0 h1)
  rw [f.1,f.2.2.1,f.2.2.2.1,f.2.2.2.2.1 (by omega)]
  exact hi.ver i h0 h1
 ·rw [O.l] at hn
  have f:=F hn
  rw [f.2.2.2.2.2]
  by_cases c : i = r
  ·rw [c,ht.u];split <;> rfl
  rw [hi.opn i hn ((f.2.2.2.2.1 c).symm.trans ho)];split <;> rfl
 ·rw [O.l] at hn
  have f:=F hn
  rw [f.2.2.2.2.2] at hu ⊢
  by_cases c : (rd_T60 nd m).f2 = r
  ·rw [if_pos c] at hu;exact absurd rfl hu
  rw [if_neg c] at hu ⊢
  have hp:=(up_in hi.wf hn).resolve_left hu
  have f2:=F hp
  rw [f2.1,f2.2.2.2.2.1 c]
  exact hi.par m hn hu
 ·rw [O.l] at h1
  have hin : inR i nd.length:=⟨by have:=g.n0;omega,h1⟩
  have f:=F hin
  have hr : i ≠ r:=fun e=>by rw [e,O.rr] at ho;cases ho
  have Q:=hi.ring i h0 h1 ((f.2.2.2.2.1 hr).symm.trans ho)
  refine ⟨by rw [f.1];exact Q.odd,by rw [f.1];exact Q.three,by rw [f.1,f.2.1];exact Q.lkl,by rw [f.1];exact Q.nod,?_,?_⟩
  ·rw [f.1]
   intro m hm
   have q:=Q.mem m hm
   refine ⟨by rw [O.l];exact q.1,?_⟩
   rw [(F q.1).2.2.2.2.2,q.2,if_neg hr]
  rw [f.1,f.2.1]
  intro k hk
  obtain ⟨k1,k2,k3⟩:=Q.lnk k hk
  have e:=hi.edge g k1
  have hL : (0 : Int) < (rd_T60 nd i).f0.length:=by have:=Q.three;omega
  have q2:=mod_in (x:=k + 1) hL
  have m1:=Q.mem _ (rd_mem _ _ hk.1 hk.2)
  have m2:=Q.mem _ (rd_mem _ _ q2.1 q2.2)
  have ne : ∀ {m},inR m nd.length ∧ (rd_T60 nd m).f2 = i → m ≠ r ∧ m ≠ -1:=fun q=>⟨fun z=>by rw [z,ht.u] at q;have:=hin.1;omega,by have:=q.1.1;omega⟩
  refine ⟨k1,by rw [O.sl hi ht R ha hz e.1 e.2];exact k2,?_⟩
  unfold Joins at k3 ⊢
  rw [O.has hi ht R ha (ne m1).1 (ne m1).2 _ e.1,O.has hi ht R ha (ne m1).1 (ne m1).2 _ e.2,O.has hi ht R ha (ne m2).1 (ne m2).2 _ e.1,O.has hi ht R ha (ne m2).1 (ne m2).2 _ e.2]
  exact k3
 ·obtain ⟨e,j,p⟩:=O.pairs g hi ht hN hz R ha hh h hm
  exact p.self_ok
 ·obtain ⟨q,q4⟩:=O.frees g hi ht hN hz R ha hh h hm
  have hn : inR i nd.length:=by rw [← O.l];exact h.i
  have key : ∀ {s : Int},Top nd s → (rd_T60 nd s).f3 = -1 → (rd_T60 nd i).f4 = (rd_T60 nd s).f4 → hasI nd i (rd_T60 nd s).f4 = true → i ≠ r → FreeOk N y nd' (most - D) i:=fun {s} hs hm2 e4 eh hr=>by
   have G:=hi.free s hs hm2
   have hin:=hvt G.v.1 G.v.2
   refine ⟨by rw [q4,e4];exact G.v,?_,fun j hj hjv=>?_,by rw [q4,e4];exact G.yv⟩
   ·rw [q4,e4,O.has hi ht R ha hr (by have:=hn.1;omega) _ hin];exact eh
   rw [O.l] at hj
   rw [q4,e4] at hjv ⊢
   rw [(F hj).2.2.1]
   by_cases c : j = r
   ·rw [c,O.has_r hi ht R ha _ hin] at hjv
    have:=of_decide_eq_true hjv
    have:=G.v.2
    omega
   rw [O.has hi ht R ha c (by have:=hj.1;omega) _ hin] at hjv
   exact G.b j hj hjv
  rcases q with ⟨h1,h2,h3⟩|⟨h1,h2,h3⟩
  ·exact key h1 h3 rfl (hi.free i h1 h3).h h2
  have e : holdI nd es r = (rd_T60 nd r).f4:=by unfold holdI;rw [if_pos h2]
  refine key ht h2 h3 (by rw [h1,← e];exact hh) fun z=>?_
  have:=O.rr
  rw [← z] at this
  have w:=h.o
  rw [this] at w
  cases w
 ·rw [O.l] at hn
  rw [(F hn).2.2.2.1]
  exact hi.zz i hn
 ·have hin:=hi.edge g he
  rw [O.sl hi ht R ha hz hin.1 hin.2]
  exact hi.sl e he
 have a1 : inR u nd.length:=hi.vtx hu.1 (by have:=hi.yl;have:=hu.2;omega)
 have b1 : inR v nd.length:=hi.vtx hv.1 (by have:=hi.yl;have:=hv.2;omega)
 refine hi.pa u v hu hv ?_
 rw [← O.coarse hi ht R ha u a1,← O.coarse hi ht R ha v b1,e]
end
end
end Go.Proofs.Ytnffimpoekjkpaa.QFnExactRounds
/- The solver's plain law: a ring opened on both sides. -/
namespace Go.Proofs.Ytnffimpoekjkpaa.QFnExactRounds
open Go.RowKit Go.Proofs.YtnffimpoekjkpaaW.PrintWords Go.Proofs.YtnffimpoekjkpaaW.PrintLast Go.Proofs.YtnffimpoekjkpaaW.PrintMore
set_option linter.unusedVariables false
set_option linter.unusedSimpArgs false
set_option linter.unusedSectionVars false
theorem rd55_set {nd : List S55} {i j : Int} (x : S55) (h0 : 0 ≤ i) (h1 : i < (nd.length : Int)) (hj : 0 ≤ j) : rd_T55 (nd.set i.toNat x) j = if j = i then x else rd_T55 nd j:=by
 unfold rd_T55
 by_cases c : j = i
 ·rw [if_pos c,c]
  have h : i.toNat < nd.length:=by omega
  simp [h]
 rw [if_neg c]
 have h : i.toNat ≠ j.toNat:=by omega
 simp [List.getElem?_set,h]
theorem rd55_app {nd : List S55} {j : Int} (x : S55) (hj : 0 ≤ j) (hl : j ≤ nd.length) : rd_T55 (nd ++ [x]) j = if j = nd.length then x else rd_T55 nd j:=by
 unfold rd_T55
 by_cases c : j = nd.length
 ·rw [if_pos c,c]
  simp
 rw [if_neg c]
 have h : j.toNat < nd.length:=by omega
 simp [List.getElem?_append,h]
theorem upsF_len {u : Int} : ∀ {l : List Int} {nd : List S55},(upsF u l nd).length = nd.length
 | [],nd=>rfl
 | m :: l,nd=>by rw [upsF,upsF_len,upAt,List.length_set]
theorem upsF_rd {u : Int} : ∀ {l : List Int} {nd : List S55},(∀ m ∈ l,inR m nd.length) → ∀ {j : Int},0 ≤ j → rd_T55 (upsF u l nd) j = if j ∈ l then { rd_T55 nd j with f4:=u } else rd_T55 nd j
 | [],nd,_,j,hj=>by rw [upsF,if_neg (by simp)]
 | m :: l,nd,hl,j,hj=>by
  have hm:=hl m List.mem_cons_self
  rw [upsF,upsF_rd (fun x hx=>by rw [upAt,List.length_set];exact hl x (List.mem_cons_of_mem _ hx)) hj,upAt,rd55_set _ hm.1 hm.2 hj]
  by_cases c : j = m
  ·subst c
   rw [if_pos rfl,if_pos List.mem_cons_self]
   split <;> rfl
  rw [if_neg c]
  by_cases d : j ∈ l
  ·rw [if_pos d,if_pos (List.mem_cons_of_mem _ d)]
  rw [if_neg d,if_neg (by simp [c,d])]
theorem mem_linkF {lk : List S77} {a L : Int} {x : S77} : ∀ {f : Nat} {k : Int} {l : List S77},L ≤ k + 2 * f → (x ∈ linkF lk a L f k l ↔ x ∈ l ∨ ∃ i : Int,k ≤ i ∧ i < L ∧ (i - k) % 2 = 0 ∧ x = rd_T77 lk ((a + i) % L))
 | 0,k,l,h=>by
  rw [linkF]
  exact ⟨.inl,fun q=>q.elim id fun ⟨i,h1,h2,_⟩=>by omega⟩
 | f + 1,k,l,h=>by
  rw [linkF]
  by_cases c : k < L
  ·rw [if_pos c,mem_linkF (by omega),List.mem_append,List.mem_singleton]
   constructor
   ·rintro ((q|q)|⟨i,h1,h2,h3,h4⟩)
    ·exact .inl q
    ·exact .inr ⟨k,by omega,c,by omega,q⟩
    exact .inr ⟨i,by omega,h2,by omega,h4⟩
   rintro (q|⟨i,h1,h2,h3,h4⟩)
   ·exact .inl (.inl q)
   by_cases d : i = k
   ·exact .inl (.inr (d ▸ h4))
   exact .inr ⟨i,by omega,h2,by omega,h4⟩
  rw [if_neg c]
  exact ⟨.inl,fun q=>q.elim id fun ⟨i,h1,h2,_⟩=>by omega⟩
theorem linkF_nod {lk : List S77} {a L : Int} : ∀ {f : Nat} {k : Int} {l : List S77},l.Nodup → (∀ i : Int,k ≤ i → i < L → (i - k) % 2 = 0 → rd_T77 lk ((a + i) % L) ∉ l) → (∀ i j : Int,k ≤ i → i < L → k ≤ j → j < L → (i - k) % 2 = 0 → (j - k) % 2 = 0 → rd_T77 lk ((a + i) % L) = rd_T77 lk ((a + j) % L) → i = j) → (linkF lk a L f k l).Nodup
 | 0,k,l,h,_,_=>h
 | f + 1,k,l,h,h1,h2=>by
  rw [linkF]
  by_cases c : k < L
  ·rw [if_pos c]
   refine linkF_nod (nod_snoc h (h1 k (by omega) c (by omega))) (fun i i1 i2 i3 q=>?_) fun i j i1 i2 j1 j2 i3 j3=>h2 i j (by omega) i2 (by omega) j2 (by omega) (by omega)
   rw [List.mem_append,List.mem_singleton] at q
   rcases q with q|q
   ·exact h1 i (by omega) i2 (by omega) q
   have:=h2 i k (by omega) i2 (by omega) c (by omega) (by omega) q
   omega
  rw [if_neg c];exact h
/-- The bases of the free tops on the reference's side. -/
def BRel (nd : List S60) (rn : List S55) : Prop:=∀ t,Top nd t → (rd_T60 nd t).f3 = -1 → ∀ i,inR i nd.length → hasI nd i (rd_T60 nd t).f4 = true → (rd_T55 rn i).f2 = (rd_T60 nd t).f4
section
variable {N most : Int} {es : List S51} {D : Int} {y : List Int} {nd nd' nd2 : List S60} {rn : List S55} {mts : List S77} {lb ah bk : List Int} {rk : Int → Nat} {K : Nat} {t : TI} {r a : Int}
theorem enc_nod (hN : 0 ≤ N) : ∀ {l : List S77},(∀ x ∈ l,(0 ≤ x.f0 ∧ x.f0 < N) ∧ 0 ≤ x.f1 ∧ x.f1 < N) → l.Nodup → (l.map fun x=>x.f0 * N + x.f1).Nodup
 | [],_,_=>List.nodup_nil
 | x :: l,h,hn=>by
  have h2:=List.nodup_cons.1 hn
  rw [List.map_cons,List.nodup_cons]
  refine ⟨fun q=>?_,enc_nod hN (fun z hz=>h z (List.mem_cons_of_mem _ hz)) h2.2⟩
  obtain ⟨z,z1,z2⟩:=List.mem_map.1 q
  have hz:=h z (List.mem_cons_of_mem _ z1)
  have hx:=h x List.mem_cons_self
  have e0 : z.f0 = x.f0:=by
   have a1 : (z.f0 * N + z.f1) / N = z.f0:=by
    rw [Int.mul_comm,Int.mul_add_ediv_left _ _ (by omega),Int.ediv_eq_zero_of_lt hz.2.1 hz.2.2];omega
   have a2 : (x.f0 * N + x.f1) / N = x.f0:=by
    rw [Int.mul_comm,Int.mul_add_ediv_left _ _ (by omega),Int.ediv_eq_zero_of_lt hx.2.1 hx.2.2];omega
   have z2 : z.f0 * N + z.f1 = x.f0 * N + x.f1:=z2
   rw [← a1,z2,a2]
  have e1 : z.f1 = x.f1:=by
   have z2 : z.f0 * N + z.f1 = x.f0 * N + x.f1:=z2
   rw [e0] at z2;omega
  have : z = x:=by cases z;cases x;simp only at e0 e1;rw [e0,e1]
  exact h2.1 (this ▸ z1)
theorem MRel.len (g : Gph N most es) (h : MRel es nd mts) (hd : mts.Nodup) : mts.length ≤ 81:=by
 have h1:=enc_nod (N:=N) g.n0 (l:=mts) (fun x hx=>by
  obtain ⟨e,he,hl,-⟩:=h.a x hx
  have:=hl.vtx g he
  exact ⟨this.1,this.2.1⟩) hd
 have h2:=nodup_len (m:=(List.range 81).map fun v : Nat=>(v : Int)) h1 fun z hz=>by
  obtain ⟨x,hx,rfl⟩:=List.mem_map.1 hz
  obtain ⟨e,he,hl,-⟩:=h.a x hx
  obtain ⟨⟨p,q⟩,⟨u,v⟩,-⟩:=hl.vtx g he
  have n9:=g.n9
  have b1 : x.f0 * N ≤ 8 * 9:=by
   have : x.f0 * N ≤ x.f0 * 9:=Int.mul_le_mul_of_nonneg_left n9 p
   omega
  have b0 : 0 ≤ x.f0 * N:=Int.mul_nonneg p g.n0
  exact List.mem_map.2 ⟨(x.f0 * N + x.f1).toNat,List.mem_range.2 (by omega),by rw [Int.toNat_of_nonneg (by omega)]⟩
 rw [List.length_map,List.length_map,List.length_range] at h2
 exact h2
theorem Ring.len (R : Ring es y nd r) : (rd_T60 nd r).f0.length ≤ nd.length:=by
 have:=nodup_len (m:=(List.range nd.length).map fun v : Nat=>(v : Int)) R.nod fun x hx=>by
  have q:=(R.mem x hx).1
  exact List.mem_map.2 ⟨x.toNat,List.mem_range.2 (by have:=q.1;have:=q.2;omega),by rw [Int.toNat_of_nonneg q.1]⟩
 rw [List.length_map,List.length_range] at this
 exact this
theorem atF_congr {nd nd2 : List S60} {v : Int} : ∀ {l : List Int} {k a : Int},(∀ m ∈ l,hasI nd m v = hasI nd2 m v) → atF nd v l k a = atF nd2 v l k a
 | [],k,a,h=>rfl
 | m :: l,k,a,h=>by rw [atF,atF,h m List.mem_cons_self,atF_congr fun x hx=>h x (List.mem_cons_of_mem _ hx)]
theorem base_is (g : Gph N most es) (hi : Inv N most es D y nd) (hr : RelN es nd rn) (hm : MRel es nd mts) (hb : BRel nd rn) (ht : Top nd r) : baseS rn mts r = holdI nd es r:=by
 unfold baseS
 by_cases c : (rd_T60 nd r).f3 = -1
 ·rw [mateL_none g hi hr hm c mts (fun _ h=>h),if_neg (by decide)]
  unfold holdI
  rw [if_pos c]
  exact hb r ht c r ht.i (hi.free r ht c).h
 obtain ⟨m,m1,m2,m3,m4⟩:=mateL_some g hi hr hm ht c mts (fun _ h=>h) (hm.b r ht c)
 rw [m1,if_pos rfl]
 obtain ⟨h1,w,h2,h3⟩:=hi.hold_mate g ht c
 have ne:=(hi.mt_ok g ht c).2.1
 show m.f0 = _
 rcases m2 with ⟨u,v⟩|⟨u,v⟩ <;> rcases h3 with ⟨p,q⟩|⟨p,q⟩
 ·rw [u,p]
 ·rw [u,p,h2] at m3;exact absurd m3 ne
 ·rw [u,q,h2] at m3;exact absurd m3 ne
 rw [u,q]
theorem Joins.or {l : S77} {e p q : Int} (hl : LinkIs es e l) (hj : (topI nd (rd_T51 es e).f0 = p ∧ topI nd (rd_T51 es e).f1 = q) ∨ (topI nd (rd_T51 es e).f0 = q ∧ topI nd (rd_T51 es e).f1 = p)) : (topI nd l.f0 = p ∧ topI nd l.f1 = q) ∨ (topI nd l.f0 = q ∧ topI nd l.f1 = p):=by
 rcases hl.tops (nd:=nd) with ⟨x,z⟩|⟨x,z⟩ <;> rw [x,z]
 ·exact hj
 exact hj.symm.imp (fun h=>⟨h.2,h.1⟩) fun h=>⟨h.2,h.1⟩
/-- A ring opened on both sides. -/
theorem open_both (g : Gph N most es) (hi : Inv N most es D y nd) (hr : RelN es nd rn) (hm : MRel es nd mts) (hd : mts.Nodup) (hb : BRel nd rn) (ht : Top nd r) (hN : N ≤ r) (hz : (rd_T60 nd r).f5 = 0) (n : Int) (b : Bool) :
  UOk es nd r ∧ UOkS ⟨y,rn,mts,n,b⟩ r ∧ ∃ a rn' mts',openS ⟨y,rn,mts,n,b⟩ r = ⟨y,rn',mts',n,b⟩ ∧ inR a (rd_T60 nd r).f0.length ∧ Opened nd (unfoldI es nd r) r a ∧ Inv N most es D y (unfoldI es nd r) ∧ RelN es (unfoldI es nd r) rn' ∧ MRel es (unfoldI es nd r) mts' ∧ mts'.Nodup ∧ BRel (unfoldI es nd r) rn' ∧
   (∀ i,Top (unfoldI es nd r) i → (rd_T60 (unfoldI es nd r) i).f3 = -1 → ((Top nd i ∧ i ≠ r ∧ (rd_T60 nd i).f3 = -1) ∨ (i = rd (rd_T60 nd r).f0 a ∧ (rd_T60 nd r).f3 = -1 ∧ (rd_T60 nd i).f4 = (rd_T60 nd r).f4)) ∧ (rd_T60 (unfoldI es nd r) i).f4 = (rd_T60 nd i).f4):=by
 have R:=hi.ring r hN ht.i.2 ht.o
 obtain ⟨hv,hv2⟩:=hi.hold_v g ht
 have hin:=hi.vtx hv.1 hv.2
 obtain ⟨a,ha,hh,hat⟩:=hi.place ht.i R hin hv2 (by omega)
 have O:=unfold_is (es:=es) ht R ha hat
 generalize hnd : unfoldI es nd r = nd' at O ⊢
 have X:=hr.n r ht.i
 have eb:=base_is g hi hr hm hb ht
 have hL : (0 : Int) < (rd_T60 nd r).f0.length:=by have:=R.three;omega
 have odd:=R.odd
 have eat : atS ⟨y,rn,mts,n,b⟩ r = a:=by
  show atF (cvs rn) (baseS rn mts r) (rd_T55 rn r).f0 0 0 = a
  rw [eb,X.mem,← hat]
  exact atF_congr fun m hm=>hr.has hi.wf (by have:=(R.mem m hm).1.1;omega) hin
 have hrm : r ∉ (rd_T60 nd r).f0:=fun h=>by have:=(R.mem r h).2;rw [ht.u] at this;have:=ht.i.1;omega
 have LK : ∀ k : Int,1 ≤ k → k % 2 = 1 → k < (rd_T60 nd r).f0.length → LinkIs es (rd (rd_T60 nd r).f1 ((a + k) % (rd_T60 nd r).f0.length)) (rd_T77 (rd_T55 rn r).f1 ((a + k) % (rd_T60 nd r).f0.length)):=fun k _ _ _=>X.lk _ (by rw [R.lkl];exact mod_in hL)
 have hrl : inR r rn.length:=by rw [hr.l];exact ht.i
 have hmr : ∀ m ∈ (rd_T60 nd r).f0,inR m rn.length:=fun m h=>by rw [hr.l];exact (R.mem m h).1
 have rU : ∀ {i : Int},0 ≤ i → rd_T55 (goneAt (upsF (-1) (rd_T60 nd r).f0 rn) r) i = if i = r then { rd_T55 rn r with f5:=true } else if i ∈ (rd_T60 nd r).f0 then { rd_T55 rn i with f4:=-1 } else rd_T55 rn i:=fun {i} h=>by
  rw [goneAt,rd55_set _ ht.i.1 (by rw [upsF_len];exact hrl.2) h,upsF_rd hmr h,upsF_rd hmr ht.i.1,if_neg hrm]
 have OLD : ∀ i,Top nd i → (rd_T60 nd i).f3 ≠ -1 → ∃ p q,Pair es y nd' nd' (rd_T60 nd i).f3 p q:=fun i hi2 hm2=>by
  by_cases c : i = r
  ·rw [c] at hm2 ⊢
   exact ⟨_,_,O.pair_a g hi ht hN hz R ha hh hm2⟩
  have nm : i ∉ (rd_T60 nd r).f0:=fun z=>by have:=(R.mem _ z).2;rw [hi2.u] at this;have:=ht.i.1;omega
  have e0:=O.o i hi2.i c nm
  obtain ⟨e,j,p⟩:=O.pairs g hi ht hN hz R ha hh ((O.tops hi ht R ha).2 (.inl ⟨hi2,c⟩)) (by rw [e0];exact hm2)
  have:=p.a
  rw [e0] at this
  rw [this]
  exact ⟨_,_,p⟩
 have ML : ∀ x,x ∈ linkF (rd_T55 rn r).f1 a (rd_T60 nd r).f0.length ((rd_T60 nd r).f0.length + 1) 1 mts ↔ x ∈ mts ∨ ∃ i : Int,1 ≤ i ∧ i < (rd_T60 nd r).f0.length ∧ (i - 1) % 2 = 0 ∧ x = rd_T77 (rd_T55 rn r).f1 ((a + i) % (rd_T60 nd r).f0.length):=fun x=>mem_linkF (by omega)
 refine ⟨⟨?_,.inr hin,fun m h=>(R.mem m h).1,by omega,by rw [R.lkl];omega,by have:=R.len;have:=hi.sz;omega⟩,⟨fun x hx=>?_,by have:=hm.len g hd;show mts.length ≤ _;omega,hrl,.inr (by show inR (baseS rn mts r) rn.length;rw [eb,hr.l];exact hin),fun m h=>?_,?_,?_,?_⟩,a,goneAt (upsF (-1) (rd_T60 nd r).f0 rn) r,linkF (rd_T55 rn r).f1 a (rd_T60 nd r).f0.length ((rd_T60 nd r).f0.length + 1) 1 mts,?_,ha,O,O.inv g hi ht hN hz R ha hh,⟨?_,fun i hn=>?_⟩,⟨fun x hx=>?_,fun i h q=>?_⟩,?_,fun s hs hs3 i hn hv3=>?_,fun i h q=>O.frees g hi ht hN hz R ha hh h q⟩
 ·by_cases c : (rd_T60 nd r).f3 = -1
  ·exact .inl c
  exact .inr (hi.mate r ht c).ei
 ·have:=hm.in g hi.nn x hx
  show inR x.f0 rn.length ∧ inR x.f1 rn.length
  rw [hr.l];exact this
 ·have h2 : m ∈ (rd_T55 rn r).f0:=h
  rw [X.mem] at h2
  exact hmr m h2
 ·show 0 < (rd_T55 rn r).f0.length
  rw [X.mem];omega
 ·show (rd_T55 rn r).f0.length ≤ (rd_T55 rn r).f1.length
  rw [X.mem,X.ll,R.lkl];omega
 ·show (rd_T55 rn r).f0.length ≤ _
  rw [X.mem];have:=R.len;have:=hi.sz;omega
 ·show RI.mk y (goneAt (upsF (-1) (rd_T55 rn r).f0 rn) r) (linkF (rd_T55 rn r).f1 (atS ⟨y,rn,mts,n,b⟩ r) (rd_T55 rn r).f0.length ((rd_T55 rn r).f0.length + 1) 1 mts) n b = _
  rw [eat,X.mem]
 ·rw [goneAt,List.length_set,upsF_len,hr.l,O.l]
 ·rw [O.l] at hn
  have Y:=hr.n i hn
  rw [rU hn.1]
  by_cases c : i = r
  ·rw [if_pos c,c,O.rr]
   exact ⟨X.mem,X.ll,X.lk,X.zz,X.up,rfl⟩
  rw [if_neg c]
  by_cases d : i ∈ (rd_T60 nd r).f0
  ·obtain ⟨f,e⟩:=O.mem R ha d
   rw [if_pos d,e]
   exact ⟨Y.mem,Y.ll,Y.lk,Y.zz,rfl,Y.op⟩
  rw [if_neg d,O.o i hn c d]
  exact Y
 ·rcases (ML x).1 hx with h|⟨k,k1,k2,k3,rfl⟩
  ·obtain ⟨e1,e2,e3,e4,e5,e6⟩:=hm.a x h
   have hx2:=hm.in g hi.nn x h
   have hv2:=e3.vtx g e2
   have tt:=hi.top_v hv2.1.1 hv2.1.2
   obtain ⟨p,q,P⟩:=OLD _ tt (by rw [e5];have:=e2.1;omega)
   rw [e5] at P
   exact P.self_link e3
  exact (O.pair_k g hi ht hN hz R ha hh k1 (by omega) k2).2.self_link (LK k k1 (by omega) k2)
 ·rcases (O.tops hi ht R ha).1 h with ⟨hi2,hr2⟩|hmem
  ·have nm : i ∉ (rd_T60 nd r).f0:=fun z=>by have:=(R.mem _ z).2;rw [hi2.u] at this;have:=ht.i.1;omega
   rw [O.o i hi2.i hr2 nm] at q ⊢
   obtain ⟨l,l1,l2⟩:=hm.b i hi2 q
   exact ⟨l,(ML l).2 (.inl l1),l2⟩
  rcases O.mem_k g hi ht hN hz R ha hh hmem with rfl|⟨k,k1,k2,k3,rfl|rfl⟩
  ·rw [O.m0] at q ⊢
   obtain ⟨l,l1,l2⟩:=hm.b r ht q
   exact ⟨l,(ML l).2 (.inl l1),l2⟩
  ·have P:=(O.pair_k g hi ht hN hz R ha hh k1 k2 k3).2
   exact ⟨_,(ML _).2 (.inr ⟨k,k1,k3,by omega,rfl⟩),by rw [P.a];exact LK k k1 k2 k3⟩
  have P:=(O.pair_k g hi ht hN hz R ha hh k1 k2 k3).2
  exact ⟨_,(ML _).2 (.inr ⟨k,k1,k3,by omega,rfl⟩),by rw [P.b];exact LK k k1 k2 k3⟩
 ·refine linkF_nod hd (fun i i1 i2 i3 q=>?_) fun i j i1 i2 j1 j2 i3 j3 q=>?_
  ·obtain ⟨e1,e2,e3,e4,e5,e6⟩:=hm.a _ q
   have hv2:=e3.vtx g e2
   have P:=(O.pair_k g hi ht hN hz R ha hh i1 (by omega) i2).2
   have J:=Joins.or (LK i i1 (by omega) i2) P.j
   have tm : ∀ {k : Int},topI nd (rd (rd_T60 nd r).f0 ((a + k) % (rd_T60 nd r).f0.length)) = r:=fun {k}=>by
    have:=R.at_in (a:=a) (i:=k)
    rw [topI_step hi.wf this.1,(R.mem _ this.2).2,if_neg (by have:=ht.i.1;omega)]
    exact topI_of_top hi.wf ht.i ht.u
   have c0:=O.coarse hi ht R ha _ (hi.vtx hv2.1.1 hv2.1.2)
   have c1:=O.coarse hi ht R ha _ (hi.vtx hv2.2.1.1 hv2.2.1.2)
   apply e4
   rw [← c0,← c1]
   rcases J with ⟨x,z⟩|⟨x,z⟩ <;> rw [x,z,tm,tm]
  obtain ⟨i4,P⟩:=O.pair_k g hi ht hN hz R ha hh i1 (by omega) i2
  obtain ⟨j4,Q⟩:=O.pair_k g hi ht hN hz R ha hh j1 (by omega) j2
  have J:=Joins.or (LK i i1 (by omega) i2) P.j
  have K:=Joins.or (LK j j1 (by omega) j2) Q.j
  rw [q] at J
  have inj : ∀ u v : Int,0 ≤ u → u < (rd_T60 nd r).f0.length → 0 ≤ v → v < (rd_T60 nd r).f0.length → rd (rd_T60 nd r).f0 ((a + u) % (rd_T60 nd r).f0.length) = rd (rd_T60 nd r).f0 ((a + v) % (rd_T60 nd r).f0.length) → u = v:=fun u v u0 u1 v0 v1 h=>mod_inj hL ⟨u0,u1⟩ ⟨v0,v1⟩ (rd_inj R.nod (mod_in hL) (mod_in hL) h)
  rcases J with ⟨x,_⟩|⟨x,_⟩ <;> rcases K with ⟨z,_⟩|⟨z,_⟩ <;> rw [z] at x
  ·have:=inj _ _ (by omega) (by omega) (by omega) (by omega) x;omega
  ·have:=inj _ _ (by omega) (by omega) (by omega) (by omega) x;omega
  ·have:=inj _ _ (by omega) (by omega) (by omega) (by omega) x;omega
  have:=inj _ _ (by omega) (by omega) (by omega) (by omega) x;omega
 rw [O.l] at hn
 obtain ⟨q,q4⟩:=O.frees g hi ht hN hz R ha hh hs hs3
 rw [q4] at hv3 ⊢
 have e2 : (rd_T55 (goneAt (upsF (-1) (rd_T60 nd r).f0 rn) r) i).f2 = (rd_T55 rn i).f2:=by
  rw [rU hn.1]
  split
  ·rename_i c;rw [c]
  split <;> rfl
 rw [e2]
 have key : ∀ u,Top nd u → (rd_T60 nd u).f3 = -1 → (rd_T60 nd s).f4 = (rd_T60 nd u).f4 → (rd_T55 rn i).f2 = (rd_T60 nd s).f4:=fun u hu hu3 e4=>by
  have G:=hi.free u hu hu3
  rw [e4] at hv3 ⊢
  by_cases c : i = r
  ·rw [c,O.has_r hi ht R ha _ (hi.vtx G.v.1 G.v.2)] at hv3
   have:=of_decide_eq_true hv3
   have:=G.v.2
   omega
  rw [O.has hi ht R ha c (by have:=hn.1;omega) _ (hi.vtx G.v.1 G.v.2)] at hv3
  exact hb u hu hu3 i hn hv3
 rcases q with ⟨h1,h2,h3⟩|⟨h1,h2,h3⟩
 ·exact key s h1 h3 rfl
 exact key r ht h2 h3
end
end Go.Proofs.Ytnffimpoekjkpaa.QFnExactRounds
/- The solver's plain law: the ring that two ways of one tree close. -/
namespace Go.Proofs.Ytnffimpoekjkpaa.QFnExactRounds
open Go.RowKit Go.Proofs.YtnffimpoekjkpaaW.PrintWords Go.Proofs.YtnffimpoekjkpaaW.PrintLast Go.Proofs.YtnffimpoekjkpaaW.PrintMore
set_option linter.unusedVariables false
set_option linter.unusedSimpArgs false
set_option linter.unusedSectionVars false
def Pth (J : Int → Int → Int → Prop) : Int → List Int → List Int → Prop
 | _,[],[]=>True
 | x,m :: ms,l :: ls=>J l x m ∧ Pth J m ms ls
 | _,_,_=>False
theorem Pth.app {J : Int → Int → Int → Prop} : ∀ {ms ls ms2 ls2 : List Int} {x : Int},Pth J x ms ls → Pth J ((x :: ms).getLast (by simp)) ms2 ls2 → Pth J x (ms ++ ms2) (ls ++ ls2)
 | [],[],_,_,x,_,h=>h
 | m :: ms,l :: ls,ms2,ls2,x,h,k=>⟨h.1,Pth.app h.2 (by rw [List.getLast_cons (by simp)] at k;exact k)⟩
 | [],_ :: _,_,_,_,h,_=>h.elim
 | _ :: _,[],_,_,_,h,_=>h.elim
theorem Pth.at {J : Int → Int → Int → Prop} : ∀ {ms ls : List Int} {x : Int},Pth J x ms ls → ms.length = ls.length ∧ ∀ k,inR k ls.length → J (rd ls k) (rd (x :: ms) k) (rd ms k)
 | [],[],x,_=>⟨rfl,fun k hk=>absurd hk.2 (by have:=hk.1;simp;omega)⟩
 | m :: ms,l :: ls,x,h=>by
  obtain ⟨h1,h2⟩:=Pth.at h.2
  refine ⟨by rw [List.length_cons,List.length_cons,h1],fun k hk=>?_⟩
  by_cases c : k = 0
  ·subst c;exact h.1
  have hk0 : 0 < k:=by have:=hk.1;omega
  rw [rd_cons hk0,rd_cons hk0,rd_cons (l:=ms) hk0]
  exact h2 (k - 1) ⟨by omega,by have:=hk.2;rw [List.length_cons] at this;omega⟩
 | [],_ :: _,_,h=>h.elim
 | _ :: _,[],_,h=>h.elim
theorem split_first : ∀ {xs us : List Int},(∃ x ∈ xs,x ∈ us) → ∃ p j q,xs = p ++ j :: q ∧ (∀ x ∈ p,x ∉ us) ∧ j ∈ us
 | [],us,h=>by obtain ⟨x,hx,_⟩:=h;cases hx
 | x :: xs,us,h=>by
  by_cases c : x ∈ us
  ·exact ⟨[],x,xs,rfl,fun z hz=>absurd hz List.not_mem_nil,c⟩
  obtain ⟨z,hz,hz2⟩:=h
  rcases List.mem_cons.1 hz with rfl|hz
  ·exact absurd hz2 c
  obtain ⟨p,j,q,h1,h2,h3⟩:=split_first ⟨z,hz,hz2⟩
  refine ⟨x :: p,j,q,by rw [h1];rfl,fun w hw=>?_,h3⟩
  rcases List.mem_cons.1 hw with rfl|hw
  ·exact c
  exact h2 w hw
theorem rd_at_len {p q : List Int} {j : Int} : rd (p ++ j :: q) p.length = j:=by
 unfold rd
 simp
theorem rd_left {p q : List Int} {k : Int} (hk : inR k p.length) : rd (p ++ q) k = rd p k:=by
 unfold rd
 have h : k.toNat < p.length:=by have:=hk.1;have:=hk.2;omega
 simp [List.getElem?_append,h]
theorem idxF_is {ws : List Int} {j : Int} {q : List Int} : ∀ {p pre : List Int} {k : Nat},p.length < k → (∀ x ∈ p,x ∉ ws) → j ∈ ws → idxF (pre ++ (p ++ j :: q)) ws k pre.length = some ((pre.length : Int) + p.length)
 | [],pre,k,hk,_,hj=>by
  obtain ⟨k,rfl⟩ : ∃ z,k = z + 1:=⟨k - 1,by omega⟩
  rw [idxF,if_pos ⟨by omega,by simp;omega⟩]
  show (if rd (pre ++ j :: q) pre.length ∈ ws then _ else _) = _
  rw [rd_at_len,if_pos hj]
  simp
 | x :: p,pre,k,hk,hp,hj=>by
  obtain ⟨k,rfl⟩ : ∃ z,k = z + 1:=⟨k - 1,by omega⟩
  have e : pre ++ (x :: p ++ j :: q) = (pre ++ [x]) ++ (p ++ j :: q):=by simp
  have r : rd (pre ++ (x :: p ++ j :: q)) pre.length = x:=by
   show rd (pre ++ x :: (p ++ j :: q)) pre.length = x
   exact rd_at_len
  rw [List.length_cons] at hk
  rw [idxF,if_pos ⟨by omega,by simp;omega⟩,r,if_neg (hp x List.mem_cons_self),e]
  have:=idxF_is (ws:=ws) (j:=j) (q:=q) (p:=p) (pre:=pre ++ [x]) (k:=k) (by omega) (fun z hz=>hp z (List.mem_cons_of_mem _ hz)) hj
  rw [List.length_append,List.length_singleton] at this
  rw [show ((pre.length : Int) + 1) = ((pre.length + 1 : Nat) : Int) by omega,this,List.length_cons]
  exact congrArg some (by omega)
theorem dnF_is {bk q : List Int} : ∀ {w : List Int} {f : Nat} {m l : List Int},w.length < f → dnF bk (w.reverse ++ q) f ((w.length : Int) - 1) m l = (m ++ w,l ++ w.map (rd bk))
 | [],f,m,l,hf=>by
  obtain ⟨f,rfl⟩ : ∃ z,f = z + 1:=⟨f - 1,by omega⟩
  rw [dnF,if_neg (by simp)]
  simp
 | x :: w,f,m,l,hf=>by
  obtain ⟨f,rfl⟩ : ∃ z,f = z + 1:=⟨f - 1,by omega⟩
  rw [List.length_cons] at hf
  have e : ((x :: w).length : Int) - 1 = (w.length : Int):=by rw [List.length_cons];omega
  have r : rd ((x :: w).reverse ++ q) (w.length : Int) = x:=by
   have : (x :: w).reverse ++ q = w.reverse ++ x :: q:=by simp
   rw [this]
   have:=rd_at_len (p:=w.reverse) (q:=q) (j:=x)
   rw [List.length_reverse] at this
   exact this
  rw [dnF,e,if_pos (by omega),r]
  have:=dnF_is (bk:=bk) (q:=x :: q) (w:=w) (f:=f) (m:=m ++ [x]) (l:=l ++ [rd bk x]) (by omega)
  rw [show (x :: w).reverse ++ q = w.reverse ++ x :: q by simp,this]
  simp
theorem upF_is {bk q : List Int} {j : Int} : ∀ {p pre : List Int} {f : Nat} {m l : List Int},p.length < f → j ∉ p → upF bk (pre ++ (p ++ j :: q)) j f pre.length m l = some (m ++ p,l ++ p.map (rd bk))
 | [],pre,f,m,l,hf,hj=>by
  obtain ⟨f,rfl⟩ : ∃ z,f = z + 1:=⟨f - 1,by omega⟩
  rw [upF,if_pos ⟨by omega,by simp;omega⟩]
  show (if rd (pre ++ j :: q) pre.length = j then _ else _) = _
  rw [rd_at_len,if_pos rfl]
  simp
 | x :: p,pre,f,m,l,hf,hj=>by
  obtain ⟨f,rfl⟩ : ∃ z,f = z + 1:=⟨f - 1,by omega⟩
  rw [List.length_cons] at hf
  have e : pre ++ (x :: p ++ j :: q) = (pre ++ [x]) ++ (p ++ j :: q):=by simp
  have r : rd (pre ++ (x :: p ++ j :: q)) pre.length = x:=by
   show rd (pre ++ x :: (p ++ j :: q)) pre.length = x
   exact rd_at_len
  have hx : x ≠ j:=fun z=>hj (z ▸ List.mem_cons_self)
  rw [upF,if_pos ⟨by omega,by simp;omega⟩,r,if_neg hx,e]
  have:=upF_is (bk:=bk) (q:=q) (j:=j) (p:=p) (pre:=pre ++ [x]) (f:=f) (m:=m ++ [x]) (l:=l ++ [rd bk x]) (by omega) (fun z=>hj (List.mem_cons_of_mem _ z))
  rw [List.length_append,List.length_singleton] at this
  rw [show ((pre.length : Int) + 1) = ((pre.length + 1 : Nat) : Int) by omega,this]
  simp
theorem dnS_is {ah : List S77} {q : List Int} : ∀ {w : List Int} {f : Nat} {m : List Int} {l : List S77},w.length < f → dnS ah (w.reverse ++ q) f ((w.length : Int) - 1) m l = (m ++ w,l ++ w.map (rd_T77 ah))
 | [],f,m,l,hf=>by
  obtain ⟨f,rfl⟩ : ∃ z,f = z + 1:=⟨f - 1,by omega⟩
  rw [dnS,if_neg (by simp)]
  simp
 | x :: w,f,m,l,hf=>by
  obtain ⟨f,rfl⟩ : ∃ z,f = z + 1:=⟨f - 1,by omega⟩
  rw [List.length_cons] at hf
  have e : ((x :: w).length : Int) - 1 = (w.length : Int):=by rw [List.length_cons];omega
  have r : rd ((x :: w).reverse ++ q) (w.length : Int) = x:=by
   have : (x :: w).reverse ++ q = w.reverse ++ x :: q:=by simp
   rw [this]
   have:=rd_at_len (p:=w.reverse) (q:=q) (j:=x)
   rw [List.length_reverse] at this
   exact this
  rw [dnS,e,if_pos (by omega),r]
  have:=dnS_is (ah:=ah) (q:=x :: q) (w:=w) (f:=f) (m:=m ++ [x]) (l:=l ++ [rd_T77 ah x]) (by omega)
  rw [show (x :: w).reverse ++ q = w.reverse ++ x :: q by simp,this]
  simp
theorem upS_is {ah : List S77} {q : List Int} : ∀ {p pre : List Int} {f : Nat} {m : List Int} {l : List S77} {kk : Int},kk = (pre.length : Int) + p.length → p.length < f → upS ah (pre ++ (p ++ q)) kk f pre.length m l = (m ++ p,l ++ p.map fun x=>swp (rd_T77 ah x))
 | [],pre,f,m,l,kk,hkk,hf=>by
  obtain ⟨f,rfl⟩ : ∃ z,f = z + 1:=⟨f - 1,by omega⟩
  rw [upS,if_neg (by rw [hkk];simp)]
  simp
 | x :: p,pre,f,m,l,kk,hkk,hf=>by
  obtain ⟨f,rfl⟩ : ∃ z,f = z + 1:=⟨f - 1,by omega⟩
  rw [List.length_cons] at hf hkk
  have e : pre ++ (x :: p ++ q) = (pre ++ [x]) ++ (p ++ q):=by simp
  have r : rd (pre ++ (x :: p ++ q)) pre.length = x:=by
   show rd (pre ++ x :: (p ++ q)) pre.length = x
   exact rd_at_len
  rw [upS,if_pos (by omega),r,e]
  have:=upS_is (ah:=ah) (q:=q) (p:=p) (pre:=pre ++ [x]) (f:=f) (m:=m ++ [x]) (l:=l ++ [swp (rd_T77 ah x)]) (kk:=kk) (by rw [hkk,List.length_append,List.length_singleton];omega) (by omega)
  rw [List.length_append,List.length_singleton] at this
  rw [show ((pre.length : Int) + 1) = ((pre.length + 1 : Nat) : Int) by omega,this]
  simp
end Go.Proofs.Ytnffimpoekjkpaa.QFnExactRounds
/- The solver's plain law: the ring that two ways of one tree close is a ring. -/
namespace Go.Proofs.Ytnffimpoekjkpaa.QFnExactRounds
open Go.RowKit Go.Proofs.YtnffimpoekjkpaaW.PrintWords Go.Proofs.YtnffimpoekjkpaaW.PrintLast Go.Proofs.YtnffimpoekjkpaaW.PrintMore
set_option linter.unusedVariables false
set_option linter.unusedSimpArgs false
set_option linter.unusedSectionVars false
theorem getLast_of {l u : List Int} {x : Int} (h : l = u ++ [x]) {k : l ≠ []} : l.getLast k = x:=by
 subst h
 simp
/-- A ring of tops, not yet folded. -/
structure RingT (es : List S51) (y : List Int) (nd : List S60) (mem lk : List Int) (j : Int) : Prop where
 len : lk.length = mem.length
 odd : (mem.length : Int) % 2 = 1
 three : 3 ≤ mem.length
 nod : mem.Nodup
 tops : ∀ m ∈ mem,Top nd m
 jm : j ∈ mem
 lnk : ∀ k,inR k mem.length → inR (rd lk k) es.length ∧ slE y nd (rd_T51 es (rd lk k)) = 0 ∧ ((topI nd (rd_T51 es (rd lk k)).f0 = rd mem k ∧ topI nd (rd_T51 es (rd lk k)).f1 = rd mem ((k + 1) % mem.length)) ∨ (topI nd (rd_T51 es (rd lk k)).f0 = rd mem ((k + 1) % mem.length) ∧ topI nd (rd_T51 es (rd lk k)).f1 = rd mem k))
 mt : ∀ m ∈ mem,m ≠ j → (rd_T60 nd m).f3 ≠ -1 ∧ mt nd es m ∈ mem ∧ mt nd es m ≠ j
section
variable {N most : Int} {es : List S51} {D : Int} {y : List Int} {nd nd' nd2 : List S60} {rn : List S55} {mts : List S77} {lb ah bk : List Int} {rk : Int → Nat} {K : Nat} {t : TI} {r a : Int}
theorem Lab.sum3 (L : Lab es y nd lb ah bk rk K) {i : Int} (hn : inR i nd.length) (hl : rd lb i ≠ 0) (h : rd ah i ≠ -1) : rd lb i + rd lb (rd ah i) = 3:=by
 rcases L.dom i hn with k|k|k
 ·exact absurd k hl
 ·rcases L.ev i hn k with ⟨_,e⟩|⟨_,e1,e2,_⟩
  ·exact absurd e h
  rw [k,e1,e2];rfl
 rw [k,(L.od i hn k).2.1];rfl
/-- An edge, tight, between two tops. -/
def Tgt (es : List S51) (y : List Int) (nd : List S60) (e a b : Int) : Prop:=inR e es.length ∧ slE y nd (rd_T51 es e) = 0 ∧ ((topI nd (rd_T51 es e).f0 = a ∧ topI nd (rd_T51 es e).f1 = b) ∨ (topI nd (rd_T51 es e).f0 = b ∧ topI nd (rd_T51 es e).f1 = a))
theorem Tgt.symm {e a b : Int} (h : Tgt es y nd e a b) : Tgt es y nd e b a:=⟨h.1,h.2.1,h.2.2.symm⟩
theorem Lab.step (g : Gph N most es) (hi : Inv N most es D y nd) (L : Lab es y nd lb ah bk rk K) {i : Int} (hn : inR i nd.length) (hl : rd lb i ≠ 0) (h : rd ah i ≠ -1) : Tgt es y nd (rd bk i) i (rd ah i):=by
 rcases L.dom i hn with k|k|k
 ·exact absurd k hl
 ·rcases L.ev i hn k with ⟨_,e⟩|⟨e0,e1,e2,e3,_⟩
  ·exact absurd e h
  have p:=hi.pair g (L.top i hn hl) e0
  rw [e1,e3]
  exact ⟨p.ei,p.sl,p.j⟩
 have O:=L.od i hn k
 exact ⟨O.2.2.2.1,O.2.2.2.2.1,O.2.2.2.2.2.1.symm⟩
theorem Way.next {n : Int} {l : List Int} (w : Way ah n l) : ∀ {u v : List Int} {x z : Int},l = u ++ x :: z :: v → rd ah x = z ∧ rd ah x ≠ -1:=by
 induction w with
 | last h =>
  intro u v x z e
  have:=congrArg List.length e
  simp at this
  omega
 | more h w ih =>
  intro u v x z e
  cases u with
  | nil =>
   have e1:=List.cons.inj e
   obtain ⟨l',e2⟩:=w.head
   rw [e2] at e1
   have:=(List.cons.inj e1.2).1
   exact ⟨by rw [← e1.1];exact this,by rw [← e1.1];exact h⟩
  | cons x2 u =>
   have e1:=List.cons.inj e
   exact ih e1.2
theorem Way.par (L : Lab es y nd lb ah bk rk K) (g : Gph N most es) (hi : Inv N most es D y nd) {j : Int} {q : List Int} {n : Int} {l : List Int} (w : Way ah n l) : ∀ {p : List Int},l = p ++ j :: q → inR n nd.length → rd lb n ≠ 0 → (rd lb n + rd lb j + p.length) % 2 = 0:=by
 induction w with
 | last h =>
  intro p e hn hl
  cases p with
  | nil=>rw [(List.cons.inj e).1,List.length_nil];omega
  | cons x p=>have:=congrArg List.length e;simp at this <;> omega
 | more h w ih =>
  intro p e hn hl
  cases p with
  | nil=>rw [(List.cons.inj e).1,List.length_nil];omega
  | cons x p =>
   have q:=L.ahead g hi hn hl h
   have:=ih (List.cons.inj e).2 q.1 q.2.1
   have:=L.sum3 hn hl h
   rw [List.length_cons]
   omega
/-- Down a way turned over. -/
theorem Way.down {J : Int → Int → Int → Prop} {n : Int} {l : List Int} (w : Way ah n l) (hJ : ∀ x ∈ l,rd ah x ≠ -1 → J (rd bk x) (rd ah x) x) : ∀ {v : List Int} {j : Int} {q : List Int},l = v.reverse ++ j :: q → Pth J j v (v.map (rd bk))
 | [],j,q,e=>trivial
 | x :: v,j,q,e=>by
  have e2 : l = v.reverse ++ x :: j :: q:=by rw [e];simp
  obtain ⟨h1,h2⟩:=w.next e2
  have:=hJ x (by rw [e2];simp) h2
  rw [h1] at this
  exact ⟨this,Way.down w hJ e2⟩
/-- Up a way. -/
theorem Way.up {J : Int → Int → Int → Prop} {j : Int} {q : List Int} : ∀ {p : List Int} {n : Int} {l : List Int},Way ah n l → (∀ x ∈ l,rd ah x ≠ -1 → J (rd bk x) x (rd ah x)) → l = p ++ j :: q → ∃ v,p ++ [j] = n :: v ∧ Pth J n v (p.map (rd bk))
 | [],n,l,w,hJ,e=>by
  obtain ⟨l',e2⟩:=w.head
  rw [e2] at e
  have:=(List.cons.inj e).1
  exact ⟨[],by rw [this];rfl,trivial⟩
 | x :: p,n,l,w,hJ,e=>by
  cases w with
  | last h=>have:=congrArg List.length e;simp at this <;> omega
  | more h w =>
   have e2:=List.cons.inj e
   obtain ⟨v,v1,v2⟩:=Way.up w (fun z hz=>hJ z (List.mem_cons_of_mem _ hz)) e2.2
   refine ⟨p ++ [j],by rw [e2.1];rfl,?_⟩
   rw [v1]
   refine ⟨?_,v2⟩
   have:=hJ n List.mem_cons_self h
   rw [← e2.1];exact this
theorem fold_ring (g : Gph N most es) (hi : Inv N most es D y nd) (L : Lab es y nd lb ah bk rk K) (S : LabS es nd lb ah bk t) {e a c : Int} {xs us : List Int} (he : inR e es.length) (hs : slE y nd (rd_T51 es e) = 0)
  (ea : topI nd (rd_T51 es e).f0 = a) (ec : topI nd (rd_T51 es e).f1 = c) (hac : a ≠ c) (la : rd lb a = 1) (lc : rd lb c = 1) (wa : Way ah a xs) (wc : Way ah c us) (hrt : rd t.rt a = rd t.rt c) :
  ∃ p j q p' q',xs = p ++ j :: q ∧ us = p' ++ j :: q' ∧ (∀ x ∈ p,x ∉ us) ∧ j ∈ us ∧ j ∉ p' ∧ rd lb j = 1 ∧ RingT es y nd (j :: (p.reverse ++ p')) (p.reverse.map (rd bk) ++ e :: p'.map (rd bk)) j:=by
 have ha : inR a nd.length:=ea ▸ (hi.top_a g he).i
 have hc : inR c nd.length:=ec ▸ (hi.top_b g he).i
 have la0 : rd lb a ≠ 0:=by rw [la];decide
 have lc0 : rd lb c ≠ 0:=by rw [lc];decide
 have MA:=wa.mem g hi L ha la0
 have MC:=wc.mem g hi L hc lc0
 obtain ⟨p,j,q,e1,e2,e3⟩:=split_first (xs:=xs) (us:=us) ⟨_,wa.root_mem g hi L S ha la0,by rw [hrt];exact wc.root_mem g hi L S hc lc0⟩
 obtain ⟨p',q',e4,e5⟩:=List.eq_append_cons_of_mem e3
 have na:=wa.nodup g hi L ha la0
 have nc:=wc.nodup g hi L hc lc0
 have jx : j ∈ xs:=by rw [e1];simp
 have ja:=MA j jx
 have tp : ∀ x,(x ∈ xs ∨ x ∈ us) → Top nd x:=fun x h=>h.elim (fun h=>L.top x (MA x h).1 (MA x h).2.1) fun h=>L.top x (MC x h).1 (MC x h).2.1
 have jp : j ∉ p:=fun z=>e2 j z e3
 -- an even node that's not a root: its mate is ahead
 have ev : ∀ x,inR x nd.length → rd lb x = 1 → rd ah x ≠ -1 → (rd_T60 nd x).f3 ≠ -1 ∧ mt nd es x = rd ah x ∧ mt nd es (rd ah x) = x ∧ (rd_T60 nd (rd ah x)).f3 ≠ -1:=fun x hx h1 h2=>by
  rcases L.ev x hx h1 with ⟨_,z⟩|⟨z1,z2,_⟩
  ·exact absurd z h2
  have q:=hi.mt_ok g (L.top x hx (by rw [h1];decide)) z1
  refine ⟨z1,z2.symm,?_,?_⟩
  ·rw [z2];exact q.2.2.2
  rw [z2,q.2.2.1];exact z1
 -- the one behind a node on a way
 have last : ∀ {p : List Int} {n : Int} {l q : List Int},Way ah n l → l = p ++ j :: q → p ≠ [] → ∃ x ∈ p,rd ah x = j ∧ rd ah x ≠ -1:=fun {p n l q} w h hp=>by
  obtain ⟨p0,x,rfl⟩ : ∃ p0 x,p = p0 ++ [x]:=⟨p.dropLast,p.getLast hp,(List.dropLast_concat_getLast hp).symm⟩
  have:=w.next (u:=p0) (x:=x) (z:=j) (v:=q) (by rw [h];simp)
  exact ⟨x,by simp,this.1,this.2⟩
 have j1 : rd lb j = 1:=by
  rcases L.dom j ja.1 with h|h|h
  ·exact absurd h ja.2.1
  ·exact h
  exfalso
  have pn : p ≠ []:=fun z=>by
   obtain ⟨l',w1⟩:=wa.head
   rw [z,List.nil_append] at e1
   have:=(List.cons.inj (w1.symm.trans e1)).1
   rw [← this,la] at h;cases h
  have pn' : p' ≠ []:=fun z=>by
   obtain ⟨l',w1⟩:=wc.head
   rw [z,List.nil_append] at e4
   have:=(List.cons.inj (w1.symm.trans e4)).1
   rw [← this,lc] at h;cases h
  obtain ⟨x,x1,x2,x3⟩:=last wa e1 pn
  obtain ⟨z,z1,z2,z3⟩:=last wc e4 pn'
  have mx:=MA x (by rw [e1];exact List.mem_append_left _ x1)
  have mz:=MC z (by rw [e4];exact List.mem_append_left _ z1)
  have sx:=L.sum3 mx.1 mx.2.1 x3
  have sz:=L.sum3 mz.1 mz.2.1 z3
  rw [x2,h] at sx
  rw [z2,h] at sz
  have a1:=(ev x mx.1 (by omega) x3).2.2.1
  have a2:=(ev z mz.1 (by omega) z3).2.2.1
  rw [x2] at a1
  rw [z2] at a2
  have : x = z:=a1.symm.trans a2
  exact e2 x x1 (by rw [e4,this];exact List.mem_append_left _ z1)
 -- before `j` all is mated with its own
 have mates : ∀ {p : List Int} {n : Int} {l q : List Int},Way ah n l → l = p ++ j :: q → inR n nd.length → rd lb n = 1 → (∀ m ∈ l,inR m nd.length ∧ rd lb m ≠ 0) → l.Nodup → ∀ m ∈ p,(rd_T60 nd m).f3 ≠ -1 ∧ mt nd es m ∈ p:=fun {p n l q} w hl hn h1 hm nl m mp=>by
  have hml : m ∈ l:=by rw [hl];exact List.mem_append_left _ mp
  have hmm:=hm m hml
  obtain ⟨u,v,hp⟩:=List.append_of_mem mp
  rcases L.dom m hmm.1 with k|k|k
  ·exact absurd k hmm.2
  ·-- even: the next one
   have nx : ∃ z,rd ah m = z ∧ rd ah m ≠ -1 ∧ (z ∈ p ∨ z = j):=by
    cases v with
    | nil =>
     have:=w.next (u:=u) (x:=m) (z:=j) (v:=q) (by rw [hl,hp];simp)
     exact ⟨j,this.1,this.2,.inr rfl⟩
    | cons z v =>
     have:=w.next (u:=u) (x:=m) (z:=z) (v:=v ++ j :: q) (by rw [hl,hp];simp)
     exact ⟨z,this.1,this.2,.inl (by rw [hp];simp)⟩
   obtain ⟨z,z1,z2,z3⟩:=nx
   have E:=ev m hmm.1 k z2
   refine ⟨E.1,?_⟩
   rw [E.2.1,z1]
   refine z3.resolve_right fun c=>?_
   have:=L.sum3 hmm.1 hmm.2 z2
   rw [z1,c,j1,k] at this
   cases this
  -- odd: the one before
  have nx : ∃ x ∈ p,rd ah x = m ∧ rd ah x ≠ -1:=by
   by_cases hu : u = []
   ·exfalso
    rw [hu,List.nil_append] at hp
    obtain ⟨l',w1⟩:=w.head
    rw [hl,hp] at w1
    have:=(List.cons.inj w1).1
    rw [this,h1] at k;cases k
   obtain ⟨p0,x,rfl⟩ : ∃ p0 x,u = p0 ++ [x]:=⟨u.dropLast,u.getLast hu,(List.dropLast_concat_getLast hu).symm⟩
   have:=w.next (u:=p0) (x:=x) (z:=m) (v:=v ++ j :: q) (by rw [hl,hp];simp)
   exact ⟨x,by rw [hp];simp,this.1,this.2⟩
  obtain ⟨x,x1,x2,x3⟩:=nx
  have hx:=hm x (by rw [hl];exact List.mem_append_left _ x1)
  have sx:=L.sum3 hx.1 hx.2 x3
  rw [x2,k] at sx
  have E:=ev x hx.1 (by omega) x3
  rw [x2] at E
  exact ⟨E.2.2.2,by rw [E.2.2.1];exact x1⟩
 have mA:=mates wa e1 ha la (fun m h=>⟨(MA m h).1,(MA m h).2.1⟩) na
 have mC:=mates wc e4 hc lc (fun m h=>⟨(MC m h).1,(MC m h).2.1⟩) nc
 have px : ∀ x ∈ p,x ∈ xs:=fun x h=>by rw [e1];exact List.mem_append_left _ h
 have pu : ∀ x ∈ p',x ∈ us:=fun x h=>by rw [e4];exact List.mem_append_left _ h
 have parA:=wa.par L g hi e1 ha la0
 have parC:=wc.par L g hi e4 hc lc0
 rw [la,j1] at parA
 rw [lc,j1] at parC
 have npp : ¬(p.length = 0 ∧ p'.length = 0):=fun z=>by
  rw [List.length_eq_zero_iff.1 z.1,List.nil_append] at e1
  rw [List.length_eq_zero_iff.1 z.2,List.nil_append] at e4
  obtain ⟨l1,w1⟩:=wa.head
  obtain ⟨l2,w2⟩:=wc.head
  exact hac ((List.cons.inj (w1.symm.trans e1)).1.trans (List.cons.inj (w2.symm.trans e4)).1.symm)
 have hlen : (j :: (p.reverse ++ p')).length = 1 + p.length + p'.length:=by simp;omega
 -- the walk round
 have PTH : Pth (Tgt es y nd) j (p.reverse ++ (p' ++ [j])) (p.reverse.map (rd bk) ++ e :: p'.map (rd bk)):=by
  have w1 : Pth (Tgt es y nd) j p.reverse (p.reverse.map (rd bk)):=wa.down (fun x hx h=>(L.step g hi (MA x hx).1 (MA x hx).2.1 h).symm) (by rw [List.reverse_reverse];exact e1)
  obtain ⟨v,v1,v2⟩:=Way.up wc (fun x hx h=>L.step g hi (MC x hx).1 (MC x hx).2.1 h) e4
  refine w1.app ?_
  have hl : (j :: p.reverse).getLast (by simp) = a:=by
   obtain ⟨l1,h1⟩:=wa.head
   cases p with
   | nil =>
    rw [List.nil_append] at e1
    exact (List.cons.inj (h1.symm.trans e1)).1.symm
   | cons x p =>
    have:=(List.cons.inj (h1.symm.trans e1)).1
    rw [this]
    exact getLast_of (u:=j :: p.reverse) (by simp)
  rw [hl,v1]
  exact ⟨⟨he,hs,.inl ⟨ea,ec⟩⟩,v2⟩
 obtain ⟨at1,at2⟩:=PTH.at
 refine ⟨p,j,q,p',q',e1,e4,e2,e3,e5,j1,⟨?_,?_,?_,?_,fun m hm=>?_,List.mem_cons_self,fun k hk=>?_,fun m hm hne=>?_⟩⟩
 ·simp;omega
 ·rw [hlen];omega
 ·rw [hlen];omega
 ·rw [List.nodup_cons,List.nodup_append]
  refine ⟨fun z=>?_,?_,?_,fun x hx z hz w=>?_⟩
  ·rw [List.mem_append,List.mem_reverse] at z
   exact z.elim jp e5
  ·rw [e1,List.nodup_append] at na
   exact (List.reverse_perm p).nodup_iff.2 na.1
  ·rw [e4,List.nodup_append] at nc
   exact nc.1
  rw [List.mem_reverse] at hx
  exact e2 x hx (pu x (w ▸ hz))
 ·rw [List.mem_cons,List.mem_append,List.mem_reverse] at hm
  rcases hm with rfl|hm|hm
  ·exact tp _ (.inl jx)
  ·exact tp m (.inl (px m hm))
  exact tp m (.inr (pu m hm))
 ·have hl2 : (p.reverse.map (rd bk) ++ e :: p'.map (rd bk)).length = (j :: (p.reverse ++ p')).length:=by simp;omega
  have T:=at2 k (by rw [hl2];exact hk)
  have r1 : rd (j :: (p.reverse ++ (p' ++ [j]))) k = rd (j :: (p.reverse ++ p')) k:=by
   rw [show j :: (p.reverse ++ (p' ++ [j])) = (j :: (p.reverse ++ p')) ++ [j] by simp]
   exact rd_left hk
  have r2 : rd (p.reverse ++ (p' ++ [j])) k = rd (j :: (p.reverse ++ p')) ((k + 1) % (j :: (p.reverse ++ p')).length):=by
   rw [show p.reverse ++ (p' ++ [j]) = (p.reverse ++ p') ++ [j] by simp]
   have hk2:=hk.2
   have hk1:=hk.1
   by_cases c : k + 1 < (j :: (p.reverse ++ p')).length
   ·rw [Int.emod_eq_of_lt (by omega) c,rd_cons (by omega),show k + 1 - 1 = k by omega]
    exact rd_left ⟨hk1,by rw [List.length_cons] at c;omega⟩
   rw [show k + 1 = ((j :: (p.reverse ++ p')).length : Int) by omega,Int.emod_self]
   show rd (p.reverse ++ p' ++ [j]) k = j
   have : k = ((p.reverse ++ p').length : Int):=by rw [List.length_cons] at c hk2;omega
   rw [this]
   exact rd_at_len
  rw [r1,r2] at T
  exact T
 rw [List.mem_cons,List.mem_append,List.mem_reverse] at hm
 rw [List.mem_cons,List.mem_append,List.mem_reverse]
 rcases hm with rfl|hm|hm
 ·exact absurd rfl hne
 ·have:=mA m hm
  exact ⟨this.1,.inr (.inl this.2),fun z=>jp (z ▸ this.2)⟩
 have:=mC m hm
 exact ⟨this.1,.inr (.inr this.2),fun z=>e5 (z ▸ this.2)⟩
end
end Go.Proofs.Ytnffimpoekjkpaa.QFnExactRounds
/- The solver's plain law: a ring folded, on both sides. -/
namespace Go.Proofs.Ytnffimpoekjkpaa.QFnExactRounds
open Go.RowKit Go.Proofs.YtnffimpoekjkpaaW.PrintWords Go.Proofs.YtnffimpoekjkpaaW.PrintLast Go.Proofs.YtnffimpoekjkpaaW.PrintMore
set_option linter.unusedVariables false
set_option linter.unusedSimpArgs false
set_option linter.unusedSectionVars false
/-- A ring that has been folded, place by place. -/
structure Folded (nd nd' : List S60) (mem lk : List Int) (j : Int) : Prop where
 l : nd'.length = nd.length + 1
 o : ∀ i,inR i nd.length → i ∉ mem → rd_T60 nd' i = rd_T60 nd i
 m : ∀ i,i ∈ mem → rd_T60 nd' i = { rd_T60 nd i with f2:=(nd.length : Int),f3:=-1 }
 n : rd_T60 nd' nd.length = ⟨mem,lk,-1,(rd_T60 nd j).f3,(rd_T60 nd j).f4,0,false⟩
theorem fold_is {nd : List S60} {mem lk : List Int} {j : Int} (hm : ∀ m ∈ mem,inR m nd.length) : Folded nd (inF nd.length mem nd ++ [⟨mem,lk,-1,(rd_T60 nd j).f3,(rd_T60 nd j).f4,0,false⟩]) mem lk j:=by
 have hl : ((inF nd.length mem nd).length : Int) = nd.length:=by rw [inF_len]
 refine ⟨by rw [List.length_append,inF_len,List.length_singleton],fun i hn h=>?_,fun i h=>?_,?_⟩
 ·rw [rd60_app _ hn.1 (by rw [hl];have:=hn.2;omega),if_neg (by rw [hl];have:=hn.2;omega),inF_rd hm hn.1,if_neg h]
 ·have hn:=hm i h
  rw [rd60_app _ hn.1 (by rw [hl];have:=hn.2;omega),if_neg (by rw [hl];have:=hn.2;omega),inF_rd hm hn.1,if_pos h]
 rw [rd60_app _ (by omega) (by rw [hl];exact Int.le_refl _),if_pos hl.symm]
section
variable {N most : Int} {es : List S51} {D : Int} {y : List Int} {nd nd' nd2 : List S60} {rn : List S55} {mts : List S77} {lb ah bk : List Int} {rk : Int → Nat} {K : Nat} {t : TI} {r a j : Int} {mem lk : List Int} {ls : List S77}
section
variable (g : Gph N most es) (hi : Inv N most es D y nd) (T : RingT es y nd mem lk j) (O : Folded nd nd' mem lk j)
include g hi T O
theorem Folded.f {i : Int} (hn : inR i nd.length) : (rd_T60 nd' i).f0 = (rd_T60 nd i).f0 ∧ (rd_T60 nd' i).f1 = (rd_T60 nd i).f1 ∧ (rd_T60 nd' i).f4 = (rd_T60 nd i).f4 ∧ (rd_T60 nd' i).f5 = (rd_T60 nd i).f5 ∧ (rd_T60 nd' i).f6 = (rd_T60 nd i).f6 ∧ (rd_T60 nd' i).f2 = (if i ∈ mem then (nd.length : Int) else (rd_T60 nd i).f2):=by
 by_cases c : i ∈ mem
 ·rw [O.m i c,if_pos c];exact ⟨rfl,rfl,rfl,rfl,rfl,rfl⟩
 rw [O.o i hn c,if_neg c];exact ⟨rfl,rfl,rfl,rfl,rfl,rfl⟩
theorem Folded.lt {i : Int} (hn : inR i nd'.length) : i = nd.length ∨ inR i nd.length:=by
 rw [O.l] at hn
 by_cases c : i = nd.length
 ·exact .inl c
 exact .inr ⟨hn.1,by have:=hn.2;omega⟩
theorem Folded.ge {i : Int} (hn : inR i nd.length) : inR i nd'.length:=⟨hn.1,by rw [O.l];have:=hn.2;omega⟩
theorem Folded.nin : inR (nd.length : Int) nd'.length:=⟨by omega,by rw [O.l];omega⟩
theorem Folded.wf : WFn nd':=by
 intro i hn
 rcases O.lt g hi T hn with rfl|h
 ·rw [O.n];exact .inl rfl
 rw [(O.f g hi T h).2.2.2.2.2]
 split
 ·right;rw [O.l];have:=h.2;omega
 have:=hi.wf i h
 rw [O.l]
 omega
theorem Folded.has {i : Int} (hne : i ≠ nd.length) (hi1 : i ≠ -1) : ∀ v,inR v nd.length → hasI nd' i v = hasI nd i v:=by
 refine up_ind hi.wf fun v hv ih=>?_
 rw [hasI_step (O.wf g hi T) hi1 (O.ge g hi T hv),hasI_step hi.wf hi1 hv,(O.f g hi T hv).2.2.2.2.2]
 split
 ·rfl
 by_cases c : v ∈ mem
 ·rw [if_pos c,hasI_step (O.wf g hi T) hi1 (O.nin g hi T),if_neg (Ne.symm hne),O.n,(T.tops v c).u]
  show hasI nd' i (-1) = hasI nd i (-1)
  rw [hasI_none i hi1,hasI_none i hi1]
 rw [if_neg c]
 by_cases d : (rd_T60 nd v).f2 = -1
 ·rw [d,hasI_none i hi1,hasI_none i hi1]
 exact ih d ((up_in hi.wf hv).resolve_left d)
theorem Folded.top : ∀ v,inR v nd.length → topI nd' v = if topI nd v ∈ mem then (nd.length : Int) else topI nd v:=by
 refine up_ind hi.wf fun v hv ih=>?_
 rw [topI_step (O.wf g hi T) (O.ge g hi T hv),topI_step hi.wf hv,(O.f g hi T hv).2.2.2.2.2]
 by_cases c : v ∈ mem
 ·rw [if_pos c,if_neg (by omega),(T.tops v c).u,if_pos rfl,if_pos c]
  exact topI_of_top (O.wf g hi T) (O.nin g hi T) (by rw [O.n])
 rw [if_neg c]
 by_cases d : (rd_T60 nd v).f2 = -1
 ·rw [if_pos d,if_pos d,if_neg c]
 rw [if_neg d,if_neg d]
 exact ih d ((up_in hi.wf hv).resolve_left d)
theorem Folded.has_n {v : Int} (hv : inR v nd.length) : hasI nd' nd.length v = true ↔ topI nd v ∈ mem:=by
 rw [has_of_top (O.wf g hi T) (O.nin g hi T) (by rw [O.n]) (O.ge g hi T hv),O.top g hi T v hv]
 constructor
 ·intro h
  apply Decidable.byContradiction
  intro c
  rw [if_neg c] at h
  have:=(topI_in hi.wf hv).2
  omega
 intro h;rw [if_pos h]
theorem Folded.zsum {u v : Int} (hu : inR u nd.length) (hv : inR v nd.length) : zSum nd' u v = zSum nd u v:=by
 unfold zSum
 rw [O.l,sumI]
 have z : zOf nd' u v (nd.length : Nat) = 0:=by
  unfold zOf
  rw [O.n]
  split <;> rfl
 rw [z]
 have:=sumI_congr (f:=zOf nd' u v) (g:=zOf nd u v) (k:=nd.length) fun i h0 h1=>by
  unfold zOf
  rw [O.has g hi T (by omega) (by omega) u hu,O.has g hi T (by omega) (by omega) v hv,(O.f g hi T ⟨h0,h1⟩).2.2.2.1]
 omega
theorem Folded.sl {x : S51} (hu : inR x.f0 nd.length) (hv : inR x.f1 nd.length) : slE y nd' x = slE y nd x:=by
 unfold slE
 rw [O.zsum g hi T hu hv]
theorem Folded.tops {i : Int} : Top nd' i ↔ i = nd.length ∨ (Top nd i ∧ i ∉ mem):=by
 constructor
 ·intro h
  rcases O.lt g hi T h.i with rfl|hn
  ·exact .inl rfl
  have f:=O.f g hi T hn
  have u:=h.u
  rw [f.2.2.2.2.2] at u
  by_cases c : i ∈ mem
  ·rw [if_pos c] at u;omega
  rw [if_neg c] at u
  exact .inr ⟨⟨hn,u,f.2.2.2.2.1.symm.trans h.o⟩,c⟩
 rintro (rfl|⟨h,c⟩)
 ·exact ⟨O.nin g hi T,by rw [O.n],by rw [O.n]⟩
 have f:=O.f g hi T h.i
 exact ⟨O.ge g hi T h.i,by rw [f.2.2.2.2.2,if_neg c];exact h.u,f.2.2.2.2.1.trans h.o⟩
theorem Folded.pair_n (hm : (rd_T60 nd j).f3 ≠ -1) : mt nd es j ∉ mem ∧ Pair es y nd' nd' (rd_T60 nd j).f3 nd.length (mt nd es j):=by
 have tj:=T.tops j T.jm
 have p:=hi.pair g tj hm
 have q:=hi.mt_ok g tj hm
 have e:=hi.edge g p.ei
 have nm : mt nd es j ∉ mem:=fun z=>(T.mt _ z q.2.1).2.2 q.2.2.2
 refine ⟨nm,p.ei,by rw [O.sl g hi T e.1 e.2];exact p.sl,by have:=q.1.i.2;omega,?_,by rw [O.n],by rw [O.o _ q.1.i nm];exact q.2.2.1⟩
 rw [O.top g hi T _ e.1,O.top g hi T _ e.2]
 rcases p.j with ⟨x,z⟩|⟨x,z⟩ <;> rw [x,z,if_pos T.jm,if_neg nm]
 ·exact .inl ⟨rfl,rfl⟩
 exact .inr ⟨rfl,rfl⟩
theorem Folded.pairs {i : Int} (h : Top nd' i) (hm : (rd_T60 nd' i).f3 ≠ -1) : ∃ e q,Pair es y nd' nd' e i q:=by
 rcases (O.tops g hi T).1 h with rfl|⟨h2,c⟩
 ·rw [O.n] at hm
  exact ⟨_,_,(O.pair_n g hi T hm).2⟩
 have e0:=O.o i h2.i c
 rw [e0] at hm
 have p:=hi.pair g h2 hm
 have q:=hi.mt_ok g h2 hm
 have e:=hi.edge g p.ei
 by_cases d : mt nd es i ∈ mem
 ·have dj : mt nd es i = j:=by
   apply Decidable.byContradiction
   intro z
   have:=(T.mt _ d z).2.1
   rw [q.2.2.2] at this
   exact c this
  have hj : (rd_T60 nd j).f3 ≠ -1:=by rw [← dj,q.2.2.1];exact hm
  have P:=(O.pair_n g hi T hj).2.symm
  rw [show mt nd es j = i by rw [← dj];exact q.2.2.2] at P
  exact ⟨_,_,P⟩
 refine ⟨_,mt nd es i,p.ei,by rw [O.sl g hi T e.1 e.2];exact p.sl,p.ne,?_,by rw [e0],by rw [O.o _ q.1.i d];exact q.2.2.1⟩
 rw [O.top g hi T _ e.1,O.top g hi T _ e.2]
 rcases p.j with ⟨x,z⟩|⟨x,z⟩ <;> rw [x,z,if_neg c,if_neg d]
 ·exact .inl ⟨rfl,rfl⟩
 exact .inr ⟨rfl,rfl⟩
theorem Folded.frees {i : Int} (h : Top nd' i) (hm : (rd_T60 nd' i).f3 = -1) : (i = nd.length ∧ (rd_T60 nd j).f3 = -1 ∧ (rd_T60 nd' i).f4 = (rd_T60 nd j).f4) ∨ (Top nd i ∧ i ∉ mem ∧ (rd_T60 nd i).f3 = -1 ∧ (rd_T60 nd' i).f4 = (rd_T60 nd i).f4):=by
 rcases (O.tops g hi T).1 h with rfl|⟨h2,c⟩
 ·rw [O.n] at hm ⊢
  exact .inl ⟨rfl,hm,rfl⟩
 rw [O.o i h2.i c] at hm ⊢
 exact .inr ⟨h2,c,hm,rfl⟩
theorem Folded.inv (hsz : nd.length < 100000) (hpar : ∀ u v,inR u y.length → inR v y.length → topI nd u ∈ mem → topI nd v ∈ mem → rd y u % 2 = rd y v % 2) : Inv N most es D y nd':=by
 have hvt : ∀ {i : Int},0 ≤ i → i < N → inR i nd.length:=fun a b=>hi.vtx a b
 have F:=fun {i : Int} (hn : inR i nd.length)=>O.f g hi T hn
 refine ⟨hi.yl,by rw [O.l];have:=hi.nn;omega,by rw [O.l];omega,O.wf g hi T,fun i h0 h1=>?_,fun i hn ho=>?_,fun m hn hu=>?_,fun i h0 h1 ho=>?_,fun i h hm=>?_,fun i h hm=>?_,fun i hn=>?_,hi.yy,hi.dd,fun e he=>?_,fun u v hu hv e=>?_⟩
 ·have f:=F (hvt h0 h1)
  rw [f.1,f.2.2.1,f.2.2.2.1,f.2.2.2.2.1]
  exact hi.ver i h0 h1
 ·rcases O.lt g hi T hn with rfl|hn
  ·rw [O.n] at ho;cases ho
  have f:=F hn
  have ho2:=f.2.2.2.2.1.symm.trans ho
  have nm : i ∉ mem:=fun z=>by rw [(T.tops i z).o] at ho2;cases ho2
  rw [f.2.2.2.2.2,if_neg nm]
  exact hi.opn i hn ho2
 ·rcases O.lt g hi T hn with rfl|hn
  ·rw [O.n] at hu;exact absurd rfl hu
  have f:=F hn
  rw [f.2.2.2.2.2] at hu ⊢
  by_cases c : m ∈ mem
  ·rw [if_pos c,O.n]
   exact ⟨hi.nn,rfl,c⟩
  rw [if_neg c] at hu ⊢
  have f2:=F ((up_in hi.wf hn).resolve_left hu)
  rw [f2.1,f2.2.2.2.2.1]
  exact hi.par m hn hu
 ·have hin' : inR i nd'.length:=⟨by have:=g.n0;omega,h1⟩
  rcases O.lt g hi T hin' with rfl|hin
  ·refine ⟨by rw [O.n];exact T.odd,by rw [O.n];exact T.three,by rw [O.n];exact T.len,by rw [O.n];exact T.nod,?_,?_⟩
   ·rw [O.n]
    intro m hm
    have tm:=T.tops m hm
    exact ⟨O.ge g hi T tm.i,by rw [(F tm.i).2.2.2.2.2,if_pos hm]⟩
   rw [O.n]
   intro k hk
   have hk : inR k mem.length:=hk
   obtain ⟨k1,k2,k3⟩:=T.lnk k hk
   have e:=hi.edge g k1
   have hL : (0 : Int) < mem.length:=by have:=T.three;omega
   have q2:=mod_in (x:=k + 1) hL
   have m1:=T.tops _ (rd_mem mem _ hk.1 hk.2)
   have m2:=T.tops _ (rd_mem mem _ q2.1 q2.2)
   have hs : ∀ {m v : Int},Top nd m → inR v nd.length → topI nd v = m → hasI nd' m v = true:=fun {m v} hm hv e2=>by
    rw [O.has g hi T (by have:=hm.i.2;omega) (by have:=hm.i.1;omega) v hv]
    exact (has_of_top hi.wf hm.i hm.u hv).2 e2
   refine ⟨k1,by rw [O.sl g hi T e.1 e.2];exact k2,?_⟩
   rcases k3 with ⟨x,z⟩|⟨x,z⟩
   ·exact .inl ⟨hs m1 e.1 x,hs m2 e.2 z⟩
   exact .inr ⟨hs m1 e.2 z,hs m2 e.1 x⟩
  have f:=F hin
  have Q:=hi.ring i h0 hin.2 (f.2.2.2.2.1.symm.trans ho)
  refine ⟨by rw [f.1];exact Q.odd,by rw [f.1];exact Q.three,by rw [f.1,f.2.1];exact Q.lkl,by rw [f.1];exact Q.nod,?_,?_⟩
  ·rw [f.1]
   intro m hm
   have q:=Q.mem m hm
   have nm : m ∉ mem:=fun z=>by have:=(T.tops m z).u;rw [q.2] at this;have:=hin.1;omega
   exact ⟨O.ge g hi T q.1,by rw [(F q.1).2.2.2.2.2,if_neg nm,q.2]⟩
  rw [f.1,f.2.1]
  intro k hk
  obtain ⟨k1,k2,k3⟩:=Q.lnk k hk
  have e:=hi.edge g k1
  have hL : (0 : Int) < (rd_T60 nd i).f0.length:=by have:=Q.three;omega
  have q2:=mod_in (x:=k + 1) hL
  have m1:=Q.mem _ (rd_mem _ _ hk.1 hk.2)
  have m2:=Q.mem _ (rd_mem _ _ q2.1 q2.2)
  have ne : ∀ {m},inR m nd.length ∧ (rd_T60 nd m).f2 = i → m ≠ nd.length ∧ m ≠ -1:=fun q=>⟨by have:=q.1.2;omega,by have:=q.1.1;omega⟩
  refine ⟨k1,by rw [O.sl g hi T e.1 e.2];exact k2,?_⟩
  unfold Joins at k3 ⊢
  rw [O.has g hi T (ne m1).1 (ne m1).2 _ e.1,O.has g hi T (ne m1).1 (ne m1).2 _ e.2,O.has g hi T (ne m2).1 (ne m2).2 _ e.1,O.has g hi T (ne m2).1 (ne m2).2 _ e.2]
  exact k3
 ·obtain ⟨e,q,p⟩:=O.pairs g hi T h hm
  exact p.self_ok
 ·rcases O.frees g hi T h hm with ⟨rfl,h2,h3⟩|⟨h1,h2,h3,h4⟩
  ·have G:=hi.free j (T.tops j T.jm) h2
   have hin:=hvt G.v.1 G.v.2
   refine ⟨by rw [h3];exact G.v,?_,fun q hq k=>?_,by rw [h3];exact G.yv⟩
   ·rw [h3]
    refine (O.has_n g hi T hin).2 ?_
    rw [(has_of_top hi.wf (T.tops j T.jm).i (T.tops j T.jm).u hin).1 G.h]
    exact T.jm
   rw [h3] at k ⊢
   rcases O.lt g hi T hq with rfl|hq
   ·exact h3
   rw [O.has g hi T (by have:=hq.2;omega) (by have:=hq.1;omega) _ hin] at k
   rw [(F hq).2.2.1]
   exact G.b q hq k
  have G:=hi.free i h1 h3
  have hin:=hvt G.v.1 G.v.2
  refine ⟨by rw [h4];exact G.v,?_,fun q hq k=>?_,by rw [h4];exact G.yv⟩
  ·rw [h4,O.has g hi T (by have:=h1.i.2;omega) (by have:=h1.i.1;omega) _ hin];exact G.h
  rw [h4] at k ⊢
  rcases O.lt g hi T hq with rfl|hq
  ·have:=(O.has_n g hi T hin).1 k
   rw [(has_of_top hi.wf h1.i h1.u hin).1 G.h] at this
   exact absurd this h2
  rw [O.has g hi T (by have:=hq.2;omega) (by have:=hq.1;omega) _ hin] at k
  rw [(F hq).2.2.1]
  exact G.b q hq k
 ·rcases O.lt g hi T hn with rfl|hn
  ·rw [O.n]
   have:=hi.dd
   exact ⟨Int.le_refl 0,rfl,by show (0 : Int) ≤ _;omega⟩
  rw [(F hn).2.2.2.1]
  exact hi.zz i hn
 ·have hin:=hi.edge g he
  rw [O.sl g hi T hin.1 hin.2]
  exact hi.sl e he
 have a1 : inR u nd.length:=hi.vtx hu.1 (by have:=hi.yl;have:=hu.2;omega)
 have b1 : inR v nd.length:=hi.vtx hv.1 (by have:=hi.yl;have:=hv.2;omega)
 rw [O.top g hi T u a1,O.top g hi T v b1] at e
 have l1:=(topI_in hi.wf a1).2
 have l2:=(topI_in hi.wf b1).2
 by_cases c : topI nd u ∈ mem <;> by_cases d : topI nd v ∈ mem
 ·exact hpar u v hu hv c d
 ·rw [if_pos c,if_neg d] at e;omega
 ·rw [if_neg c,if_pos d] at e;omega
 rw [if_neg c,if_neg d] at e
 exact hi.pa u v hu hv e
end
end
end Go.Proofs.Ytnffimpoekjkpaa.QFnExactRounds
/- The solver's plain law: a ring folded, the reference's side. -/
namespace Go.Proofs.Ytnffimpoekjkpaa.QFnExactRounds
open Go.RowKit Go.Proofs.YtnffimpoekjkpaaW.PrintWords Go.Proofs.YtnffimpoekjkpaaW.PrintLast Go.Proofs.YtnffimpoekjkpaaW.PrintMore
set_option linter.unusedVariables false
set_option linter.unusedSimpArgs false
set_option linter.unusedSectionVars false
theorem mem_innF {nd : List S60} {ring : List Int} {x : S77} : ∀ {l : List S77},x ∈ innF nd ring l ↔ x ∈ l ∧ ¬(topI nd x.f0 ∈ ring ∧ topI nd x.f1 ∈ ring)
 | []=>by rw [innF];exact ⟨fun h=>absurd h List.not_mem_nil,fun h=>h.1⟩
 | z :: l=>by
  rw [innF]
  split
  ·rename_i c
   rw [List.mem_cons,mem_innF]
   constructor
   ·rintro ⟨h,k⟩;exact ⟨.inr h,k⟩
   rintro ⟨rfl|h,k⟩
   ·exact absurd c k
   exact ⟨h,k⟩
  rename_i c
  rw [List.mem_cons,List.mem_cons,mem_innF]
  constructor
  ·rintro (rfl|h)
   ·exact ⟨.inl rfl,c⟩
   exact ⟨.inr h.1,h.2⟩
  rintro ⟨rfl|h,k⟩
  ·exact .inl rfl
  exact .inr ⟨h,k⟩
theorem innF_nod {nd : List S60} {ring : List Int} : ∀ {l : List S77},l.Nodup → (innF nd ring l).Nodup
 | [],h=>h
 | z :: l,h=>by
  have h2:=List.nodup_cons.1 h
  rw [innF]
  split
  ·exact innF_nod h2.2
  exact List.nodup_cons.2 ⟨fun k=>h2.1 (mem_innF.1 k).1,innF_nod h2.2⟩
section
variable {N most : Int} {es : List S51} {D : Int} {y : List Int} {nd nd' nd2 : List S60} {rn : List S55} {mts : List S77} {lb ah bk : List Int} {rk : Int → Nat} {K : Nat} {t : TI} {r a j : Int} {mem lk : List Int} {ls : List S77}
theorem fold_rel (g : Gph N most es) (hi : Inv N most es D y nd) (hr : RelN es nd rn) (hm : MRel es nd mts) (hd : mts.Nodup) (hb : BRel nd rn) (T : RingT es y nd mem lk j) (O : Folded nd nd' mem lk j) (hl : ls.length = lk.length) (hls : ∀ k,inR k lk.length → LinkIs es (rd lk k) (rd_T77 ls k)) :
  RelN es nd' (upsF nd.length mem (rn ++ [⟨mem,ls,baseS rn mts j,0,-1,false⟩])) ∧ MRel es nd' (innF (cvs rn) mem mts) ∧ (innF (cvs rn) mem mts).Nodup ∧ BRel nd' (upsF nd.length mem (rn ++ [⟨mem,ls,baseS rn mts j,0,-1,false⟩])):=by
 have hmr : ∀ m ∈ mem,inR m (rn ++ [(⟨mem,ls,baseS rn mts j,0,-1,false⟩ : S55)]).length:=fun m h=>by
  have:=(T.tops m h).i
  rw [List.length_append,hr.l,List.length_singleton]
  exact ⟨this.1,by have:=this.2;omega⟩
 have nn : (nd.length : Int) ∉ mem:=fun z=>by have:=(T.tops _ z).i.2;omega
 have rA : ∀ {i : Int},0 ≤ i → i ≤ nd.length → rd_T55 (rn ++ [(⟨mem,ls,baseS rn mts j,0,-1,false⟩ : S55)]) i = if i = nd.length then ⟨mem,ls,baseS rn mts j,0,-1,false⟩ else rd_T55 rn i:=fun {i} h0 h1=>by
  rw [rd55_app _ h0 (by rw [hr.l];exact h1),hr.l]
 have rU : ∀ {i : Int},0 ≤ i → i ≤ nd.length → rd_T55 (upsF nd.length mem (rn ++ [⟨mem,ls,baseS rn mts j,0,-1,false⟩])) i = if i = nd.length then ⟨mem,ls,baseS rn mts j,0,-1,false⟩ else if i ∈ mem then { rd_T55 rn i with f4:=(nd.length : Int) } else rd_T55 rn i:=fun {i} h0 h1=>by
  rw [upsF_rd hmr h0,rA h0 h1]
  by_cases c : i = nd.length
  ·rw [if_pos c,if_pos c,if_neg (by rw [c];exact nn)]
  rw [if_neg c,if_neg c]
 have tv : ∀ x ∈ mts,topI (cvs rn) x.f0 = topI nd x.f0 ∧ topI (cvs rn) x.f1 = topI nd x.f1:=fun x hx=>by
  have:=hm.in g hi.nn x hx
  exact ⟨hr.top hi.wf this.1,hr.top hi.wf this.2⟩
 have MM : ∀ x,x ∈ innF (cvs rn) mem mts ↔ x ∈ mts ∧ ¬(topI nd x.f0 ∈ mem ∧ topI nd x.f1 ∈ mem):=fun x=>by
  rw [mem_innF]
  constructor
  ·rintro ⟨h1,h2⟩;have:=tv x h1;rw [this.1,this.2] at h2;exact ⟨h1,h2⟩
  rintro ⟨h1,h2⟩;have:=tv x h1;rw [this.1,this.2];exact ⟨h1,h2⟩
 have OLD : ∀ i,Top nd i → (rd_T60 nd i).f3 ≠ -1 → i ∉ mem → ∃ p q,Pair es y nd' nd' (rd_T60 nd i).f3 p q:=fun i h1 h2 c=>by
  have e0:=O.o i h1.i c
  obtain ⟨e,q,p⟩:=O.pairs g hi T ((O.tops g hi T).2 (.inr ⟨h1,c⟩)) (by rw [e0];exact h2)
  have:=p.a
  rw [e0] at this
  rw [this]
  exact ⟨_,_,p⟩
 refine ⟨⟨by rw [upsF_len,List.length_append,List.length_singleton,hr.l,O.l],fun i hn=>?_⟩,⟨fun x hx=>?_,fun i h q=>?_⟩,innF_nod hd,fun s hs hs3 i hn hv3=>?_⟩
 ·rcases O.lt g hi T hn with rfl|hn
  ·rw [O.n,rU (by omega) (Int.le_refl _),if_pos rfl]
   exact ⟨rfl,hl,hls,rfl,rfl,rfl⟩
  have Y:=hr.n i hn
  rw [rU hn.1 (by have:=hn.2;omega),if_neg (by have:=hn.2;omega)]
  by_cases c : i ∈ mem
  ·rw [if_pos c,O.m i c]
   exact ⟨Y.mem,Y.ll,Y.lk,Y.zz,rfl,Y.op⟩
  rw [if_neg c,O.o i hn c];exact Y
 ·obtain ⟨h1,h2⟩:=(MM x).1 hx
  obtain ⟨e1,e2,e3,e4,e5,e6⟩:=hm.a x h1
  have hv2:=e3.vtx g e2
  have t0:=hi.top_v hv2.1.1 hv2.1.2
  have t1:=hi.top_v hv2.2.1.1 hv2.2.1.2
  by_cases c : topI nd x.f0 ∈ mem
  ·obtain ⟨p,q,P⟩:=OLD _ t1 (by rw [e6];have:=e2.1;omega) (fun z=>h2 ⟨c,z⟩)
   rw [e6] at P
   exact P.self_link e3
  obtain ⟨p,q,P⟩:=OLD _ t0 (by rw [e5];have:=e2.1;omega) c
  rw [e5] at P
  exact P.self_link e3
 ·rcases (O.tops g hi T).1 h with rfl|⟨h2,c⟩
  ·rw [O.n] at q ⊢
   have tj:=T.tops j T.jm
   obtain ⟨l,l1,l2⟩:=hm.b j tj q
   refine ⟨l,(MM l).2 ⟨l1,fun z=>?_⟩,l2⟩
   have nm:=(O.pair_n g hi T q).1
   have J:=Joins.or l2 (hi.pair g tj q).j
   rcases J with ⟨x,w⟩|⟨x,w⟩ <;> rw [x,w] at z
   ·exact nm z.2
   exact nm z.1
  rw [O.o i h2.i c] at q ⊢
  obtain ⟨l,l1,l2⟩:=hm.b i h2 q
  refine ⟨l,(MM l).2 ⟨l1,fun z=>?_⟩,l2⟩
  have J:=Joins.or l2 (hi.pair g h2 q).j
  rcases J with ⟨x,w⟩|⟨x,w⟩ <;> rw [x,w] at z
  ·exact c z.1
  exact c z.2
 have key : ∀ u,Top nd u → (rd_T60 nd u).f3 = -1 → (rd_T60 nd' s).f4 = (rd_T60 nd u).f4 → inR i nd.length → (rd_T55 (upsF nd.length mem (rn ++ [⟨mem,ls,baseS rn mts j,0,-1,false⟩])) i).f2 = (rd_T60 nd' s).f4:=fun u hu hu3 e4 hn2=>by
  have G:=hi.free u hu hu3
  rw [e4] at hv3 ⊢
  rw [O.has g hi T (by have:=hn2.2;omega) (by have:=hn2.1;omega) _ (hi.vtx G.v.1 G.v.2)] at hv3
  have e2 : (rd_T55 (upsF nd.length mem (rn ++ [⟨mem,ls,baseS rn mts j,0,-1,false⟩])) i).f2 = (rd_T55 rn i).f2:=by
   rw [rU hn2.1 (by have:=hn2.2;omega),if_neg (by have:=hn2.2;omega)]
   split <;> rfl
  rw [e2]
  exact hb u hu hu3 i hn2 hv3
 rcases O.frees g hi T hs hs3 with ⟨rfl,h2,h3⟩|⟨h1,h2,h3,h4⟩
 ·rcases O.lt g hi T hn with rfl|hn
  ·rw [rU (by omega) (Int.le_refl _),if_pos rfl,h3]
   show baseS rn mts j = _
   rw [base_is g hi hr hm hb (T.tops j T.jm)]
   unfold holdI
   rw [if_pos h2]
  exact key j (T.tops j T.jm) h2 h3 hn
 rcases O.lt g hi T hn with rfl|hn
 ·exfalso
  have G:=hi.free s h1 h3
  rw [h4] at hv3
  have:=(O.has_n g hi T (hi.vtx G.v.1 G.v.2)).1 hv3
  rw [(has_of_top hi.wf h1.i h1.u (hi.vtx G.v.1 G.v.2)).1 G.h] at this
  exact h2 this
 exact key s h1 h3 h4 hn
/-- All labelled tops' vertices are of one parity. -/
theorem lab_par (g : Gph N most es) (hi : Inv N most es D y nd) (L : Lab es y nd lb ah bk rk K) : ∀ (k : Nat) (i u : Int),rk i < k → inR i nd.length → rd lb i ≠ 0 → inR u y.length → topI nd u = i → rd y u % 2 = (most - D) % 2
 | 0,i,u,hk,hn,hl,hu,e=>by omega
 | k + 1,i,u,hk,hn,hl,hu,e=>by
  by_cases c : rd ah i = -1
  ·have f3 : (rd_T60 nd i).f3 = -1:=by
    rcases L.dom i hn with h|h|h
    ·exact absurd h hl
    ·rcases L.ev i hn h with ⟨z,_⟩|⟨z0,z,_⟩
     ·exact z
     rw [c] at z
     have:=(hi.mt_ok g (L.top i hn hl) z0).1.i.1
     omega
    have:=(L.od i hn h).1.1;omega
   have F:=hi.free i (L.top i hn hl) f3
   have h4 : inR (rd_T60 nd i).f4 y.length:=⟨F.v.1,by have:=hi.yl;have:=F.v.2;omega⟩
   have:=hi.pa u _ hu h4 (by rw [e];exact ((has_of_top hi.wf hn (L.top i hn hl).u (hi.vtx F.v.1 F.v.2)).1 F.h).symm)
   rw [this,F.yv]
  have q:=L.ahead g hi hn hl c
  obtain ⟨s1,s2,s3⟩:=L.step g hi hn hl c
  have ed:=g.e _ s1
  have hne : topI nd (rd_T51 es (rd bk i)).f0 ≠ topI nd (rd_T51 es (rd bk i)).f1:=fun z=>by
   have hia : i = rd ah i:=by
    rcases s3 with ⟨x,w⟩|⟨x,w⟩
    ·exact x.symm.trans (z.trans w)
    exact w.symm.trans (z.symm.trans x)
   have h2:=q.2.2
   rw [← hia] at h2
   omega
  have i0 : inR (rd_T51 es (rd bk i)).f0 y.length:=(hi.eoy g _ s1).1
  have i1 : inR (rd_T51 es (rd bk i)).f1 y.length:=(hi.eoy g _ s1).2
  have e0:=hi.edge g s1
  have zs : zSum nd (rd_T51 es (rd bk i)).f0 (rd_T51 es (rd bk i)).f1 = 0:=by
   unfold zSum
   refine sumI_zero fun m h0 h1=>if_neg fun h=>hne ?_
   have hm : inR m nd.length:=⟨h0,h1⟩
   rw [has_same_top hi.wf hm e0.1 h.1,has_same_top hi.wf hm e0.2 h.2]
  unfold slE at s2
  rw [zs] at s2
  rcases s3 with ⟨x,w⟩|⟨x,w⟩
  ·have:=hi.pa u _ hu i0 (e.trans x.symm)
   have:=lab_par g hi L k (rd ah i) _ (by omega) q.1 q.2.1 i1 w
   omega
  have:=hi.pa u _ hu i1 (e.trans w.symm)
  have:=lab_par g hi L k (rd ah i) _ (by omega) q.1 q.2.1 i0 x
  omega
end
end Go.Proofs.Ytnffimpoekjkpaa.QFnExactRounds
/- The solver's plain law: a fold on both sides, as the walks ask. -/
namespace Go.Proofs.Ytnffimpoekjkpaa.QFnExactRounds
open Go.RowKit Go.Proofs.YtnffimpoekjkpaaW.PrintWords Go.Proofs.YtnffimpoekjkpaaW.PrintLast Go.Proofs.YtnffimpoekjkpaaW.PrintMore
set_option linter.unusedVariables false
set_option linter.unusedSimpArgs false
set_option linter.unusedSectionVars false
def LkL (es : List S51) : List Int → List S77 → Prop
 | [],[]=>True
 | a :: l,b :: m=>LinkIs es a b ∧ LkL es l m
 | _,_=>False
theorem LkL.app {es : List S51} : ∀ {a a2 : List Int} {b b2 : List S77},LkL es a b → LkL es a2 b2 → LkL es (a ++ a2) (b ++ b2)
 | [],_,[],_,_,h=>h
 | _ :: _,_,_ :: _,_,h,k=>⟨h.1,LkL.app h.2 k⟩
 | [],_,_ :: _,_,h,_=>h.elim
 | _ :: _,_,[],_,h,_=>h.elim
theorem LkL.map {es : List S51} {f : Int → Int} {h : Int → S77} : ∀ {l : List Int},(∀ x ∈ l,LinkIs es (f x) (h x)) → LkL es (l.map f) (l.map h)
 | [],_=>trivial
 | x :: l,q=>⟨q x List.mem_cons_self,LkL.map fun z hz=>q z (List.mem_cons_of_mem _ hz)⟩
theorem rd77_cons {m : S77} {l : List S77} {p : Int} (hp : 0 < p) : rd_T77 (m :: l) p = rd_T77 l (p - 1):=by
 unfold rd_T77
 obtain ⟨q,e⟩ : ∃ q : Nat,p.toNat = q + 1:=⟨p.toNat - 1,by omega⟩
 rw [e,show (p - 1).toNat = q by omega,List.getD_cons_succ]
theorem LkL.at {es : List S51} : ∀ {a : List Int} {b : List S77},LkL es a b → b.length = a.length ∧ ∀ k,inR k a.length → LinkIs es (rd a k) (rd_T77 b k)
 | [],[],_=>⟨rfl,fun k hk=>absurd hk.2 (by have:=hk.1;simp;omega)⟩
 | x :: a,z :: b,h=>by
  obtain ⟨h1,h2⟩:=LkL.at h.2
  refine ⟨by rw [List.length_cons,List.length_cons,h1],fun k hk=>?_⟩
  by_cases c : k = 0
  ·subst c;exact h.1
  have hk0 : 0 < k:=by have:=hk.1;omega
  rw [rd_cons hk0,rd77_cons hk0]
  exact h2 (k - 1) ⟨by omega,by have:=hk.2;rw [List.length_cons] at this;omega⟩
 | [],_ :: _,h=>h.elim
 | _ :: _,[],h=>h.elim
theorem place_is {j : Int} {q : List Int} : ∀ (p pre : List Int) (k : Nat),p.length < k → j ∉ p → (pre.length : Int) + p.length < 1000000 → spec_l08Place.l0 k (pre ++ (p ++ j :: q)) j pre.length = some ((pre.length : Int) + p.length):=by
 intro p
 induction p with
 | nil =>
  intro pre k hk hj hl
  obtain ⟨k,rfl⟩ : ∃ z,k = z + 1:=⟨k - 1,by omega⟩
  rw [spec_l08Place.l0,if_pos (by simp;omega),if_pos (by omega)]
  show (if rd (pre ++ j :: q) pre.length = j then _ else _) = _
  rw [rd_at_len,if_pos rfl]
  simp
 | cons x p ih =>
  intro pre k hk hj hl
  obtain ⟨k,rfl⟩ : ∃ z,k = z + 1:=⟨k - 1,by omega⟩
  rw [List.length_cons] at hk hl
  have e : pre ++ (x :: p ++ j :: q) = (pre ++ [x]) ++ (p ++ j :: q):=by simp
  have r : rd (pre ++ (x :: p ++ j :: q)) pre.length = x:=by
   show rd (pre ++ x :: (p ++ j :: q)) pre.length = x
   exact rd_at_len
  have hx : x ≠ j:=fun z=>hj (z ▸ List.mem_cons_self)
  rw [spec_l08Place.l0,if_pos (by simp;omega),if_pos (by omega),r,if_neg hx,e,w64 (by omega) (by omega)]
  have:=ih (pre ++ [x]) k (by omega) (fun z=>hj (List.mem_cons_of_mem _ z)) (by rw [List.length_append,List.length_singleton];omega)
  rw [List.length_append,List.length_singleton] at this
  rw [show ((pre.length : Int) + 1) = ((pre.length + 1 : Nat) : Int) by omega,this,List.length_cons]
  exact congrArg some (by omega)
section
variable {N most : Int} {es : List S51} {D : Int} {y : List Int} {nd nd' nd2 : List S60} {rn : List S55} {mts : List S77} {lb ah bk : List Int} {rk : Int → Nat} {K : Nat} {t : TI} {r a j : Int} {mem lk : List Int} {ls : List S77}
theorem Way.wayF' (g : Gph N most es) (hi : Inv N most es D y nd) (L : Lab es y nd lb ah bk rk K) {n : Int} {l : List Int} (w : Way ah n l) : inR n nd.length → rd lb n ≠ 0 → ∀ k,l.length < k → QFnExactRounds.wayF ah k n = some l:=by
 induction w with
 | @last n h =>
  intro hn hl k hk
  rw [List.length_singleton] at hk
  obtain ⟨k,rfl⟩ : ∃ q,k = q + 1 + 1:=⟨k - 2,by omega⟩
  rw [QFnExactRounds.wayF,if_neg (show ¬n = -1 by have:=hn.1;omega),if_pos (by rw [L.la];exact hn),h,QFnExactRounds.wayF,if_pos rfl]
  rfl
 | @more n l h w ih =>
  intro hn hl k hk
  rw [List.length_cons] at hk
  obtain ⟨k,rfl⟩ : ∃ q,k = q + 1:=⟨k - 1,by omega⟩
  have q:=L.ahead g hi hn hl h
  rw [QFnExactRounds.wayF,if_neg (show ¬n = -1 by have:=hn.1;omega),if_pos (by rw [L.la];exact hn),ih q.1 q.2.1 k (by omega)]
  rfl
theorem Way.wayS' (g : Gph N most es) (hi : Inv N most es D y nd) (hr : RelN es nd rn) (L : Lab es y nd lb ah bk rk K) (S : LabS es nd lb ah bk t) {n : Int} {l : List Int} (w : Way ah n l) : inR n nd.length → rd lb n ≠ 0 → ∀ k,l.length ≤ k → QFnExactRounds.wayS (cvs rn) t.ah t.rt k n = some l:=by
 induction w with
 | @last n h =>
  intro hn hl k hk
  rw [List.length_singleton] at hk
  obtain ⟨k,rfl⟩ : ∃ q,k = q + 1:=⟨k - 1,by omega⟩
  rw [QFnExactRounds.wayS,if_pos (by rw [S.lr];exact hn),if_pos (S.r0 n hn hl h)]
 | @more n l h w ih =>
  intro hn hl k hk
  rw [List.length_cons] at hk
  obtain ⟨k,rfl⟩ : ∃ q,k = q + 1:=⟨k - 1,by omega⟩
  have q:=L.ahead g hi hn hl h
  have z:=S.lk n hn hl h
  have kv:=z.1.vtx g z.2.1
  have kn:=hi.vtx kv.1.1 kv.1.2
  rw [QFnExactRounds.wayS,if_pos (by rw [S.lr];exact hn),if_neg (fun e=>h (by have:=(S.rr n hn hl).2.2;rw [e] at this;exact this)),if_pos ⟨by rw [S.la];exact hn,by rw [cvs_len,hr.l];exact kn⟩,hr.top hi.wf kn,z.2.2.1,ih q.1 q.2.1 k (by omega)]
  rfl
theorem fold_both (g : Gph N most es) (hi : Inv N most es D y nd) (hr : RelN es nd rn) (hm : MRel es nd mts) (hd : mts.Nodup) (hb : BRel nd rn) (L : Lab es y nd lb ah bk rk K) (S : LabS es nd lb ah bk t) {e a c : Int} {xs us : List Int} (he : inR e es.length) (hs : slE y nd (rd_T51 es e) = 0)
  (ea : topI nd (rd_T51 es e).f0 = a) (ec : topI nd (rd_T51 es e).f1 = c) (hac : a ≠ c) (la : rd lb a = 1) (lc : rd lb c = 1) (wa : Way ah a xs) (wc : Way ah c us) (hrt : rd t.rt a = rd t.rt c) (hsz : nd.length < 100000) (n1 n : Int) (b : Bool) :
  ∃ mem lk j i k nd',FoldR es ⟨y,nd,lb,ah,bk,n1⟩ e a c xs us mem lk i k ∧ foldI ⟨y,nd,lb,ah,bk,n1⟩ mem lk (rd xs i) = ⟨y,nd',lb,ah,bk,n1⟩ ∧
   (∃ kk lkS kw rn' mts',ShrS ⟨y,rn,mts,n,b⟩ t (rd_T51 es e) xs us i kk mem lkS kw ⟨y,rn',mts',n,b⟩ ∧ RelN es nd' rn' ∧ MRel es nd' mts' ∧ mts'.Nodup ∧ BRel nd' rn') ∧
   Inv N most es D y nd' ∧ RingT es y nd mem lk j ∧ Folded nd nd' mem lk j ∧ rd lb j = 1 ∧ (∃ p q p' q',xs = p ++ j :: q ∧ us = p' ++ j :: q' ∧ mem = j :: (p.reverse ++ p')):=by
 have ha : inR a nd.length:=ea ▸ (hi.top_a g he).i
 have hc : inR c nd.length:=ec ▸ (hi.top_b g he).i
 have la0 : rd lb a ≠ 0:=by rw [la];decide
 have lc0 : rd lb c ≠ 0:=by rw [lc];decide
 have MA:=wa.mem g hi L ha la0
 have MC:=wc.mem g hi L hc lc0
 have lenA:=wa.len g hi L ha la0
 have lenC:=wc.len g hi L hc lc0
 obtain ⟨p,j,q,p',q',e1,e4,e2,e3,e5,j1,T⟩:=fold_ring g hi L S he hs ea ec hac la lc wa wc hrt
 have O:=fold_is (nd:=nd) (lk:=p.reverse.map (rd bk) ++ e :: p'.map (rd bk)) (j:=j) fun m h=>(T.tops m h).i
 have ri : rd xs p.length = j:=by rw [e1];exact rd_at_len
 have hidx : idxF xs us (xs.length + 1) 0 = some (p.length : Int):=by
  have:=idxF_is (ws:=us) (j:=j) (q:=q) (p:=p) (pre:=[]) (k:=xs.length + 1) (by rw [e1];simp;omega) e2 e3
  rw [List.nil_append,← e1] at this
  rw [List.length_nil] at this
  have h0 : (((0 : Nat) : Int) + p.length) = p.length:=by omega
  rw [h0] at this
  exact this
 have hdn : dnF bk xs (xs.length + 1) ((p.length : Int) - 1) [j] [] = (j :: p.reverse,p.reverse.map (rd bk)):=by
  have:=dnF_is (bk:=bk) (q:=j :: q) (w:=p.reverse) (f:=xs.length + 1) (m:=[j]) (l:=[]) (by rw [e1];simp;omega)
  rw [List.reverse_reverse,← e1,List.length_reverse] at this
  rw [this];simp
 have hup : upF bk us j (us.length + 1) 0 (j :: p.reverse) (p.reverse.map (rd bk) ++ [e]) = some (j :: (p.reverse ++ p'),p.reverse.map (rd bk) ++ e :: p'.map (rd bk)):=by
  have:=upF_is (bk:=bk) (q:=q') (j:=j) (p:=p') (pre:=[]) (f:=us.length + 1) (m:=j :: p.reverse) (l:=p.reverse.map (rd bk) ++ [e]) (by rw [e4];simp;omega) e5
  rw [List.nil_append,← e4] at this
  rw [List.length_nil] at this
  refine Eq.trans this ?_
  simp
 have hdnS : dnS t.ah xs (xs.length + 1) ((p.length : Int) - 1) [j] [] = (j :: p.reverse,p.reverse.map (rd_T77 t.ah)):=by
  have:=dnS_is (ah:=t.ah) (q:=j :: q) (w:=p.reverse) (f:=xs.length + 1) (m:=[j]) (l:=[]) (by rw [e1];simp;omega)
  rw [List.reverse_reverse,← e1,List.length_reverse] at this
  rw [this];simp
 have hupS : upS t.ah us (p'.length : Int) (us.length + 1) 0 (j :: p.reverse) (p.reverse.map (rd_T77 t.ah) ++ [⟨(rd_T51 es e).f0,(rd_T51 es e).f1⟩]) = (j :: (p.reverse ++ p'),p.reverse.map (rd_T77 t.ah) ++ (⟨(rd_T51 es e).f0,(rd_T51 es e).f1⟩ :: p'.map fun x=>swp (rd_T77 t.ah x))):=by
  have:=upS_is (ah:=t.ah) (q:=j :: q') (p:=p') (pre:=[]) (f:=us.length + 1) (m:=j :: p.reverse) (l:=p.reverse.map (rd_T77 t.ah) ++ [⟨(rd_T51 es e).f0,(rd_T51 es e).f1⟩]) (kk:=p'.length) (by simp) (by rw [e4];simp;omega)
  rw [List.nil_append,← e4] at this
  rw [List.length_nil] at this
  refine Eq.trans this ?_
  simp
 have nx : ∀ {p q : List Int} {n : Int} {l : List Int},Way ah n l → l = p ++ j :: q → ∀ x ∈ p,rd ah x ≠ -1:=fun {p q n l} w h x hx=>by
  obtain ⟨u,v,hp⟩:=List.append_of_mem hx
  cases v with
  | nil=>exact (w.next (u:=u) (x:=x) (z:=j) (v:=q) (by rw [h,hp];simp)).2
  | cons z v=>exact (w.next (u:=u) (x:=x) (z:=z) (v:=v ++ j :: q) (by rw [h,hp];simp)).2
 have LK : LkL es (p.reverse.map (rd bk) ++ e :: p'.map (rd bk)) (p.reverse.map (rd_T77 t.ah) ++ (⟨(rd_T51 es e).f0,(rd_T51 es e).f1⟩ :: p'.map fun x=>swp (rd_T77 t.ah x))):=by
  refine LkL.app (LkL.map fun x hx=>?_) ⟨.inl ⟨rfl,rfl⟩,LkL.map fun x hx=>?_⟩
  ·rw [List.mem_reverse] at hx
   have mx:=MA x (by rw [e1];exact List.mem_append_left _ hx)
   exact (S.lk x mx.1 mx.2.1 (nx wa e1 x hx)).1
  have mx:=MC x (by rw [e4];exact List.mem_append_left _ hx)
  exact (S.lk x mx.1 mx.2.1 (nx wc e4 x hx)).1.swap
 obtain ⟨lkl,lkk⟩:=LK.at
 obtain ⟨r1,r2,r3,r4⟩:=fold_rel g hi hr hm hd hb T O lkl lkk
 have hinv:=O.inv g hi T hsz fun u v hu hv c1 c2=>by
  have lab : ∀ m ∈ (j :: (p.reverse ++ p')),rd lb m ≠ 0:=fun m hm2=>by
   rw [List.mem_cons,List.mem_append,List.mem_reverse] at hm2
   rcases hm2 with rfl|h|h
   ·rw [j1];decide
   ·exact (MA m (by rw [e1];exact List.mem_append_left _ h)).2.1
   exact (MC m (by rw [e4];exact List.mem_append_left _ h)).2.1
  rw [lab_par g hi L _ _ u (Nat.lt_succ_self _) (T.tops _ c1).i (lab _ c1) hu rfl,lab_par g hi L _ _ v (Nat.lt_succ_self _) (T.tops _ c2).i (lab _ c2) hv rfl]
 have e0:=hi.edge g he
 refine ⟨_,_,j,p.length,xs.length + us.length + 1,_,⟨by omega,wa.wayF' g hi L ha la0 _ (by omega),wc.wayF' g hi L hc lc0 _ (by omega),hidx,fun m h=>⟨(MA m h).1,by show inR m bk.length;rw [L.lk];exact (MA m h).1⟩,fun m h=>⟨(MC m h).1,by show inR m bk.length;rw [L.lk];exact (MC m h).1⟩,by omega,by omega,?_,fun m h=>(T.tops m h).i⟩,?_,⟨p'.length,p.reverse.map (rd_T77 t.ah) ++ (⟨(rd_T51 es e).f0,(rd_T51 es e).f1⟩ :: p'.map fun x=>swp (rd_T77 t.ah x)),xs.length + us.length + 1,_,_,⟨by omega,?_,?_,by omega,by omega,fun m h=>⟨by rw [S.la];exact (MA m h).1,by show inR m rn.length;rw [hr.l];exact (MA m h).1⟩,fun m h=>⟨by rw [S.la];exact (MC m h).1,by show inR m rn.length;rw [hr.l];exact (MC m h).1⟩,hidx,?_,?_,?_,fun m h=>?_,?_⟩,r1,r2,r3,r4⟩,hinv,T,O,j1,p,q,p',q',e1,e4,rfl⟩
 ·show upF bk us (rd xs p.length) (us.length + 1) 0 (dnF bk xs (xs.length + 1) ((p.length : Int) - 1) [rd xs p.length] []).1 ((dnF bk xs (xs.length + 1) ((p.length : Int) - 1) [rd xs p.length] []).2 ++ [e]) = _
  rw [ri,hdn]
  exact hup
 ·rw [ri];rfl
 ·show wayS (cvs rn) t.ah t.rt _ (topI (cvs rn) (rd_T51 es e).f0) = _
  rw [hr.top hi.wf e0.1,ea]
  exact wa.wayS' g hi hr L S ha la0 _ (by omega)
 ·show wayS (cvs rn) t.ah t.rt _ (topI (cvs rn) (rd_T51 es e).f1) = _
  rw [hr.top hi.wf e0.2,ec]
  exact wc.wayS' g hi hr L S hc lc0 _ (by omega)
 ·rw [ri,spec_l08Place.f]
  have:=place_is (j:=j) (q:=q') p' [] (us.length + 1) (by rw [e4];simp;omega) e5 (by rw [e4] at lenC;simp at lenC ⊢;omega)
  rw [List.nil_append,← e4] at this
  rw [List.length_nil] at this
  refine Eq.trans this (congrArg some (by omega))
 ·exact ⟨by omega,by rw [e4];simp;omega⟩
 ·rw [ri,hdnS]
  exact hupS
 ·show inR m rn.length
  rw [hr.l];exact (T.tops m h).i
 show _ = RI.mk y _ _ n b
 rw [ri,hr.l]
end
end Go.Proofs.Ytnffimpoekjkpaa.QFnExactRounds
