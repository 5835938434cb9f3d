import Derived.Test.YtnffimpoekjkpaaGreatZFnExactSolvex40g
import Derived.Test.YtnffimpoekjkpaaGreatZFnExactSolvex35
import Derived.Test.YtnffimpoekjkpaaGreatZFnExactSolvex57
import Derived.Test.YtnffimpoekjkpaaGreatZFnExactSolvex58
import Derived.Test.YtnffimpoekjkpaaGreatZFnExactSolvex64
set_option linter.all false
namespace Go.Proofs.YtnffimpoekjkpaaGreat.QFnExactSolve
open Go.RowKit Go.Proofs.YtnffimpoekjkpaaGreatW.PrintWords Go.Proofs.YtnffimpoekjkpaaGreatW.PrintLast Go.Proofs.YtnffimpoekjkpaaGreatW.PrintMore
theorem Lg' {nd : List S89} {i j : Int} (x : S89) (h0 : 0 ≤ i) (h1 : i < (nd.length : Int)) (hj : 0 ≤ j) : td' (nd.set i.toNat x) j = if j = i then x else td' nd j:=by
 unfold td'
 simp only [List.getD_eq_getElem?_getD,List.getElem?_set]
 by_cases c : j = i
 ·subst c
  rw [if_pos rfl,if_pos rfl,if_pos aa']
  rfl
 rw [if_neg aa',if_neg c]
theorem pk' {nd : List S89} {j : Int} (x : S89) (hj : 0 ≤ j) (hl : j ≤ nd.length) : td' (nd ++ [x]) j = if j = nd.length then x else td' nd j:=by
 unfold td'
 simp only [List.getD_eq_getElem?_getD]
 by_cases c : j = nd.length
 ·rw [if_pos c,List.getElem?_append_right aa',show j.toNat - nd.length = 0 by omega]
  rfl
 rw [if_neg c,List.getElem?_append_left aa']
theorem he' {l : List Int} {i j x : Int} (h0 : 0 ≤ i) (h1 : i < (l.length : Int)) (hj : 0 ≤ j) : rd (l.set i.toNat x) j = if j = i then x else rd l j:=by
 unfold rd
 simp only [List.getD_eq_getElem?_getD,List.getElem?_set]
 by_cases c : j = i
 ·subst c
  rw [if_pos rfl,if_pos rfl,if_pos aa']
  rfl
 rw [if_neg aa',if_neg c]
theorem wj' {l : List Int} {x : Int} (h : x ∈ l) : ∃ i,inR i l.length ∧ rd l i = x:=by
 obtain ⟨k,hk,e⟩:=List.getElem_of_mem h
 exact ⟨k,⟨aa',aa'⟩,by simp [rd,hk,e]⟩
theorem fg' {l : List Int} (h : l.Nodup) {i j : Int} (hi : inR i l.length) (hj : inR j l.length) (e : rd l i = rd l j) : i = j:=by
 have h1 : i.toNat < l.length:=by have:=hi.1;have:=hi.2;omega
 have h2 : j.toNat < l.length:=by have:=hj.1;have:=hj.2;omega
 have e1 : rd l i = l[i.toNat]:=by simp [rd,h1]
 have e2 : rd l j = l[j.toNat]:=by simp [rd,h2]
 rw [e1,e2] at e
 have hp:=List.pairwise_iff_getElem.1 h
 have a0:=hi.1
 have b0:=hj.1
 rcases Nat.lt_trichotomy i.toNat j.toNat with c|c|c
 ·exact absurd e (hp _ _ h1 h2 c)
 ·omega
 exact absurd e.symm (hp _ _ h2 h1 c)
theorem Jm' {l m : List Int} (hl : l.length = m.length) (h : ∀ i,inR i l.length → rd l i = rd m i) : l = m:=by
 apply List.ext_getElem hl
 intro n h1 h2
 have:=h n ⟨aa',aa'⟩
 simpa [rd,h1,h2] using this
theorem Ue' {nd : List S89} {n e : Int} : (mateAt nd n e).length = nd.length:=by rw [mateAt,List.length_set]
theorem qk' {nd : List S89} {n e : Int} : (inAt nd n e).length = nd.length:=by rw [inAt,List.length_set]
theorem Ko' {nd : List S89} {n : Int} : (di' nd n).length = nd.length:=by rw [di',List.length_set]
theorem zf' {nd : List S89} {n e j : Int} (hn : inR n nd.length) (hj : 0 ≤ j) : td' (mateAt nd n e) j = if j = n then { td' nd n with f3:=e } else td' nd j:=Lg' _ hn.1 hn.2 hj
theorem Zn' {nd : List S89} {n e j : Int} (hn : inR n nd.length) (hj : 0 ≤ j) : td' (inAt nd n e) j = if j = n then { td' nd n with f2:=e } else td' nd j:=Lg' _ hn.1 hn.2 hj
theorem qi' {nd : List S89} {n j : Int} (hn : inR n nd.length) (hj : 0 ≤ j) : td' (di' nd n) j = if j = n then { td' nd n with f6:=true } else td' nd j:=Lg' _ hn.1 hn.2 hj
theorem Qj' {n : Int} : ∀ {l : List Int} {nd : List S89},(inF n l nd).length = nd.length
 | [],nd=>rfl
 | m :: l,nd=>by rw [inF,Qj',Ue',qk']
theorem Rk' {n : Int} : ∀ {l : List Int} {nd : List S89},(∀ m ∈ l,inR m nd.length) → ∀ {j : Int},0 ≤ j → td' (inF n l nd) j = if j ∈ l then { td' nd j with f2:=n,f3:=-1 } else td' nd j
 | [],nd,_,j,hj=>by rw [inF,if_neg ia']
 | m :: l,nd,hl,j,hj=>by
  have hm:=hl m List.mem_cons_self
  rw [inF,Rk' (fun x hx=>by rw [Ue',qk'];exact hl x (List.mem_cons_of_mem _ hx)) hj,zf' (by rw [qk'];exact hm) hj,Zn' hm hj,Zn' hm hm.1]
  by_cases c : j = m
  ·subst c
   rw [if_pos rfl,if_pos rfl,if_pos List.mem_cons_self]
   split <;> rfl
  rw [if_neg c,if_neg c]
  by_cases d : j ∈ l
  ·rw [if_pos d,if_pos (List.mem_cons_of_mem _ d)]
  rw [if_neg d,if_neg (by simp [c,d])]
theorem Rl' : ∀ (l : List Int) (nd : List S89),wf' l nd = inF (-1) l nd
 | [],nd=>rfl
 | m :: l,nd=>by rw [wf',inF,Rl']
def up60 (nd nd' : List S89) : Prop:=nd'.length = nd.length ∧ ∀ j,inR j nd.length → (td' nd' j).f2 = (td' nd j).f2
theorem mf' {nd nd' : List S89} (h : up60 nd nd') (hw : WFn nd) : WFn nd' ∧ (∀ v,inR v nd.length → topI nd' v = topI nd v) ∧ ∀ a,a ≠ -1 → ∀ v,inR v nd.length → Ad' nd' a v = Ad' nd a v:=by
 have hw' : WFn nd':=by
  intro j hj
  rw [h.1] at hj ⊢
  rw [h.2 j hj]
  exact hw j hj
 refine ⟨hw',af' hw fun v hv ih=>?_,fun a ha=>af' hw fun v hv ih=>?_⟩
 ·rw [Ae' hw hv,Ae' hw' (by rw [h.1];exact hv),h.2 v hv]
  split
  ·rfl
  rename_i c
  exact ih c ((te' hw hv).resolve_left c)
 rw [Sd' hw ha hv,Sd' hw' ha (by rw [h.1];exact hv),h.2 v hv]
 split
 ·rfl
 by_cases c : (td' nd v).f2 = -1
 ·rw [c,ge' a ha,ge' a ha]
 exact ih c ((te' hw hv).resolve_left c)
theorem up60.trans {a b c : List S89} (h : up60 a b) (k : up60 b c) : up60 a c:=⟨k.1.trans h.1,fun j hj=>(k.2 j (by rw [h.1];exact hj)).trans (h.2 j hj)⟩
theorem up60.refl (a : List S89) : up60 a a:=⟨rfl,fun _ _=>rfl⟩
theorem Sl' {mem lk : List Int} {a size : Int} : ∀ {f : Nat} {k : Int} {nd : List S89},(Sf' mem lk a size f k nd).length = nd.length
 | 0,k,nd=>rfl
 | f + 1,k,nd=>by
  rw [Sf']
  split
  ·rw [Sl',Ue',Ue']
  rfl
theorem hg' {a L i j : Int} (hL : 0 < L) (hi : 0 ≤ i ∧ i < L) (hj : 0 ≤ j ∧ j < L) (h : (a + i) % L = (a + j) % L) : i = j:=by
 have h1 : (i - j) % L = 0:=by
  have:=Int.emod_emod_of_dvd
  have h2:=Int.sub_emod (a + i) (a + j) L
  rw [h,Int.sub_self,Int.zero_emod] at h2
  rw [show a + i - (a + j) = i - j by omega] at h2
  exact h2
 obtain ⟨q,hq⟩:=Int.dvd_of_emod_eq_zero h1
 have : q = 0:=by
  rcases Int.lt_trichotomy q 0 with c|c|c
  ·have:=Int.mul_le_mul_of_nonneg_left (show q ≤ -1 by omega) (show 0 ≤ L by omega);omega
  ·exact c
  have:=Int.mul_le_mul_of_nonneg_left (show 1 ≤ q by omega) (show 0 ≤ L by omega);omega
 subst this
 omega
theorem dh' {a L i : Int} (hL : 0 < L) (ha : 0 ≤ a ∧ a < L) (hi : 0 ≤ i ∧ i < L) : ∃ k,0 ≤ k ∧ k < L ∧ (a + k) % L = i:=by
 by_cases c : a ≤ i
 ·exact ⟨i - a,aa',aa',by rw [show a + (i - a) = i by omega];exact Int.emod_eq_of_lt hi.1 hi.2⟩
 exact ⟨i - a + L,aa',aa',by rw [show a + (i - a + L) = i + L by omega,Int.add_emod_right];exact Int.emod_eq_of_lt hi.1 hi.2⟩
theorem Le' {L x : Int} (hL : 0 < L) : 0 ≤ x % L ∧ x % L < L:=⟨Int.emod_nonneg _ aa',Int.emod_lt_of_pos _ hL⟩
theorem Km' {mem lk : List Int} {a : Int} (hn : mem.Nodup) (hL : 0 < mem.length) {nd : List S89} (hm : ∀ m ∈ mem,inR m nd.length) :
  ∀ (f : Nat) (k : Int) (nd' : List S89),1 ≤ k → k % 2 = 1 → (mem.length : Int) % 2 = 1 → (mem.length : Int) ≤ k + 2 * f → nd'.length = nd.length →
   (∀ j,0 ≤ j → (∀ i,k ≤ i → i < mem.length → j ≠ rd mem ((a + i) % mem.length)) → td' (Sf' mem lk a mem.length f k nd') j = td' nd' j) ∧
   (∀ i,k ≤ i → i < mem.length → td' (Sf' mem lk a mem.length f k nd') (rd mem ((a + i) % mem.length)) = { td' nd' (rd mem ((a + i) % mem.length)) with f3:=rd lk ((a + (if i % 2 = 1 then i else i - 1)) % mem.length) })
 | 0,k,nd',h1,h2,h3,h4,h5=>⟨fun j hj h=>rfl,fun i hi hl=>by omega⟩
 | f + 1,k,nd',h1,h2,h3,h4,h5=>by
  have hLi : (0 : Int) < mem.length:=by omega
  rw [Sf']
  by_cases c : k < (mem.length : Int)
  ·rw [if_pos c]
   have c2 : k + 1 < (mem.length : Int):=by omega
   have r1:=Le' (x:=a + k) hLi
   have r2:=Le' (x:=a + k + 1) hLi
   have m1:=hm _ (Vd' mem _ r1.1 r1.2)
   have m2:=hm _ (Vd' mem _ r2.1 r2.2)
   rw [← h5] at m1 m2
   have hp : rd mem ((a + k + 1) % mem.length) ≠ rd mem ((a + k) % mem.length):=by
    intro e
    have:=fg' hn ⟨r2.1,r2.2⟩ ⟨r1.1,r1.2⟩ e
    rw [show a + k + 1 = a + (k + 1) by omega] at this
    have:=hg' hLi ⟨aa',c2⟩ ⟨aa',c⟩ this
    omega
   obtain ⟨ih1,ih2⟩:=Km' (lk:=lk) (a:=a) hn hL hm f (k + 2) (mateAt (mateAt nd' (rd mem ((a + k) % mem.length)) (rd lk ((a + k) % mem.length))) (rd mem ((a + k + 1) % mem.length)) (rd lk ((a + k) % mem.length))) aa' aa' h3 aa' (by rw [Ue',Ue'];exact h5)
   have hb : ∀ {j : Int},0 ≤ j → td' (mateAt (mateAt nd' (rd mem ((a + k) % mem.length)) (rd lk ((a + k) % mem.length))) (rd mem ((a + k + 1) % mem.length)) (rd lk ((a + k) % mem.length))) j = if j = rd mem ((a + k + 1) % mem.length) ∨ j = rd mem ((a + k) % mem.length) then { td' nd' j with f3:=rd lk ((a + k) % mem.length) } else td' nd' j:=by
    intro j hj
    rw [zf' (by rw [Ue'];exact m2) hj]
    by_cases d : j = rd mem ((a + k + 1) % mem.length)
    ·rw [if_pos d,if_pos (Or.inl d),zf' m1 m2.1,if_neg hp,d]
    rw [if_neg d,zf' m1 hj]
    by_cases d2 : j = rd mem ((a + k) % mem.length)
    ·rw [if_pos d2,if_pos (.inr d2),d2]
    rw [if_neg d2,if_neg (by rintro (h|h);exact d h;exact d2 h)]
   refine ⟨fun j hj h=>?_,fun i hi hl=>?_⟩
   ·rw [ih1 j hj fun i hi hl=>h i aa' hl,hb hj,if_neg]
    rintro (e|e)
    ·exact h (k + 1) aa' c2 (by rw [e,show a + k + 1 = a + (k + 1) by omega])
    exact h k aa' c e
   by_cases d : k + 2 ≤ i
   ·rw [ih2 i d hl]
    congr 1
    have r3:=Le' (x:=a + i) hLi
    have m3:=hm _ (Vd' mem _ r3.1 r3.2)
    rw [hb m3.1,if_neg]
    rintro (e|e)
    ·have:=fg' hn ⟨r3.1,r3.2⟩ ⟨r2.1,r2.2⟩ e
     rw [show a + k + 1 = a + (k + 1) by omega] at this
     have:=hg' hLi ⟨aa',hl⟩ ⟨aa',c2⟩ this
     omega
    have:=fg' hn ⟨r3.1,r3.2⟩ ⟨r1.1,r1.2⟩ e
    have:=hg' hLi ⟨aa',hl⟩ ⟨aa',c⟩ this
    omega
   have r3:=Le' (x:=a + i) hLi
   have m3:=hm _ (Vd' mem _ r3.1 r3.2)
   rw [ih1 _ m3.1,hb m3.1]
   ·rcases (show i = k ∨ i = k + 1 by omega) with rfl|rfl
    ·rw [if_pos (.inr rfl),if_pos h2]
    rw [if_pos (.inl (by rw [show a + k + 1 = a + (k + 1) by omega])),if_neg aa',show k + 1 - 1 = k by omega]
   intro i2 hi2 hl2 e
   have r4:=Le' (x:=a + i2) hLi
   have:=fg' hn ⟨r3.1,r3.2⟩ ⟨r4.1,r4.2⟩ e
   have:=hg' hLi ⟨aa',hl⟩ ⟨aa',hl2⟩ this
   omega
  rw [if_neg c]
  exact ⟨fun j hj h=>rfl,fun i hi hl=>by omega⟩
def scE (x : S73) : Int:=90000 * x.f2 + 300 * x.f3 + x.f4
def slE (y : List Int) (nd : List S89) (x : S73) : Int:=rd y x.f0 + rd y x.f1 - 2 * scE x + Qe' nd x.f0 x.f1
structure xj' (N : Int) (x : S73) : Prop where
 a : 0 ≤ x.f0
 ab : x.f0 < x.f1
 b : x.f1 < N
 w2 : 0 ≤ x.f2 ∧ x.f2 ≤ 50
 w3 : 0 ≤ x.f3 ∧ x.f3 ≤ 50
 w4 : 0 ≤ x.f4 ∧ x.f4 ≤ 50
def ZOk (nd : List S89) : Prop:=∀ i,inR i nd.length → 0 ≤ (td' nd i).f5 ∧ (td' nd i).f5 ≤ 10000000
def YOk (y : List Int) : Prop:=∀ i,inR i y.length → 0 ≤ rd y i ∧ rd y i ≤ 10000000
theorem np' {N : Int} {x : S73} (h : xj' N x) : scI x = scE x:=by
 unfold scI scE
 have:=h.w2;have:=h.w3;have:=h.w4
 rw [w64 (i:=90000 * x.f2) aa' aa',w64 (i:=300 * x.f3) aa' aa',w64 (i:=90000 * x.f2 + 300 * x.f3) aa' aa',w64 aa' aa']
theorem yj' {N : Int} {x : S73} (h : xj' N x) : 0 ≤ scE x ∧ scE x ≤ 4515050:=by
 unfold scE
 have:=h.w2;have:=h.w3;have:=h.w4
 omega
theorem sq' {nd : List S89} {a b i : Int} : zOf nd a b i = zOf nd b a i:=by
 unfold zOf
 by_cases h1 : Ad' nd i a = true <;> by_cases h2 : Ad' nd i b = true <;> simp [h1,h2]
theorem Tl' {nd : List S89} {a b : Int} : Qe' nd a b = Qe' nd b a:=Nf' fun i _ _=>sq'
theorem op' {nd : List S89} (hz : ZOk nd) {a b i : Int} (hi : inR i nd.length) : 0 ≤ zOf nd a b i ∧ zOf nd a b i ≤ 10000000:=by
 unfold zOf
 split
 ·exact hz i hi
 omega
theorem ao' {nd : List S89} (hz : ZOk nd) (hl : nd.length ≤ 1000000) {a b : Int} : 0 ≤ Qe' nd a b ∧ Qe' nd a b ≤ 10000000000000:=by
 have h:=Jo' (nd:=nd) (a:=a) (b:=b) (Z:=10000000) fun i hi=>op' hz hi
 omega
theorem Lm' {nd : List S89} (hw : WFn nd) {n : Int} (hn : n ≠ -1) : ∀ (k : Nat) (v out : Int),0 < k → v = -1 ∨ inR v nd.length ∧ (nd.length : Int) + 1 < v + k → Ad' nd n v = false → rh' nd n k v out = some out
 | 0,v,out,hp,_,_=>absurd hp aa'
 | k + 1,v,out,hp,hk,hh=>by
  rw [rh']
  by_cases c : v = -1
  ·rw [if_pos c]
  rw [if_neg c]
  obtain ⟨hv,hk⟩:=hk.resolve_left c
  rw [Sd' hw hn hv] at hh
  split at hh
  ·cases hh
  rename_i d
  have h0:=hv.1
  have h1:=hv.2
  rw [if_pos hv,if_neg (Ne.symm d)]
  refine Lm' hw hn k _ _ aa' ?_ hh
  rcases hw v hv with h|h
  ·exact .inl h
  exact .inr ⟨⟨aa',h.2⟩,aa'⟩
theorem Sk' {nd : List S89} (hw : WFn nd) {n : Int} (hn : inR n nd.length) : Ad' nd n (td' nd n).f2 = false:=by
 rcases te' hw hn with h|h
 ·rw [h];exact ge' n Ya'
 cases e : Ad' nd n (td' nd n).f2 with
 | false=>rfl
 | true =>
  have h1:=fi' hw hn h e
  rcases hw n hn with h2|h2
  ·have:=h.1;omega
  omega
theorem Mm' {nd : List S89} (hw : WFn nd) (hz : ZOk nd) {n : Int} (hn : inR n nd.length) : ∀ (k : Nat) (v out : Int),0 < k → v = -1 ∨ inR v nd.length ∧ (nd.length : Int) + 1 < v + k → -4000000000000000000 ≤ out ∧ out ≤ 4000000000000000000 →
  rh' nd n k v out = some (out + if Ad' nd n v = true then (td' nd n).f5 else 0)
 | 0,v,out,hp,_,_=>absurd hp aa'
 | k + 1,v,out,hp,hk,ho=>by
  have hn1 : n ≠ -1:=by have:=hn.1;omega
  rw [rh']
  by_cases c : v = -1
  ·rw [if_pos c,c,ge' n hn1,if_neg ba',Int.add_zero]
  rw [if_neg c]
  obtain ⟨hv,hk⟩:=hk.resolve_left c
  have h0:=hv.1
  have h1:=hv.2
  have hk2 : (td' nd v).f2 = -1 ∨ inR (td' nd v).f2 nd.length ∧ (nd.length : Int) + 1 < (td' nd v).f2 + k:=by
   rcases hw v hv with h|h
   ·exact .inl h
   exact .inr ⟨⟨aa',h.2⟩,aa'⟩
  rw [if_pos hv,Sd' hw hn1 hv]
  by_cases d : n = v
  ·subst d
   have hzz:=hz n hn
   rw [if_pos rfl,if_pos rfl,if_pos rfl,w64 aa' aa']
   exact Lm' hw hn1 k _ _ aa' hk2 (Sk' hw hn)
  rw [if_neg d,if_neg (Ne.symm d)]
  exact Mm' hw hz hn k _ _ aa' hk2 ho
theorem Ul' {nd : List S89} (hw : WFn nd) (hz : ZOk nd) {b : Int} (hb : b = -1 ∨ inR b nd.length) : ∀ (k : Nat) (v out : Int),0 < k → v = -1 ∨ inR v nd.length ∧ (nd.length : Int) + 1 < v + k → -3000000000000000000 ≤ out ∧ out + 10000000 * k ≤ 3000000000000000000 →
  og' nd b k v out = some (out + Qe' nd v b)
 | 0,v,out,hp,_,_=>absurd hp aa'
 | k + 1,v,out,hp,hk,ho=>by
  rw [og']
  by_cases c : v = -1
  ·rw [if_pos c,c,Io',Int.add_zero]
  rw [if_neg c]
  obtain ⟨hv,hk⟩:=hk.resolve_left c
  have h0:=hv.1
  have h1:=hv.2
  have hzz:=hz v hv
  rw [if_pos hv,Mm' hw hz hv (nd.length + 2) b out aa' (hb.imp_right fun h=>⟨h,Sa'⟩) aa']
  show og' nd b k (td' nd v).f2 (out + if Ad' nd v b = true then (td' nd v).f5 else 0) = _
  rw [Ul' hw hz hb k _ _ aa' ?_ (by split <;> omega),rj' hw hv b,Int.add_assoc]
  rcases hw v hv with h|h
  ·exact .inl h
  exact .inr ⟨⟨aa',h.2⟩,aa'⟩
structure VOk (N : Int) (nd : List S89) : Prop where
 w : WFn nd
 z : ZOk nd
 v : ∀ i,0 ≤ i → i < N → (td' nd i).f5 = 0 ∧ (td' nd i).f6 = false
 o : ∀ m,inR m nd.length → (td' nd m).f2 ≠ -1 → (td' nd (td' nd m).f2).f6 = false
 l : nd.length ≤ 1000000
 nn : N ≤ nd.length
theorem ri' {N : Int} {y : List Int} {x : S73} (hx : xj' N x) (hy : YOk y) (hN : N = y.length) : Ig' y x = rd y x.f0 + rd y x.f1 - 2 * scE x:=by
 have h1:=hy x.f0 ⟨hx.a,Zb'⟩
 have h2:=hy x.f1 ⟨Bb',by have:=hx.b;omega⟩
 have h3:=yj' hx
 rw [Ig',np' hx,w64 (i:=rd y x.f0 + rd y x.f1) aa' aa',w64 (i:=2 * scE x) aa' aa',w64 aa' aa']
theorem pp' {N : Int} {y : List Int} {nd : List S89} {x : S73} (hx : xj' N x) (hy : YOk y) (hN : N = y.length) (hv : VOk N nd) : slackI y nd x = slE y nd x:=by
 have hA : inR x.f0 nd.length:=⟨hx.a,by have:=hx.ab;have:=hx.b;have:=hv.nn;omega⟩
 have hB : inR x.f1 nd.length:=⟨Bb',by have:=hx.b;have:=hv.nn;omega⟩
 have h1:=hy x.f0 ⟨hx.a,Zb'⟩
 have h2:=hy x.f1 ⟨Bb',by have:=hx.b;omega⟩
 have h3:=yj' hx
 have hl:=hv.l
 rw [slackI,Ul' hv.w hv.z (te' hv.w hB) (nd.length + 2) _ _ aa' ((te' hv.w hA).imp_right fun h=>⟨h,Sa'⟩) (by rw [ri' hx hy hN];omega),ri' hx hy hN,slE]
 show _ + Qe' nd (td' nd x.f0).f2 (td' nd x.f1).f2 = _
 rw [rj' hv.w hA x.f1,Tl' (a:=(td' nd x.f0).f2) (b:=x.f1),rj' hv.w hB (td' nd x.f0).f2,Tl' (a:=(td' nd x.f1).f2),(hv.v x.f0 hx.a Zb').1,(hv.v x.f1 hB.1 hx.b).1]
 simp
theorem Nm' {N : Int} {nd : List S89} (hv : VOk N nd) {i : Int} (hi : inR i nd.length) (ho : (td' nd i).f6 = true) {v : Int} (hvv : inR v nd.length) : Ad' nd i v = true → v = i:=by
 revert v
 have hi1 : i ≠ -1:=by have:=hi.1;omega
 have:=af' hv.w (P:=fun v=>Ad' nd i v = true → v = i) fun v hv2 ih h=>by
  rw [Sd' hv.w hi1 hv2] at h
  split at h
  ·assumption
  exfalso
  have c2 : (td' nd v).f2 ≠ -1:=fun e=>by rw [e,ge' i hi1] at h;cases h
  have e:=ih c2 ((te' hv.w hv2).resolve_left c2) h
  have h2:=hv.o v hv2 c2
  rw [e,ho] at h2
  cases h2
 exact fun {v} hvv=>this v hvv
theorem qp' {N : Int} {nd : List S89} (hv : VOk N nd) {a b : Int} (ha : inR a nd.length) (hb : inR b nd.length) (hab : a ≠ b) : ∀ (k : Nat) (i s : Int),0 ≤ i → (nd.length : Int) < i + k → -3000000000000000000 ≤ s ∧ s + 10000000 * (nd.length - i) ≤ 3000000000000000000 →
  slS nd a b k i s + We' (zOf nd a b) i.toNat = s + Qe' nd a b ∨ (nd.length : Int) < i
 | 0,i,s,h0,hk,hs=>.inr aa'
 | k + 1,i,s,h0,hk,hs=>by
  by_cases c0 : (nd.length : Int) < i
  ·exact .inr c0
  refine .inl ?_
  rw [slS]
  by_cases c : i < (nd.length : Int)
  ·rw [if_pos c]
   have hi : inR i nd.length:=⟨h0,c⟩
   have hzz:=hv.z i hi
   have e : (if (td' nd i).f6 = false ∧ Ad' nd i a = true ∧ Ad' nd i b = true then wrap64 (s + (td' nd i).f5) else s) = s + zOf nd a b i:=by
    unfold zOf
    by_cases d : Ad' nd i a = true ∧ Ad' nd i b = true
    ·rw [if_pos d]
     cases f : (td' nd i).f6 with
     | false=>rw [if_pos ⟨rfl,d⟩,w64 aa' aa']
     | true=>exact absurd ((Nm' hv hi f ha d.1).trans (Nm' hv hi f hb d.2).symm) hab
    rw [if_neg d,if_neg (fun h=>d h.2),Int.add_zero]
   rw [e]
   have hzo:=op' hv.z (a:=a) (b:=b) hi
   have ih:=qp' hv ha hb hab k (i + 1) (s + zOf nd a b i) aa' aa' aa'
   have ih:=ih.resolve_right aa'
   rw [show (i + 1).toNat = i.toNat + 1 by omega,We',Int.toNat_of_nonneg h0] at ih
   omega
  rw [if_neg c,show i.toNat = nd.length by omega]
  rfl
theorem zj' {N : Int} {y : List Int} {nd : List S89} {x : S73} (hx : xj' N x) (hy : YOk y) (hN : N = y.length) (hv : VOk N nd) : slackS N y nd x = slE y nd x:=by
 have hA : inR x.f0 nd.length:=⟨hx.a,by have:=hx.ab;have:=hx.b;have:=hv.nn;omega⟩
 have hB : inR x.f1 nd.length:=⟨Bb',by have:=hx.b;have:=hv.nn;omega⟩
 have h1:=hy x.f0 ⟨hx.a,Zb'⟩
 have h2:=hy x.f1 ⟨Bb',by have:=hx.b;omega⟩
 have h3:=yj' hx
 have hl:=hv.l
 have hnn:=hv.nn
 have hz0 : We' (zOf nd x.f0 x.f1) N.toNat = 0:=qg' fun i h0 h1=>by
  unfold zOf
  split
  ·exact (hv.v i h0 aa').1
  rfl
 have h:=(qp' hv hA hB (by have:=hx.ab;omega) (nd.length + 1) N (Ig' y x) aa' aa' (by rw [ri' hx hy hN];omega)).resolve_right aa'
 rw [hz0,Int.add_zero] at h
 rw [slackS,h,ri' hx hy hN,slE]
def yg' (nd : List S89) (x : S73) (a b : Int) : Prop:=(Ad' nd a x.f0 = true ∧ Ad' nd b x.f1 = true) ∨ (Ad' nd a x.f1 = true ∧ Ad' nd b x.f0 = true)
structure Mg' (es : List S73) (y : List Int) (nd : List S89) (i : Int) : Prop where
 odd : ((td' nd i).f0.length : Int) % 2 = 1
 three : 3 ≤ (td' nd i).f0.length
 lkl : (td' nd i).f1.length = (td' nd i).f0.length
 nod : (td' nd i).f0.Nodup
 mem : ∀ m ∈ (td' nd i).f0,inR m nd.length ∧ (td' nd m).f2 = i
 lnk : ∀ k,inR k (td' nd i).f0.length → inR (rd (td' nd i).f1 k) es.length ∧ slE y nd (ud' es (rd (td' nd i).f1 k)) = 0 ∧ yg' nd (ud' es (rd (td' nd i).f1 k)) (rd (td' nd i).f0 k) (rd (td' nd i).f0 ((k + 1) % (td' nd i).f0.length))
structure Top (nd : List S89) (t : Int) : Prop where
 i : inR t nd.length
 u : (td' nd t).f2 = -1
 o : (td' nd t).f6 = false
structure Tk' (es : List S73) (y : List Int) (nd : List S89) (t : Int) : Prop where
 ei : inR (td' nd t).f3 es.length
 sl : slE y nd (ud' es (td' nd t).f3) = 0
 ne : topI nd (ud' es (td' nd t).f3).f0 ≠ topI nd (ud' es (td' nd t).f3).f1
 tt : topI nd (ud' es (td' nd t).f3).f0 = t ∨ topI nd (ud' es (td' nd t).f3).f1 = t
 m0 : (td' nd (topI nd (ud' es (td' nd t).f3).f0)).f3 = (td' nd t).f3
 m1 : (td' nd (topI nd (ud' es (td' nd t).f3).f1)).f3 = (td' nd t).f3
structure rp' (N : Int) (y : List Int) (nd : List S89) (Y : Int) (t : Int) : Prop where
 v : 0 ≤ (td' nd t).f4 ∧ (td' nd t).f4 < N
 h : Ad' nd t (td' nd t).f4 = true
 b : ∀ i,inR i nd.length → Ad' nd i (td' nd t).f4 = true → (td' nd i).f4 = (td' nd t).f4
 yv : rd y (td' nd t).f4 = Y
structure Gph (N most : Int) (es : List S73) : Prop where
 n0 : 0 ≤ N
 n9 : N ≤ 9
 m : 0 ≤ most ∧ most ≤ 4515050
 e : ∀ i,inR i es.length → xj' N (ud' es i)
structure Inv (N most : Int) (es : List S73) (D : Int) (y : List Int) (nd : List S89) : Prop where
 yl : N = y.length
 nn : N ≤ nd.length
 sz : nd.length ≤ 100000
 wf : WFn nd
 ver : ∀ i,0 ≤ i → i < N → (td' nd i).f6 = false ∧ (td' nd i).f5 = 0 ∧ (td' nd i).f4 = i ∧ (td' nd i).f0 = []
 opn : ∀ i,inR i nd.length → (td' nd i).f6 = true → (td' nd i).f2 = -1
 par : ∀ m,inR m nd.length → (td' nd m).f2 ≠ -1 → N ≤ (td' nd m).f2 ∧ (td' nd (td' nd m).f2).f6 = false ∧ m ∈ (td' nd (td' nd m).f2).f0
 ring : ∀ i,N ≤ i → i < nd.length → (td' nd i).f6 = false → Mg' es y nd i
 mate : ∀ t,Top nd t → (td' nd t).f3 ≠ -1 → Tk' es y nd t
 free : ∀ t,Top nd t → (td' nd t).f3 = -1 → rp' N y nd (most - D) t
 zz : ∀ i,inR i nd.length → 0 ≤ (td' nd i).f5 ∧ (td' nd i).f5 % 2 = 0 ∧ (td' nd i).f5 ≤ 2 * D
 yy : ∀ v,inR v y.length → 0 ≤ rd y v ∧ rd y v ≤ most + D
 dd : 0 ≤ D ∧ D ≤ most
 sl : ∀ e,inR e es.length → 0 ≤ slE y nd (ud' es e)
 pa : ∀ u v,inR u y.length → inR v y.length → topI nd u = topI nd v → rd y u % 2 = rd y v % 2
section
variable {N most : Int} {es : List S73} {D : Int} {y : List Int} {nd : List S89}
theorem Inv.vok (g : Gph N most es) (h : Inv N most es D y nd) : VOk N nd :=
 ⟨h.wf,fun i hi=>⟨(h.zz i hi).1,by have:=(h.zz i hi).2.2;have:=h.dd;have:=g.m;omega⟩,fun i h0 h1=>⟨(h.ver i h0 h1).2.1,(h.ver i h0 h1).1⟩,fun m hm hu=>(h.par m hm hu).2.1,by have:=h.sz;omega,h.nn⟩
theorem Inv.yok (g : Gph N most es) (h : Inv N most es D y nd) : YOk y:=fun i hi=>⟨(h.yy i hi).1,by have:=(h.yy i hi).2;have:=h.dd;have:=g.m;omega⟩
theorem Inv.edge (g : Gph N most es) (h : Inv N most es D y nd) {e : Int} (he : inR e es.length) : inR (ud' es e).f0 nd.length ∧ inR (ud' es e).f1 nd.length:=by
 have x:=g.e e he
 exact ⟨⟨x.a,by have:=x.ab;have:=x.b;have:=h.nn;omega⟩,⟨by have:=x.a;have:=x.ab;omega,by have:=x.b;have:=h.nn;omega⟩⟩
theorem Inv.eok (g : Gph N most es) (h : Inv N most es D y nd) : EOk es nd.length:=fun e he=>h.edge g he
theorem Inv.eoy (g : Gph N most es) (h : Inv N most es D y nd) : EOk es y.length:=fun e he=>by
 have x:=g.e e he
 have:=h.yl
 exact ⟨⟨x.a,by have:=x.ab;have:=x.b;omega⟩,⟨by have:=x.a;have:=x.ab;omega,by have:=x.b;omega⟩⟩
theorem Inv.slackI (g : Gph N most es) (h : Inv N most es D y nd) {e : Int} (he : inR e es.length) : slackI y nd (ud' es e) = slE y nd (ud' es e):=pp' (g.e e he) (h.yok g) h.yl (h.vok g)
theorem Inv.slackS (g : Gph N most es) (h : Inv N most es D y nd) {e : Int} (he : inR e es.length) : slackS N y nd (ud' es e) = slE y nd (ud' es e):=zj' (g.e e he) (h.yok g) h.yl (h.vok g)
theorem Inv.top (h : Inv N most es D y nd) {v : Int} (hv : inR v nd.length) : (td' nd v).f6 = false → Top nd (topI nd v):=by
 revert v
 have:=af' h.wf (P:=fun v=>(td' nd v).f6 = false → Top nd (topI nd v)) fun v hv ih ho=>by
  rw [Ae' h.wf hv]
  split
  ·rename_i c;exact ⟨hv,c,ho⟩
  rename_i c;exact ih c ((te' h.wf hv).resolve_left c) (h.par v hv c).2.1
 exact fun {v} hv=>this v hv
theorem Inv.vtx (h : Inv N most es D y nd) {v : Int} (h0 : 0 ≤ v) (h1 : v < N) : inR v nd.length:=⟨h0,by have:=h.nn;omega⟩
theorem Inv.top_v (h : Inv N most es D y nd) {v : Int} (h0 : 0 ≤ v) (h1 : v < N) : Top nd (topI nd v):=h.top (h.vtx h0 h1) (h.ver v h0 h1).1
theorem Inv.top_a (g : Gph N most es) (h : Inv N most es D y nd) {e : Int} (he : inR e es.length) : Top nd (topI nd (ud' es e).f0):=h.top_v (g.e e he).a (by have:=(g.e e he).ab;have:=(g.e e he).b;omega)
theorem Inv.top_b (g : Gph N most es) (h : Inv N most es D y nd) {e : Int} (he : inR e es.length) : Top nd (topI nd (ud' es e).f1):=h.top_v (by have:=(g.e e he).a;have:=(g.e e he).ab;omega) (g.e e he).b
theorem Top.self (hw : WFn nd) {t : Int} (h : Top nd t) : topI nd t = t:=Xe' hw h.i h.u
theorem Be' {t : Int} (hi : inR t nd.length) : Dd' (td' nd t) = true ↔ Top nd t:=by
 unfold Dd'
 constructor
 ·intro h
  simp only [Bool.and_eq_true,decide_eq_true_eq,Bool.not_eq_true'] at h
  exact ⟨hi,h.1,h.2⟩
 intro h
 rw [h.u,h.o]
 rfl
def mt (nd : List S89) (es : List S73) (t : Int) : Int:=ze' nd es (td' nd t).f3 t
theorem Inv.mt_ok (g : Gph N most es) (h : Inv N most es D y nd) {t : Int} (ht : Top nd t) (hm : (td' nd t).f3 ≠ -1) : Top nd (mt nd es t) ∧ mt nd es t ≠ t ∧ (td' nd (mt nd es t)).f3 = (td' nd t).f3 ∧ mt nd es (mt nd es t) = t:=by
 have M:=h.mate t ht hm
 have e:=M.ei
 unfold mt ze'
 by_cases c : topI nd (ud' es (td' nd t).f3).f0 = t
 ·rw [if_pos c,M.m1,if_neg (fun k=>M.ne k)]
  exact ⟨h.top_b g e,fun k=>M.ne (c.trans k.symm),rfl,c⟩
 have d:=M.tt.resolve_left c
 rw [if_neg c,M.m0,if_pos rfl]
 exact ⟨h.top_a g e,c,rfl,d⟩
end
def ie' (es : List S73) (e : Int) (l : S56) : Prop:=(l.f0 = (ud' es e).f0 ∧ l.f1 = (ud' es e).f1) ∨ (l.f0 = (ud' es e).f1 ∧ l.f1 = (ud' es e).f0)
structure NdRel (es : List S73) (x : S89) (z : S77) : Prop where
 mem : z.f0 = x.f0
 ll : z.f1.length = x.f1.length
 lk : ∀ k,inR k x.f1.length → ie' es (rd x.f1 k) (xd' z.f1 k)
 zz : z.f3 = x.f5
 up : z.f4 = x.f2
 op : z.f5 = x.f6
structure pe' (es : List S73) (nd : List S89) (rn : List S77) : Prop where
 l : rn.length = nd.length
 n : ∀ i,inR i nd.length → NdRel es (td' nd i) (wd' rn i)
section
variable {es : List S73} {nd : List S89} {rn : List S77}
theorem pe'.up60 (h : pe' es nd rn) : up60 nd (cvs rn):=⟨(Hd' rn).trans h.l,fun j hj=>by rw [Ef'];exact (h.n j hj).up⟩
theorem pe'.wf (h : pe' es nd rn) (hw : WFn nd) : WFn (cvs rn):=(mf' h.up60 hw).1
theorem pe'.top (h : pe' es nd rn) (hw : WFn nd) {v : Int} (hv : inR v nd.length) : topI (cvs rn) v = topI nd v:=(mf' h.up60 hw).2.1 v hv
theorem pe'.has (h : pe' es nd rn) (hw : WFn nd) {a v : Int} (ha : a ≠ -1) (hv : inR v nd.length) : Ad' (cvs rn) a v = Ad' nd a v:=(mf' h.up60 hw).2.2 a ha v hv
theorem pe'.zsum (h : pe' es nd rn) (hw : WFn nd) {a b : Int} (ha : inR a nd.length) (hb : inR b nd.length) : Qe' (cvs rn) a b = Qe' nd a b:=by
 unfold Qe'
 rw [Hd',h.l]
 refine Nf' fun i h0 h1=>?_
 unfold zOf
 rw [h.has hw aa' ha,h.has hw aa' hb,Ef']
 have:=(h.n i ⟨h0,h1⟩).zz
 show (if _ then (wd' rn i).f3 else 0) = _
 rw [this]
theorem pe'.vok (h : pe' es nd rn) {N : Int} (hv : VOk N nd) : VOk N (cvs rn):=by
 have hl : (cvs rn).length = nd.length:=(Hd' rn).trans h.l
 refine ⟨h.wf hv.w,fun i hi=>?_,fun i h0 h1=>?_,fun m hm hu=>?_,by rw [hl];exact hv.l,by rw [hl];exact hv.nn⟩
 ·rw [hl] at hi
  rw [Ef']
  show 0 ≤ (wd' rn i).f3 ∧ (wd' rn i).f3 ≤ _
  rw [(h.n i hi).zz]
  exact hv.z i hi
 ·have hi : inR i nd.length:=⟨h0,by have:=hv.nn;omega⟩
  rw [Ef']
  show (wd' rn i).f3 = 0 ∧ (wd' rn i).f5 = false
  rw [(h.n i hi).zz,(h.n i hi).op]
  exact hv.v i h0 h1
 rw [hl] at hm
 have hmu : (td' (cvs rn) m).f2 = (td' nd m).f2:=h.up60.2 m hm
 rw [hmu] at hu ⊢
 rw [Ef']
 show (wd' rn (td' nd m).f2).f5 = false
 rw [(h.n _ ((te' hv.w hm).resolve_left hu)).op]
 exact hv.o m hm hu
end
structure ff' (es : List S73) (nd : List S89) (mts : List S56) : Prop where
 a : ∀ l ∈ mts,∃ e,inR e es.length ∧ ie' es e l ∧ topI nd l.f0 ≠ topI nd l.f1 ∧ (td' nd (topI nd l.f0)).f3 = e ∧ (td' nd (topI nd l.f1)).f3 = e
 b : ∀ t,Top nd t → (td' nd t).f3 ≠ -1 → ∃ l ∈ mts,ie' es (td' nd t).f3 l
section
variable {N most : Int} {es : List S73} {D : Int} {y : List Int} {nd : List S89} {rn : List S77} {mts : List S56}
theorem ie'.tops {e : Int} {l : S56} (h : ie' es e l) : (topI nd l.f0 = topI nd (ud' es e).f0 ∧ topI nd l.f1 = topI nd (ud' es e).f1) ∨ (topI nd l.f0 = topI nd (ud' es e).f1 ∧ topI nd l.f1 = topI nd (ud' es e).f0):=by
 rcases h with ⟨h1,h2⟩|⟨h1,h2⟩
 ·exact .inl ⟨by rw [h1],by rw [h2]⟩
 exact .inr ⟨by rw [h1],by rw [h2]⟩
theorem ie'.swap {e : Int} {l : S56} (h : ie' es e l) : ie' es e ⟨l.f1,l.f0⟩:=h.elim (fun h=>.inr ⟨h.2,h.1⟩) fun h=>.inl ⟨h.2,h.1⟩
theorem ie'.vtx (g : Gph N most es) {e : Int} {l : S56} (he : inR e es.length) (h : ie' es e l) : (0 ≤ l.f0 ∧ l.f0 < N) ∧ (0 ≤ l.f1 ∧ l.f1 < N) ∧ l.f0 ≠ l.f1:=by
 have x:=g.e e he
 have:=x.a;have:=x.ab;have:=x.b
 rcases h with ⟨h1,h2⟩|⟨h1,h2⟩ <;> rw [h1,h2] <;> omega
theorem ff'.in (g : Gph N most es) (hn : N ≤ nd.length) (h : ff' es nd mts) : ∀ x ∈ mts,inR x.f0 nd.length ∧ inR x.f1 nd.length:=by
 intro x hx
 obtain ⟨e,he,hl,-⟩:=h.a x hx
 have:=hl.vtx g he
 exact ⟨⟨this.1.1,aa'⟩,⟨this.2.1.1,aa'⟩⟩
theorem Ri' (g : Gph N most es) (hi : Inv N most es D y nd) (hr : pe' es nd rn) (h : ff' es nd mts) {t : Int} (hm : (td' nd t).f3 = -1) : ∀ (l : List S56),(∀ x ∈ l,x ∈ mts) → Fe' (cvs rn) t l = (⟨0,0⟩,false)
 | [],_=>rfl
 | x :: l,hl=>by
  have hx:=hl x List.mem_cons_self
  obtain ⟨e,he,-,hne,h0,h1⟩:=h.a x hx
  have hin:=h.in g hi.nn x hx
  have he0:=he.1
  rw [Fe',hr.top hi.wf hin.1,hr.top hi.wf hin.2,if_neg,if_neg]
  ·exact Ri' g hi hr h hm l fun z hz=>hl z (List.mem_cons_of_mem _ hz)
  ·intro e1;rw [e1,hm] at h1;omega
  intro e1;rw [e1,hm] at h0;omega
theorem Sh' (g : Gph N most es) (hi : Inv N most es D y nd) (hr : pe' es nd rn) (h : ff' es nd mts) {t : Int} (ht : Top nd t) (hm : (td' nd t).f3 ≠ -1) : ∀ (l : List S56),(∀ x ∈ l,x ∈ mts) → (∃ x ∈ l,ie' es (td' nd t).f3 x) →
  ∃ m,Fe' (cvs rn) t l = (m,true) ∧ ie' es (td' nd t).f3 m ∧ topI nd m.f0 = t ∧ topI nd m.f1 = mt nd es t
 | [],_,hx=>by obtain ⟨x,hx,_⟩:=hx;cases hx
 | x :: l,hl,hx=>by
  have hxm:=hl x List.mem_cons_self
  obtain ⟨e,he,hlk,hne,h0,h1⟩:=h.a x hxm
  have hin:=h.in g hi.nn x hxm
  have M:=hi.mate t ht hm
  rw [Fe',hr.top hi.wf hin.1,hr.top hi.wf hin.2]
  by_cases c : topI nd x.f0 = t
  ·rw [if_pos c]
   rw [c] at h0
   subst h0
   refine ⟨x,rfl,hlk,c,?_⟩
   unfold mt ze'
   rcases hlk.tops (nd:=nd) with ⟨a,b⟩|⟨a,b⟩
   ·rw [if_pos (a.symm.trans c),b]
   rw [if_neg (by rw [← b,← c];exact fun k=>hne k.symm),b]
  rw [if_neg c]
  by_cases d : topI nd x.f1 = t
  ·rw [if_pos d]
   rw [d] at h1
   subst h1
   refine ⟨⟨x.f1,x.f0⟩,rfl,hlk.swap,d,?_⟩
   unfold mt ze'
   rcases hlk.tops (nd:=nd) with ⟨a,b⟩|⟨a,b⟩
   ·rw [if_neg (by rw [← a];exact c),a]
   rw [if_pos (b.symm.trans d),a]
  rw [if_neg d]
  refine Sh' g hi hr h ht hm l (fun z hz=>hl z (List.mem_cons_of_mem _ hz)) ?_
  obtain ⟨z,hz,hzl⟩:=hx
  rcases List.mem_cons.1 hz with rfl|hz
  ·exfalso
   rcases hzl.tops (nd:=nd) with ⟨a,b⟩|⟨a,b⟩
   ·rcases M.tt with k|k
    ·exact c (a.trans k)
    exact d (b.trans k)
   rcases M.tt with k|k
   ·exact d (b.trans k)
   exact c (a.trans k)
  exact ⟨z,hz,hzl⟩
end
structure Lab (es : List S73) (y : List Int) (nd : List S89) (lb ah bk : List Int) (rk : Int → Nat) (K : Nat) : Prop where
 ll : lb.length = nd.length
 la : ah.length = nd.length
 lk : bk.length = nd.length
 dom : ∀ i,inR i nd.length → rd lb i = 0 ∨ rd lb i = 1 ∨ rd lb i = 2
 top : ∀ i,inR i nd.length → rd lb i ≠ 0 → Top nd i
 free : ∀ i,Top nd i → (td' nd i).f3 = -1 → rd lb i = 1
 ev : ∀ i,inR i nd.length → rd lb i = 1 → ((td' nd i).f3 = -1 ∧ rd ah i = -1) ∨ ((td' nd i).f3 ≠ -1 ∧ rd ah i = mt nd es i ∧ rd lb (mt nd es i) = 2 ∧ rd bk i = (td' nd i).f3 ∧ rk (mt nd es i) < rk i)
 od : ∀ i,inR i nd.length → rd lb i = 2 → inR (rd ah i) nd.length ∧ rd lb (rd ah i) = 1 ∧ rk (rd ah i) < rk i ∧ inR (rd bk i) es.length ∧ slE y nd (ud' es (rd bk i)) = 0 ∧
  ((topI nd (ud' es (rd bk i)).f0 = rd ah i ∧ topI nd (ud' es (rd bk i)).f1 = i) ∨ (topI nd (ud' es (rd bk i)).f0 = i ∧ topI nd (ud' es (rd bk i)).f1 = rd ah i)) ∧ (td' nd i).f3 ≠ -1 ∧ rd lb (mt nd es i) = 1
 rk : ∀ i,inR i nd.length → rd lb i ≠ 0 → rk i ≤ K
 cnt : K + lb.count 0 ≤ nd.length
structure Fg' (es : List S73) (nd : List S89) (lb ah bk : List Int) (t : TI) : Prop where
 tl : t.lb = lb
 la : t.ah.length = nd.length
 lr : t.rt.length = nd.length
 lk : ∀ i,inR i nd.length → rd lb i ≠ 0 → rd ah i ≠ -1 → ie' es (rd bk i) (xd' t.ah i) ∧ inR (rd bk i) es.length ∧ topI nd (xd' t.ah i).f0 = rd ah i ∧ topI nd (xd' t.ah i).f1 = i
 r0 : ∀ i,inR i nd.length → rd lb i ≠ 0 → rd ah i = -1 → rd t.rt i = i
 r1 : ∀ i,inR i nd.length → rd lb i ≠ 0 → rd ah i ≠ -1 → rd t.rt i = rd t.rt (rd ah i)
 rr : ∀ i,inR i nd.length → rd lb i ≠ 0 → inR (rd t.rt i) nd.length ∧ rd lb (rd t.rt i) = 1 ∧ rd ah (rd t.rt i) = -1
theorem Om' {n : Nat} {x i : Int} (hi : inR i n) : rd (List.replicate n x) i = x:=by
 have h : i.toNat < n:=by have:=hi.1;have:=hi.2;omega
 simp [rd,h]
theorem Vl' {nd : List S89} : ∀ (k : Nat) (i : Int) (lb ah bk : List Int),0 ≤ i → (nd.length : Int) < i + k → lb.length = nd.length → ah.length = nd.length → bk.length = nd.length → ∀ j,inR j nd.length →
  rd (Uf' nd k i lb ah bk).1 j = (if i ≤ j ∧ Dd' (td' nd j) = true ∧ (td' nd j).f3 = -1 then 1 else rd lb j) ∧ rd (Uf' nd k i lb ah bk).2.1 j = (if i ≤ j then -1 else rd ah j) ∧ rd (Uf' nd k i lb ah bk).2.2 j = (if i ≤ j then -1 else rd bk j)
 | 0,i,lb,ah,bk,h0,hk,hl,ha,hb,j,hj=>by
  have:=hj.2
  rw [Uf',if_neg aa',if_neg aa',if_neg aa']
  exact ⟨rfl,rfl,rfl⟩
 | k + 1,i,lb,ah,bk,h0,hk,hl,ha,hb,j,hj=>by
  have hj2:=hj.2
  rw [Uf']
  by_cases c : i < (nd.length : Int)
  ·rw [if_pos c]
   have hl2 : (if Dd' (td' nd i) = true ∧ (td' nd i).f3 = -1 then lb.set i.toNat 1 else lb).length = nd.length:=by split;rw [List.length_set];exact hl;exact hl
   obtain ⟨e1,e2,e3⟩:=Vl' k (i + 1) (if Dd' (td' nd i) = true ∧ (td' nd i).f3 = -1 then lb.set i.toNat 1 else lb) (ah.set i.toNat (-1)) (bk.set i.toNat (-1)) aa' aa' hl2 (by rw [List.length_set];exact ha) (by rw [List.length_set];exact hb) j hj
   rw [e1,e2,e3]
   by_cases d : j = i
   ·subst d
    have c1 : ¬j + 1 ≤ j:=by omega
    simp only [c1,Int.le_refl,false_and,true_and,↓reduceIte]
    rw [he' h0 (by rw [ha];exact c) h0,if_pos rfl,he' h0 (by rw [hb];exact c) h0,if_pos rfl]
    refine ⟨?_,rfl,rfl⟩
    by_cases e : Dd' (td' nd j) = true ∧ (td' nd j).f3 = -1
    ·rw [if_pos e,if_pos e,he' h0 ac' h0,if_pos rfl]
    rw [if_neg e,if_neg e]
   rw [he' h0 (by rw [ha];exact c) hj.1,if_neg d,he' h0 (by rw [hb];exact c) hj.1,if_neg d]
   have e0 : rd (if Dd' (td' nd i) = true ∧ (td' nd i).f3 = -1 then lb.set i.toNat 1 else lb) j = rd lb j:=by
    split
    ·rw [he' h0 ac' hj.1,if_neg d]
    rfl
   rw [e0]
   by_cases f : i + 1 ≤ j
   ·rw [if_pos f,if_pos f,if_pos (show i ≤ j by omega),if_pos (show i ≤ j by omega)]
    refine ⟨?_,rfl,rfl⟩
    by_cases e : Dd' (td' nd j) = true ∧ (td' nd j).f3 = -1
    ·rw [if_pos ⟨f,e⟩,if_pos ⟨aa',e⟩]
    rw [if_neg (fun h=>e h.2),if_neg (fun h=>e h.2)]
   rw [if_neg f,if_neg f,if_neg (show ¬i ≤ j by omega),if_neg (show ¬i ≤ j by omega),if_neg (fun h=>f h.1),if_neg (fun h=>by have:=h.1;omega)]
   exact ⟨rfl,rfl,rfl⟩
  rw [if_neg c,if_neg aa',if_neg aa',if_neg aa']
  exact ⟨rfl,rfl,rfl⟩
theorem pf' {nd : List S89} {j : Int} (hj : inR j nd.length) : rd (Ge' nd).1 j = (if Dd' (td' nd j) = true ∧ (td' nd j).f3 = -1 then 1 else 0) ∧ rd (Ge' nd).2.1 j = -1 ∧ rd (Ge' nd).2.2 j = -1:=by
 have h:=Vl' (nd:=nd) (nd.length + 1) 0 (List.replicate nd.length 0) (List.replicate nd.length 0) (List.replicate nd.length 0) aa' aa' List.length_replicate List.length_replicate List.length_replicate j hj
 rw [Ge',h.1,h.2.1,h.2.2,if_pos hj.1,Om' hj]
 refine ⟨?_,rfl,rfl⟩
 by_cases e : Dd' (td' nd j) = true ∧ (td' nd j).f3 = -1
 ·rw [if_pos e,if_pos ⟨hj.1,e⟩]
 rw [if_neg e,if_neg (fun h=>e h.2)]
section
variable {N most : Int} {es : List S73} {D : Int} {y : List Int} {nd : List S89} {rn : List S77} {mts : List S56}
theorem sp' (g : Gph N most es) (hi : Inv N most es D y nd) : Lab es y nd (Ge' nd).1 (Ge' nd).2.1 (Ge' nd).2.2 (fun _=>0) 0:=by
 have hl:=Mh' nd
 have h1 : ∀ i,inR i nd.length → rd (Ge' nd).1 i ≠ 0 → Dd' (td' nd i) = true ∧ (td' nd i).f3 = -1:=by
  intro i hr h
  rw [(pf' hr).1] at h
  by_cases e : Dd' (td' nd i) = true ∧ (td' nd i).f3 = -1
  ·exact e
  rw [if_neg e] at h;exact absurd rfl h
 refine ⟨hl.1,hl.2.1,hl.2.2,fun i hr=>?_,fun i hr h=>(Be' hr).1 (h1 i hr h).1,fun i ht hm=>?_,fun i hr h=>.inl ⟨(h1 i hr mb').2,(pf' hr).2.1⟩,fun i hr h=>?_,fun i hr h=>Nat.le_refl 0,?_⟩
 ·rw [(pf' hr).1]
  split
  ·exact .inr (.inl rfl)
  exact .inl rfl
 ·rw [(pf' ht.i).1,if_pos ⟨(Be' ht.i).2 ht,hm⟩]
 ·rw [(pf' hr).1] at h
  split at h <;> cases h
 rw [Nat.zero_add,← hl.1]
 exact List.count_le_length
theorem Aj' {nd5 : List S77} {mt5 : List S56} : ∀ (k : Nat) (i : Int) (t : TI),0 ≤ i → (nd5.length : Int) < i + k → t.lb.length = nd5.length → t.rt.length = nd5.length →
  (rg' nd5 mt5 k i t).lb.length = nd5.length ∧ (rg' nd5 mt5 k i t).rt.length = nd5.length ∧ (rg' nd5 mt5 k i t).ah = t.ah ∧ ∀ j,inR j nd5.length →
  rd (rg' nd5 mt5 k i t).lb j = (if i ≤ j ∧ Ce' (wd' nd5 j) = true ∧ (Fe' (cvs nd5) j mt5).2 = false then 1 else rd t.lb j) ∧ rd (rg' nd5 mt5 k i t).rt j = (if i ≤ j ∧ Ce' (wd' nd5 j) = true ∧ (Fe' (cvs nd5) j mt5).2 = false then j else rd t.rt j)
 | 0,i,t,h0,hk,hl,hr=>⟨hl,hr,rfl,fun j hj=>by have:=hj.2;rw [rg',if_neg aa',if_neg aa'];exact ⟨rfl,rfl⟩⟩
 | k + 1,i,t,h0,hk,hl,hr=>by
  rw [rg']
  by_cases c : i < (nd5.length : Int)
  ·rw [if_pos c]
   by_cases e : Ce' (wd' nd5 i) = true ∧ (Fe' (cvs nd5) i mt5).2 = false
   ·rw [if_pos e]
    obtain ⟨a1,a2,a3,a4⟩:=Aj' (nd5:=nd5) (mt5:=mt5) k (i + 1) { t with lb:=t.lb.set i.toNat 1,rt:=t.rt.set i.toNat i } aa' aa' (by rw [List.length_set];exact hl) (by rw [List.length_set];exact hr)
    refine ⟨a1,a2,a3,fun j hj=>?_⟩
    obtain ⟨b1,b2⟩:=a4 j hj
    rw [b1,b2]
    by_cases d : j = i
    ·subst d
     have c1 : ¬j + 1 ≤ j:=by omega
     simp only [c1,Int.le_refl,false_and,true_and,↓reduceIte]
     rw [if_pos e,if_pos e]
     show rd (t.lb.set j.toNat 1) j = 1 ∧ rd (t.rt.set j.toNat j) j = j
     rw [he' h0 ac' h0,if_pos rfl,he' h0 (by rw [hr];exact c) h0,if_pos rfl]
     exact ⟨rfl,rfl⟩
    show (if _ then 1 else rd (t.lb.set i.toNat 1) j) = _ ∧ (if _ then j else rd (t.rt.set i.toNat i) j) = _
    rw [he' h0 ac' hj.1,if_neg d,he' h0 (by rw [hr];exact c) hj.1,if_neg d]
    by_cases f : Ce' (wd' nd5 j) = true ∧ (Fe' (cvs nd5) j mt5).2 = false
    ·by_cases q : i + 1 ≤ j
     ·simp only [q,show i ≤ j by omega,f.1,f.2,and_self,↓reduceIte]
     simp only [q,show ¬i ≤ j by omega,false_and,and_self,↓reduceIte]
    rw [if_neg (fun h=>f h.2),if_neg (fun h=>f h.2),if_neg (fun h=>f h.2),if_neg (fun h=>f h.2)];exact ⟨rfl,rfl⟩
   rw [if_neg e]
   obtain ⟨a1,a2,a3,a4⟩:=Aj' (nd5:=nd5) (mt5:=mt5) k (i + 1) t aa' aa' hl hr
   refine ⟨a1,a2,a3,fun j hj=>?_⟩
   obtain ⟨b1,b2⟩:=a4 j hj
   rw [b1,b2]
   by_cases f : Ce' (wd' nd5 j) = true ∧ (Fe' (cvs nd5) j mt5).2 = false
   ·have d : j ≠ i:=fun d=>e (d ▸ f)
    by_cases q : i + 1 ≤ j
    ·simp only [q,show i ≤ j by omega,f.1,f.2,and_self,↓reduceIte]
    simp only [q,show ¬i ≤ j by omega,false_and,and_self,↓reduceIte]
   rw [if_neg (fun h=>f h.2),if_neg (fun h=>f h.2),if_neg (fun h=>f h.2),if_neg (fun h=>f h.2)];exact ⟨rfl,rfl⟩
  rw [if_neg c]
  exact ⟨hl,hr,rfl,fun j hj=>by have:=hj.2;rw [if_neg aa',if_neg aa'];exact ⟨rfl,rfl⟩⟩
theorem si' (hi : Inv N most es D y nd) (hr : pe' es nd rn) {j : Int} (hj : inR j nd.length) : Ce' (wd' rn j) = Dd' (td' nd j):=by
 have h:=Pl' (nd:=rn) (hr.wf hi.wf) (i:=j) (by rw [hr.l];exact hj)
 rw [← h,Ef']
 unfold Dd'
 show (decide ((wd' rn j).f4 = -1) && !(wd' rn j).f5) = _
 rw [(hr.n j hj).up,(hr.n j hj).op]
theorem Bj' (g : Gph N most es) (hi : Inv N most es D y nd) (hr : pe' es nd rn) (hm : ff' es nd mts) {t : Int} (ht : Top nd t) : (Fe' (cvs rn) t mts).2 = false ↔ (td' nd t).f3 = -1:=by
 constructor
 ·intro h
  apply Decidable.byContradiction
  intro c
  obtain ⟨m,e,-⟩:=Sh' g hi hr hm ht c mts (fun _ h=>h) (hm.b t ht c)
  rw [e] at h
  cases h
 intro h
 rw [Ri' g hi hr hm h mts (fun _ h=>h)]
theorem tp' (g : Gph N most es) (hi : Inv N most es D y nd) (hr : pe' es nd rn) (hm : ff' es nd mts) : Fg' es nd (Ge' nd).1 (Ge' nd).2.1 (Ge' nd).2.2 (eg' rn mts):=by
 obtain ⟨a1,a2,a3,a4⟩:=Aj' (nd5:=rn) (mt5:=mts) (rn.length + 1) 0 (zeroT rn.length) aa' aa' List.length_replicate List.length_replicate
 have hlb : (eg' rn mts).lb = (Ge' nd).1:=by
  refine Jm' (by rw [eg',a1,(Mh' nd).1,hr.l]) fun i h=>?_
  rw [eg',a1] at h
  have hn : inR i nd.length:=by rw [← hr.l];exact h
  rw [eg',(a4 i h).1,(pf' hn).1,si' hi hr hn]
  show (if _ then 1 else rd (List.replicate rn.length 0) i) = _
  rw [Om' h]
  by_cases c : Dd' (td' nd i) = true
  ·have ht:=(Be' hn).1 c
   by_cases d : (td' nd i).f3 = -1
   ·rw [if_pos ⟨h.1,c,(Bj' g hi hr hm ht).2 d⟩,if_pos ⟨c,d⟩]
   rw [if_neg (fun h=>d ((Bj' g hi hr hm ht).1 h.2.2)),if_neg (fun h=>d h.2)]
  rw [if_neg (fun h=>c h.2.1),if_neg (fun h=>c h.1)]
 refine ⟨hlb,by rw [eg',a3];exact List.length_replicate.trans hr.l,by rw [eg',a2,hr.l],fun i hn h1 h2=>absurd (pf' hn).2.1 h2,fun i hn h1 _=>?_,fun i hn h1 h2=>absurd (pf' hn).2.1 h2,fun i hn h1=>?_⟩ <;>
 ·have h5 : inR i rn.length:=by rw [hr.l];exact hn
  have hrt : rd (eg' rn mts).rt i = i:=by
   rw [eg',(a4 i h5).2]
   rw [(pf' hn).1] at h1
   by_cases c : Dd' (td' nd i) = true ∧ (td' nd i).f3 = -1
   ·rw [if_pos ⟨hn.1,by rw [si' hi hr hn];exact c.1,(Bj' g hi hr hm ((Be' hn).1 c.1)).2 c.2⟩]
   rw [if_neg c] at h1;exact absurd rfl h1
  have hone : rd (Ge' nd).1 i = 1:=by
   rw [(pf' hn).1] at h1 ⊢
   split
   ·rfl
   rename_i c
   rw [if_neg c] at h1
   exact absurd rfl h1
  first|exact hrt|(rw [hrt];exact ⟨hn,hone,(pf' hn).2.1⟩)
end
def mg' (y : List Int) (nd : List S89) (lb : List Int) (x : S73) : Prop:=topI nd x.f0 ≠ topI nd x.f1 ∧ slE y nd x = 0 ∧ (rd lb (topI nd x.f0) = 1 ∨ rd lb (topI nd x.f1) = 1) ∧ rd lb (topI nd x.f0) ≠ 2 ∧ rd lb (topI nd x.f1) ≠ 2
instance (y : List Int) (nd : List S89) (lb : List Int) (x : S73) : Decidable (mg' y nd lb x):=by unfold mg';infer_instance
section
variable {N most : Int} {es : List S73} {D : Int} {y : List Int} {nd : List S89} {rn : List S77} {mts : List S56} {lb ah bk : List Int} {rk : Int → Nat} {K : Nat} {t : TI}
theorem Si' (g : Gph N most es) (hi : Inv N most es D y nd) {e : Int} (he : inR e es.length) : xg' N y nd lb (ud' es e) ↔ ¬mg' y nd lb (ud' es e):=by
 unfold xg' mg'
 rw [hi.slackS g he]
 constructor
 ·rintro (h|h|⟨h,k⟩|h|h) ⟨a,b,c,d,f⟩
  ·exact a h
  ·exact h b
  ·rcases c with c|c
   ·exact h c
   exact k c
  ·exact d h
  exact f h
 intro h
 by_cases a : topI nd (ud' es e).f0 = topI nd (ud' es e).f1
 ·exact .inl a
 by_cases b : slE y nd (ud' es e) = 0
 ·by_cases d : rd lb (topI nd (ud' es e).f0) = 2
  ·exact .inr (.inr (.inr (.inl d)))
  by_cases f : rd lb (topI nd (ud' es e).f1) = 2
  ·exact .inr (.inr (.inr (.inr f)))
  refine .inr (.inr (.inl ⟨fun c=>h ⟨a,b,.inl c,d,f⟩,fun c=>h ⟨a,b,.inr c,d,f⟩⟩))
 exact .inr (.inl b)
theorem Uk' (g : Gph N most es) (hi : Inv N most es D y nd) : ∀ (k : Nat) (i : Int),0 ≤ i → (es.length : Int) < i + k →
  (Ie' N y nd lb es k i = -1 ∧ ∀ e,i ≤ e → e < es.length → ¬mg' y nd lb (ud' es e)) ∨ (i ≤ Ie' N y nd lb es k i ∧ Ie' N y nd lb es k i < es.length ∧ mg' y nd lb (ud' es (Ie' N y nd lb es k i)))
 | 0,i,h0,hk=>.inl ⟨rfl,fun e h1 h2=>by omega⟩
 | k + 1,i,h0,hk=>by
  rw [Ie']
  by_cases c : i < (es.length : Int)
  ·rw [if_pos c]
   by_cases d : xg' N y nd lb (ud' es i)
   ·rw [if_pos d]
    rcases Uk' g hi k (i + 1) aa' aa' with ⟨h1,h2⟩|⟨h1,h2,h3⟩
    ·refine .inl ⟨h1,fun e h3 h4=>?_⟩
     by_cases e0 : e = i
     ·rw [e0];exact (Si' g hi ⟨h0,c⟩).1 d
     exact h2 e aa' h4
    exact .inr ⟨aa',h2,h3⟩
   rw [if_neg d]
   refine .inr ⟨Int.le_refl _,c,?_⟩
   apply Decidable.byContradiction
   intro h
   exact d ((Si' g hi ⟨h0,c⟩).2 h)
  rw [if_neg c]
  exact .inl ⟨rfl,fun e h1 h2=>by omega⟩
theorem Vk' (g : Gph N most es) (hi : Inv N most es D y nd) (hd : ∀ i,inR i nd.length → rd lb i = 0 ∨ rd lb i = 1 ∨ rd lb i = 2) : ∀ (k : Nat) (i : Int),0 ≤ i → (es.length : Int) < i + k →
  Mf' y nd lb es k i = if Ie' N y nd lb es k i = -1 then (-1,-1,-1) else (Ie' N y nd lb es k i,if rd lb (topI nd (ud' es (Ie' N y nd lb es k i)).f0) = 1 then (topI nd (ud' es (Ie' N y nd lb es k i)).f0,topI nd (ud' es (Ie' N y nd lb es k i)).f1) else (topI nd (ud' es (Ie' N y nd lb es k i)).f1,topI nd (ud' es (Ie' N y nd lb es k i)).f0))
 | 0,i,h0,hk=>by rw [Mf',Ie',if_pos rfl]
 | k + 1,i,h0,hk=>by
  rw [Mf',Ie']
  by_cases c : i < (es.length : Int)
  ·rw [if_pos c,if_pos c]
   have he : inR i es.length:=⟨h0,c⟩
   have ih:=Vk' g hi hd k (i + 1) aa' aa'
   have dA:=hd _ (hi.top_a g he).i
   have dB:=hd _ (hi.top_b g he).i
   rw [hi.slackI g he]
   by_cases q : xg' N y nd lb (ud' es i)
   ·rw [if_pos q]
    have q2:=(Si' g hi he).1 q
    by_cases a : topI nd (ud' es i).f0 = topI nd (ud' es i).f1
    ·rw [if_pos a];exact ih
    rw [if_neg a]
    by_cases b : slE y nd (ud' es i) = 0
    ·rw [if_neg (by simpa using b),if_neg,if_neg]
     ·exact ih
     ·rintro ⟨h1,h2⟩
      exact q2 ⟨a,b,.inr h1,aa',aa'⟩
     rintro ⟨h1,h2⟩
     exact q2 ⟨a,b,.inl h1,aa',h2⟩
    rw [if_pos b];exact ih
   rw [if_neg q]
   have q2 : mg' y nd lb (ud' es i):=by
    apply Decidable.byContradiction
    intro h
    exact q ((Si' g hi he).2 h)
   obtain ⟨a,b,c1,c2,c3⟩:=q2
   rw [if_neg a,if_neg (by simpa using b),if_neg (show ¬i = -1 by omega)]
   by_cases d : rd lb (topI nd (ud' es i).f0) = 1
   ·rw [if_pos ⟨d,c3⟩,if_pos d]
   rw [if_neg (fun h=>d h.1),if_pos ⟨c1.resolve_left d,aa'⟩,if_neg d]
  rw [if_neg c,if_neg c,if_pos rfl]
theorem Pm' (g : Gph N most es) (hi : Inv N most es D y nd) (hr : pe' es nd rn) : ∀ (k : Nat) (i : Int),0 ≤ i → Ie' N y (cvs rn) lb es k i = Ie' N y nd lb es k i
 | 0,i,h0=>rfl
 | k + 1,i,h0=>by
  rw [Ie',Ie']
  by_cases c : i < (es.length : Int)
  ·rw [if_pos c,if_pos c,Pm' g hi hr k (i + 1) aa']
   have he : inR i es.length:=⟨h0,c⟩
   have hin:=hi.edge g he
   have e1 : xg' N y (cvs rn) lb (ud' es i) ↔ xg' N y nd lb (ud' es i):=by
    unfold xg'
    rw [hr.top hi.wf hin.1,hr.top hi.wf hin.2,hi.slackS g he,zj' (g.e i he) (hi.yok g) hi.yl (hr.vok (hi.vok g))]
    unfold slE
    rw [hr.zsum hi.wf hin.1 hin.2]
   by_cases d : xg' N y nd lb (ud' es i)
   ·rw [if_pos d,if_pos (e1.2 d)]
   rw [if_neg d,if_neg (fun h=>d (e1.1 h))]
  rw [if_neg c,if_neg c]
end
theorem count_set {l : List Int} {i : Int} {x : Int} (hi : inR i l.length) (h0 : rd l i = 0) (hx : x ≠ 0) : (l.set i.toNat x).count 0 + 1 = l.count 0:=by
 have h1 : i.toNat < l.length:=by have:=hi.1;have:=hi.2;omega
 have e : l[i.toNat] = 0:=by simpa [rd,h1] using h0
 have hp : 0 < l.count 0:=List.count_pos_iff.2 (e ▸ List.getElem_mem h1)
 rw [List.count_set h1,e]
 simp [hx]
 omega
section
variable {N most : Int} {es : List S73} {D : Int} {y : List Int} {nd : List S89} {rn : List S77} {mts : List S56} {lb ah bk : List Int} {rk : Int → Nat} {K : Nat} {t : TI}
theorem tq' (g : Gph N most es) (hi : Inv N most es D y nd) (L : Lab es y nd lb ah bk rk K) {e a b : Int} (he : inR e es.length) (hs : slE y nd (ud' es e) = 0) (ha : inR a nd.length) (hla : rd lb a = 1) (hb : Top nd b) (hlb : rd lb b = 0) (hab : (topI nd (ud' es e).f0 = a ∧ topI nd (ud' es e).f1 = b) ∨ (topI nd (ud' es e).f0 = b ∧ topI nd (ud' es e).f1 = a)) :
  (td' nd b).f3 ≠ -1 ∧ Top nd (mt nd es b) ∧ mt nd es b ≠ b ∧ a ≠ b ∧ mt nd es b ≠ a ∧ rd lb (mt nd es b) = 0 ∧
  Lab es y nd ((lb.set b.toNat 2).set (mt nd es b).toNat 1) ((ah.set b.toNat a).set (mt nd es b).toNat b) ((bk.set b.toNat e).set (mt nd es b).toNat (td' nd b).f3) (fun i=>if i = b then K + 1 else if i = mt nd es b then K + 2 else rk i) (K + 2):=by
 have hm : (td' nd b).f3 ≠ -1:=fun h=>by rw [L.free b hb h] at hlb;cases hlb
 obtain ⟨hc,hcb,hcf,hcm⟩:=hi.mt_ok g hb hm
 obtain ⟨c,hce⟩ : ∃ c,mt nd es b = c:=⟨_,rfl⟩
 rw [hce] at hc hcb hcf hcm ⊢
 have hab' : a ≠ b:=fun h=>by rw [h,hlb] at hla;cases hla
 have hlc : rd lb c = 0:=by
  rcases L.dom c hc.i with h|h|h
  ·exact h
  ·rcases L.ev c hc.i h with ⟨k,_⟩|⟨_,_,k,_⟩
   ·rw [hcf] at k;exact absurd k hm
   rw [hcm,hlb] at k;cases k
  have k:=(L.od c hc.i h).2.2.2.2.2.2.2
  rw [hcm,hlb] at k;cases k
 have hca : c ≠ a:=fun h=>by rw [h,hla] at hlc;cases hlc
 have lB : b < (lb.length : Int):=by rw [L.ll];exact hb.i.2
 have lC : c < ((lb.set b.toNat 2).length : Int):=by rw [List.length_set,L.ll];exact hc.i.2
 have rlb : ∀ {i : Int},0 ≤ i → rd ((lb.set b.toNat 2).set c.toNat 1) i = if i = c then 1 else if i = b then 2 else rd lb i:=fun h0=>by rw [he' hc.i.1 lC h0,he' hb.i.1 lB h0]
 have rah : ∀ {i : Int},0 ≤ i → rd ((ah.set b.toNat a).set c.toNat b) i = if i = c then b else if i = b then a else rd ah i:=fun h0=>by rw [he' hc.i.1 (by rw [List.length_set,L.la];exact hc.i.2) h0,he' hb.i.1 (by rw [L.la];exact hb.i.2) h0]
 have rbk : ∀ {i : Int},0 ≤ i → rd ((bk.set b.toNat e).set c.toNat (td' nd b).f3) i = if i = c then (td' nd b).f3 else if i = b then e else rd bk i:=fun h0=>by rw [he' hc.i.1 (by rw [List.length_set,L.lk];exact hc.i.2) h0,he' hb.i.1 (by rw [L.lk];exact hb.i.2) h0]
 have old : ∀ i,rd lb i = 1 ∨ rd lb i = 2 → i ≠ c ∧ i ≠ b:=fun i h=>⟨fun k=>by rw [k,hlc] at h;omega,fun k=>by rw [k,hlb] at h;omega⟩
 have rk0 : ∀ i,inR i nd.length → rd lb i ≠ 0 → (if i = b then K + 1 else if i = c then K + 2 else rk i) = rk i:=fun i hn h=>by
  have:=L.dom i hn
  have o:=old i aa'
  rw [if_neg o.2,if_neg o.1]
 refine ⟨hm,hc,hcb,hab',hca,hlc,⟨by rw [List.length_set,List.length_set];exact L.ll,by rw [List.length_set,List.length_set];exact L.la,by rw [List.length_set,List.length_set];exact L.lk,fun i hn=>?_,fun i hn h=>?_,fun i ht h=>?_,fun i hn h=>?_,fun i hn h=>?_,fun i hn h=>?_,?_⟩⟩
 ·rw [rlb hn.1]
  split
  ·exact .inr (.inl rfl)
  split
  ·exact .inr (.inr rfl)
  exact L.dom i hn
 ·rw [rlb hn.1] at h
  by_cases c1 : i = c
  ·rw [c1];exact hc
  by_cases c2 : i = b
  ·rw [c2];exact hb
  rw [if_neg c1,if_neg c2] at h;exact L.top i hn h
 ·have k:=L.free i ht h
  have o:=old i (.inl k)
  rw [rlb ht.i.1,if_neg o.1,if_neg o.2];exact k
 ·rw [rlb hn.1] at h
  by_cases c1 : i = c
  ·subst c1
   refine .inr ⟨by rw [hcf];exact hm,?_,?_,?_,?_⟩
   ·rw [rah hn.1,if_pos rfl,hcm]
   ·rw [hcm,rlb hb.i.1,if_neg hcb.symm,if_pos rfl]
   ·rw [rbk hn.1,if_pos rfl,hcf]
   show (if mt nd es i = b then K + 1 else _) < (if i = b then K + 1 else if i = i then K + 2 else rk i)
   rw [hcm,if_pos rfl,if_neg hcb,if_pos rfl]
   omega
  rw [if_neg c1] at h
  by_cases c2 : i = b
  ·rw [if_pos c2] at h;cases h
  rw [if_neg c2] at h
  rw [rah hn.1,if_neg c1,if_neg c2,rbk hn.1,if_neg c1,if_neg c2]
  rcases L.ev i hn h with ⟨k1,k2⟩|⟨k1,k2,k3,k4,k5⟩
  ·exact .inl ⟨k1,k2⟩
  have ht:=L.top i hn mb'
  have hmi:=(hi.mt_ok g ht k1).1.i
  have o:=old _ (.inr k3)
  refine .inr ⟨k1,k2,by rw [rlb hmi.1,if_neg o.1,if_neg o.2];exact k3,k4,?_⟩
  show (if mt nd es i = b then K + 1 else if mt nd es i = c then K + 2 else rk (mt nd es i)) < (if i = b then K + 1 else if i = c then K + 2 else rk i)
  rw [rk0 _ hmi (by rw [k3];decide),rk0 i hn mb']
  exact k5
 ·rw [rlb hn.1] at h
  by_cases c1 : i = c
  ·rw [if_pos c1] at h;cases h
  rw [if_neg c1] at h
  by_cases c2 : i = b
  ·subst c2
   have ra : rd ((ah.set i.toNat a).set c.toNat i) i = a:=by rw [rah hn.1,if_neg c1,if_pos rfl]
   have rb : rd ((bk.set i.toNat e).set c.toNat (td' nd i).f3) i = e:=by rw [rbk hn.1,if_neg c1,if_pos rfl]
   have oa:=old a (.inl hla)
   rw [ra,rb]
   refine ⟨ha,by rw [rlb ha.1,if_neg oa.1,if_neg oa.2];exact hla,?_,he,hs,hab,hm,by rw [hce,rlb hc.i.1,if_pos rfl]⟩
   show (if a = i then K + 1 else if a = c then K + 2 else rk a) < (if i = i then K + 1 else if i = c then K + 2 else rk i)
   rw [rk0 a ha (by rw [hla];decide),if_pos rfl]
   have:=L.rk a ha (by rw [hla];decide)
   omega
  rw [if_neg c2] at h
  have ra : rd ((ah.set b.toNat a).set c.toNat b) i = rd ah i:=by rw [rah hn.1,if_neg c1,if_neg c2]
  have rb : rd ((bk.set b.toNat e).set c.toNat (td' nd b).f3) i = rd bk i:=by rw [rbk hn.1,if_neg c1,if_neg c2]
  rw [ra,rb]
  obtain ⟨k1,k2,k3,k4,k5,k6,k7,k8⟩:=L.od i hn h
  have ht:=L.top i hn mb'
  have hmi:=(hi.mt_ok g ht k7).1.i
  have o1:=old _ (.inl k2)
  have o2:=old _ (.inl k8)
  refine ⟨k1,by rw [rlb k1.1,if_neg o1.1,if_neg o1.2];exact k2,?_,k4,k5,k6,k7,by rw [rlb hmi.1,if_neg o2.1,if_neg o2.2];exact k8⟩
  show (if rd ah i = b then K + 1 else if rd ah i = c then K + 2 else rk (rd ah i)) < (if i = b then K + 1 else if i = c then K + 2 else rk i)
  rw [rk0 _ k1 (by rw [k2];decide),rk0 i hn mb']
  exact k3
 ·rw [rlb hn.1] at h
  show (if i = b then K + 1 else if i = c then K + 2 else rk i) ≤ K + 2
  by_cases c2 : i = b
  ·rw [if_pos c2];omega
  by_cases c1 : i = c
  ·rw [if_neg c2,if_pos c1];omega
  rw [if_neg c1,if_neg c2] at h
  rw [if_neg c2,if_neg c1]
  have:=L.rk i hn h
  omega
 have e1:=count_set (x:=2) (show inR b lb.length by rw [L.ll];exact hb.i) hlb ba'
 have e2:=count_set (l:=lb.set b.toNat 2) (x:=1) (show inR c (lb.set b.toNat 2).length by rw [List.length_set,L.ll];exact hc.i) (by rw [he' hb.i.1 lB hc.i.1,if_neg hcb];exact hlc) ba'
 have:=L.cnt
 omega
end
theorem Qm' {l : List S56} {i j : Int} (x : S56) (h0 : 0 ≤ i) (h1 : i < (l.length : Int)) (hj : 0 ≤ j) : xd' (l.set i.toNat x) j = if j = i then x else xd' l j:=by
 unfold xd'
 by_cases c : j = i
 ·rw [if_pos c,c]
  have h : i.toNat < l.length:=by omega
  simp [h]
 rw [if_neg c]
 have h : i.toNat ≠ j.toNat:=by omega
 simp [List.getElem?_set,h]
theorem set2 {l : List Int} {b c i x z : Int} {n : Nat} (hl : l.length = n) (hb : inR b n) (hc : inR c n) (h0 : 0 ≤ i) : rd ((l.set b.toNat x).set c.toNat z) i = if i = c then z else if i = b then x else rd l i:=by
 subst hl
 rw [he' hc.1 (by rw [List.length_set];exact hc.2) h0,he' hb.1 hb.2 h0]
section
variable {N most : Int} {es : List S73} {D : Int} {y : List Int} {nd : List S89} {rn : List S77} {mts : List S56} {lb ah bk : List Int} {rk : Int → Nat} {K : Nat} {t : TI}
theorem Lab.ahead (g : Gph N most es) (hv : Inv N most es D y nd) (L : Lab es y nd lb ah bk rk K) {i : Int} (hi : inR i nd.length) (h : rd lb i ≠ 0) (ha : rd ah i ≠ -1) : inR (rd ah i) nd.length ∧ rd lb (rd ah i) ≠ 0 ∧ rk (rd ah i) < rk i:=by
 rcases L.dom i hi with k|k|k
 ·exact absurd k h
 ·rcases L.ev i hi k with ⟨_,q⟩|⟨q0,q1,q2,_,q3⟩
  ·exact absurd q ha
  rw [q1];exact ⟨(hv.mt_ok g (L.top i hi h) q0).1.i,by rw [q2];decide,q3⟩
 have q:=L.od i hi k
 exact ⟨q.1,by rw [q.2.1];decide,q.2.2.1⟩
theorem up' (g : Gph N most es) (hv : Inv N most es D y nd) (L : Lab es y nd lb ah bk rk K) (S : Fg' es nd lb ah bk t) {e a b c f : Int} {l m : S56} (he : inR e es.length) (hf : inR f es.length) (ha : inR a nd.length) (hb : inR b nd.length) (hc : inR c nd.length) (hla : rd lb a = 1) (hlb : rd lb b = 0) (hlc : rd lb c = 0) (hcb : c ≠ b)
  (hl : ie' es e l) (hl0 : topI nd l.f0 = a) (hl1 : topI nd l.f1 = b) (hm : ie' es f m) (hm0 : topI nd m.f0 = b) (hm1 : topI nd m.f1 = c) :
  Fg' es nd ((lb.set b.toNat 2).set c.toNat 1) ((ah.set b.toNat a).set c.toNat b) ((bk.set b.toNat e).set c.toNat f) (growT t a b l m c):=by
 have hab : a ≠ b:=fun h=>by rw [h,hlb] at hla;cases hla
 have hac : a ≠ c:=fun h=>by rw [h,hlc] at hla;cases hla
 have rlb : ∀ {i : Int},0 ≤ i → rd ((lb.set b.toNat 2).set c.toNat 1) i = if i = c then 1 else if i = b then 2 else rd lb i:=fun h0=>set2 L.ll hb hc h0
 have rah : ∀ {i : Int},0 ≤ i → rd ((ah.set b.toNat a).set c.toNat b) i = if i = c then b else if i = b then a else rd ah i:=fun h0=>set2 L.la hb hc h0
 have rbk : ∀ {i : Int},0 ≤ i → rd ((bk.set b.toNat e).set c.toNat f) i = if i = c then f else if i = b then e else rd bk i:=fun h0=>set2 L.lk hb hc h0
 have rta : ∀ {i : Int},0 ≤ i → xd' ((t.ah.set b.toNat l).set c.toNat m) i = if i = c then m else if i = b then l else xd' t.ah i:=fun h0=>by
  rw [Qm' _ hc.1 (by rw [List.length_set,S.la];exact hc.2) h0,Qm' _ hb.1 (by rw [S.la];exact hb.2) h0]
 have rrt : ∀ {i : Int},0 ≤ i → rd ((t.rt.set b.toNat (rd t.rt a)).set c.toNat (rd (t.rt.set b.toNat (rd t.rt a)) a)) i = if i = c then rd t.rt a else if i = b then rd t.rt a else rd t.rt i:=fun h0=>by
  rw [set2 S.lr hb hc h0,he' hb.1 (by rw [S.lr];exact hb.2) ha.1,if_neg hab]
 have old : ∀ {i : Int},rd lb i ≠ 0 → i ≠ c ∧ i ≠ b:=fun h=>⟨fun k=>h (k ▸ hlc),fun k=>h (k ▸ hlb)⟩
 have hb1 : b ≠ -1:=by have:=hb.1;omega
 have ha1 : a ≠ -1:=by have:=ha.1;omega
 have RR:=S.rr a ha (by rw [hla];decide)
 have root : ∀ {r : Int},inR r nd.length ∧ rd lb r = 1 ∧ rd ah r = -1 → inR r nd.length ∧ rd ((lb.set b.toNat 2).set c.toNat 1) r = 1 ∧ rd ((ah.set b.toNat a).set c.toNat b) r = -1:=fun {r} h=>by
  have o:=old (i:=r) (by rw [h.2.1];decide)
  refine ⟨h.1,?_,?_⟩
  ·rw [rlb h.1.1,if_neg o.1,if_neg o.2];exact h.2.1
  rw [rah h.1.1,if_neg o.1,if_neg o.2];exact h.2.2
 refine ⟨by rw [growT,S.tl],by rw [growT];simp only [List.length_set];exact S.la,by rw [growT];simp only [List.length_set];exact S.lr,fun i hi h1 h2=>?_,fun i hi h1 h2=>?_,fun i hi h1 h2=>?_,fun i hi h1=>?_⟩ <;> simp only [growT]
 ·rw [rlb hi.1] at h1
  rw [rah hi.1] at h2
  rw [rta hi.1,rbk hi.1,rah hi.1]
  by_cases d : i = c
  ·simp only [if_pos d]
   exact ⟨hm,hf,hm0,hm1.trans d.symm⟩
  simp only [if_neg d] at h1 h2 ⊢
  by_cases q : i = b
  ·simp only [if_pos q]
   exact ⟨hl,he,hl0,hl1.trans q.symm⟩
  simp only [if_neg q] at h1 h2 ⊢
  exact S.lk i hi h1 h2
 ·rw [rlb hi.1] at h1
  rw [rah hi.1] at h2
  rw [rrt hi.1]
  by_cases d : i = c
  ·rw [if_pos d] at h2;exact absurd h2 hb1
  rw [if_neg d] at h1 h2 ⊢
  by_cases q : i = b
  ·rw [if_pos q] at h2;exact absurd h2 ha1
  rw [if_neg q] at h1 h2 ⊢
  exact S.r0 i hi h1 h2
 ·rw [rlb hi.1] at h1
  rw [rah hi.1] at h2
  have e1 : rd ((ah.set b.toNat a).set c.toNat b) i = if i = c then b else if i = b then a else rd ah i:=rah hi.1
  rw [rrt hi.1,e1]
  by_cases d : i = c
  ·rw [if_pos d,if_pos d,rrt hb.1,if_neg hcb.symm,if_pos rfl]
  rw [if_neg d] at h1 h2 ⊢
  rw [if_neg d]
  by_cases q : i = b
  ·rw [if_pos q,if_pos q,rrt ha.1,if_neg hac,if_neg hab]
  rw [if_neg q] at h1 h2 ⊢
  rw [if_neg q]
  have k:=L.ahead g hv hi h1 h2
  have o:=old k.2.1
  rw [rrt k.1.1,if_neg o.1,if_neg o.2]
  exact S.r1 i hi h1 h2
 rw [rlb hi.1] at h1
 rw [rrt hi.1]
 by_cases d : i = c
 ·rw [if_pos d];exact root RR
 rw [if_neg d] at h1 ⊢
 by_cases q : i = b
 ·rw [if_pos q];exact root RR
 rw [if_neg q] at h1 ⊢
 exact root (S.rr i hi h1)
theorem Wk' (g : Gph N most es) (hi : Inv N most es D y nd) (hr : pe' es nd rn) (hm : ff' es nd mts) : ∀ (k : Nat) (lb ah bk : List Int) (t : TI) (rk : Int → Nat) (K : Nat),Lab es y nd lb ah bk rk K → Fg' es nd lb ah bk t → lb.count 0 < k →
  ∃ (e a c : Int) (lb' ah' bk' : List Int) (t' : TI) (rk' : Int → Nat) (K' : Nat),Lh' y nd es k lb ah bk = some ((e,a,c),lb',ah',bk') ∧ bh' N y (cvs rn) mts es k t = some (t',e) ∧ Lab es y nd lb' ah' bk' rk' K' ∧ Fg' es nd lb' ah' bk' t' ∧
   ((e = -1 ∧ ∀ i,inR i es.length → ¬mg' y nd lb' (ud' es i)) ∨ (inR e es.length ∧ mg' y nd lb' (ud' es e) ∧ rd lb' a = 1 ∧ rd lb' c = 1 ∧ a = topI nd (ud' es e).f0 ∧ c = topI nd (ud' es e).f1))
 | 0,lb,ah,bk,t,rk,K,L,S,hk=>absurd hk aa'
 | k + 1,lb,ah,bk,t,rk,K,L,S,hk=>by
  have hf:=Vk' g hi L.dom (es.length + 1) 0 aa' aa'
  have hs:=Uk' (lb:=lb) g hi (es.length + 1) 0 aa' aa'
  have hc:=Pm' (lb:=lb) g hi hr (es.length + 1) 0 aa'
  rw [Lh',bh',S.tl,hc,Df',hf]
  rcases hs with ⟨h1,h2⟩|⟨h1,h2,h3⟩
  ·rw [h1,if_pos rfl,if_pos rfl,if_pos rfl]
   exact ⟨-1,-1,-1,lb,ah,bk,t,rk,K,rfl,rfl,L,S,.inl ⟨rfl,fun i hr=>h2 i hr.1 hr.2⟩⟩
  generalize Ie' N y nd lb es (es.length + 1) 0 = e at h1 h2 h3 ⊢
  have he : inR e es.length:=⟨h1,h2⟩
  have hin:=hi.edge g he
  have ne : e ≠ -1:=by omega
  rw [if_neg ne,if_neg ne,if_neg ne,hr.top hi.wf hin.1,hr.top hi.wf hin.2]
  obtain ⟨g1,g2,g3,g4,g5⟩:=h3
  have ta:=hi.top_a g he
  have tb:=hi.top_b g he
  have step : ∀ (a b : Int) (l : S56),inR a nd.length → Top nd b → rd lb a = 1 → rd lb b = 0 → ie' es e l → topI nd l.f0 = a → topI nd l.f1 = b → (topI nd (ud' es e).f0 = a ∧ topI nd (ud' es e).f1 = b) ∨ (topI nd (ud' es e).f0 = b ∧ topI nd (ud' es e).f1 = a) →
    ∃ (e' a' c' : Int) (lb' ah' bk' : List Int) (t' : TI) (rk' : Int → Nat) (K' : Nat),
     (if inR (td' nd b).f3 es.length then Lh' y nd es k ((lb.set b.toNat 2).set (ze' nd es (td' nd b).f3 b).toNat 1) ((ah.set b.toNat a).set (ze' nd es (td' nd b).f3 b).toNat b) ((bk.set b.toNat e).set (ze' nd es (td' nd b).f3 b).toNat (td' nd b).f3) else none) = some ((e',a',c'),lb',ah',bk') ∧
     bh' N y (cvs rn) mts es k (Ph' (cvs rn) mts t a b l) = some (t',e') ∧ Lab es y nd lb' ah' bk' rk' K' ∧ Fg' es nd lb' ah' bk' t' ∧
     ((e' = -1 ∧ ∀ i,inR i es.length → ¬mg' y nd lb' (ud' es i)) ∨ (inR e' es.length ∧ mg' y nd lb' (ud' es e') ∧ rd lb' a' = 1 ∧ rd lb' c' = 1 ∧ a' = topI nd (ud' es e').f0 ∧ c' = topI nd (ud' es e').f1)):=by
   intro a b l ha hb hla hlb hl hl0 hl1 hab
   obtain ⟨q1,q2,q3,q4,q5,q6,q7⟩:=tq' g hi L he g2 ha hla hb hlb hab
   obtain ⟨m,m1,m2,m3,m4⟩:=Sh' g hi hr hm hb q1 mts (fun _ h=>h) (hm.b b hb q1)
   have M:=hi.mate b hb q1
   have hmi:=m2.vtx g M.ei
   have S2:=up' g hi L S he M.ei ha hb.i q2.i hla hlb q6 q3 hl hl0 hl1 m2 m3 m4
   have e1 : Ph' (cvs rn) mts t a b l = growT t a b l m (mt nd es b):=by
    rw [Ph',m1]
    show growT t a b l m (topI (cvs rn) m.f1) = _
    rw [hr.top hi.wf (hi.vtx hmi.2.1.1 hmi.2.1.2),m4]
   rw [if_pos M.ei,e1]
   refine Wk' g hi hr hm k _ _ _ _ _ _ q7 S2 ?_
   have c1:=count_set (x:=2) (show inR b lb.length by rw [L.ll];exact hb.i) hlb ba'
   have c2:=count_set (l:=lb.set b.toNat 2) (x:=1) (show inR (mt nd es b) (lb.set b.toNat 2).length by rw [List.length_set,L.ll];exact q2.i) (by rw [he' hb.i.1 (by rw [L.ll];exact hb.i.2) q2.i.1,if_neg q3];exact q6) ba'
   show ((lb.set b.toNat 2).set (mt nd es b).toNat 1).count 0 < k
   omega
  by_cases ca : rd lb (topI nd (ud' es e).f0) = 1
  ·rw [if_pos ca]
   by_cases cb : rd lb (topI nd (ud' es e).f1) = 1
   ·rw [if_pos cb,if_pos ⟨ca,cb⟩]
    exact ⟨_,_,_,_,_,_,_,_,_,rfl,rfl,L,S,.inr ⟨he,⟨g1,g2,g3,g4,g5⟩,ca,cb,rfl,rfl⟩⟩
   rw [if_neg cb]
   rw [if_neg (show ¬(rd lb (topI nd (ud' es e).f0) = 1 ∧ rd lb (topI nd (ud' es e).f1) = 1) from fun h=>cb h.2)]
   have e1 : Qh' (cvs rn) mts t (ud' es e) = Ph' (cvs rn) mts t (topI nd (ud' es e).f0) (topI nd (ud' es e).f1) ⟨(ud' es e).f0,(ud' es e).f1⟩:=by
    rw [Qh',S.tl,hr.top hi.wf hin.1,hr.top hi.wf hin.2,if_pos ca]
   rw [e1]
   exact step _ _ ⟨(ud' es e).f0,(ud' es e).f1⟩ ta.i tb ca (by rcases L.dom _ tb.i with h|h|h;exact h;exact absurd h cb;exact absurd h g5) (.inl ⟨rfl,rfl⟩) rfl rfl (.inl ⟨rfl,rfl⟩)
  have cb:=g3.resolve_left ca
  rw [if_neg ca,if_neg ca]
  rw [if_neg (show ¬(rd lb (topI nd (ud' es e).f0) = 1 ∧ rd lb (topI nd (ud' es e).f1) = 1) from fun h=>ca h.1)]
  have e1 : Qh' (cvs rn) mts t (ud' es e) = Ph' (cvs rn) mts t (topI nd (ud' es e).f1) (topI nd (ud' es e).f0) ⟨(ud' es e).f1,(ud' es e).f0⟩:=by
   rw [Qh',S.tl,hr.top hi.wf hin.1,hr.top hi.wf hin.2,if_neg ca]
  rw [e1]
  exact step _ _ ⟨(ud' es e).f1,(ud' es e).f0⟩ tb.i ta cb (by rcases L.dom _ ta.i with h|h|h;exact h;exact absurd h ca;exact absurd h g4) (.inr ⟨rfl,rfl⟩) rfl rfl (.inr ⟨rfl,rfl⟩)
end
theorem Ah' : ∀ {l m : List Int},l.Nodup → (∀ x ∈ l,x ∈ m) → l.length ≤ m.length
 | [],m,_,_=>Nat.zero_le _
 | x :: l,m,hn,hs=>by
  have hx:=hs x List.mem_cons_self
  have hn2:=List.nodup_cons.1 hn
  have:=Ah' (l:=l) (m:=m.erase x) hn2.2 fun z hz=>(List.mem_erase_of_ne (fun e : z = x=>hn2.1 (by rw [← e];exact hz))).2 (hs z (List.mem_cons_of_mem _ hz))
  rw [List.length_erase_of_mem hx] at this
  have:=List.length_pos_of_mem hx
  rw [List.length_cons]
  omega
inductive Way (ah : List Int) : Int → List Int → Prop
 | last {n : Int} (h : rd ah n = -1) : Way ah n [n]
 | more {n : Int} {l : List Int} (h : rd ah n ≠ -1) (w : Way ah (rd ah n) l) : Way ah n (n :: l)
section
variable {N most : Int} {es : List S73} {D : Int} {y : List Int} {nd : List S89} {rn : List S77} {mts : List S56} {lb ah bk : List Int} {rk : Int → Nat} {K : Nat} {t : TI}
theorem Inv.has_vtx (h : Inv N most es D y nd) : ∀ (k : Nat) (i : Int),i < k → inR i nd.length → (td' nd i).f6 = false → ∃ v,0 ≤ v ∧ v < N ∧ Ad' nd i v = true
 | 0,i,hk,hi,ho=>by have:=hi.1;omega
 | k + 1,i,hk,hi,ho=>by
  by_cases c : i < N
  ·exact ⟨i,hi.1,c,pg' h.wf hi⟩
  have R:=h.ring i aa' hi.2 ho
  have h3:=R.three
  obtain ⟨m,l,e⟩ : ∃ m l,(td' nd i).f0 = m :: l:=by
   cases hq : (td' nd i).f0 with
   | nil=>rw [hq] at h3;cases h3
   | cons m l=>exact ⟨m,l,rfl⟩
  have hm:=R.mem m (by rw [e];exact List.mem_cons_self)
  have hi1 : i ≠ -1:=by have:=hi.1;omega
  have hs : Ad' nd i m = true:=by
   have:=kp' h.wf hm.1 (by rw [hm.2];exact hi1) hm.1 (pg' h.wf hm.1)
   rw [hm.2] at this;exact this
  have lt : m < i:=by
   have l1:=fi' h.wf hi hm.1 hs
   have : m ≠ i:=fun e2=>by
    have:=h.wf
    have q:=Sk' h.wf hm.1
    rw [hm.2,e2,pg' h.wf hi] at q
    cases q
   omega
  have hmo : (td' nd m).f6 = false:=by
   cases q : (td' nd m).f6 with
   | false=>rfl
   | true=>have:=h.opn m hm.1 q;rw [hm.2] at this;exact absurd this hi1
  obtain ⟨v,v0,v1,v2⟩:=h.has_vtx k m aa' hm.1 hmo
  exact ⟨v,v0,v1,Nl' h.wf hi hm.1 hs (h.vtx v0 v1) v2⟩
theorem Inv.top_vtx (h : Inv N most es D y nd) {i : Int} (ht : Top nd i) : ∃ v,0 ≤ v ∧ v < N ∧ topI nd v = i:=by
 obtain ⟨v,v0,v1,v2⟩:=h.has_vtx (i.toNat + 1) i aa' ht.i ht.o
 exact ⟨v,v0,v1,(we' h.wf ht.i ht.u (h.vtx v0 v1)).1 v2⟩
theorem Inv.tops_len (g : Gph N most es) (h : Inv N most es D y nd) {l : List Int} (hn : l.Nodup) (ht : ∀ x ∈ l,Top nd x) : l.length ≤ 9:=by
 have:=Ah' (m:=(List.range N.toNat).map fun v : Nat=>topI nd v) hn fun x hx=>by
  obtain ⟨v,v0,v1,v2⟩:=h.top_vtx (ht x hx)
  exact List.mem_map.2 ⟨v.toNat,List.mem_range.2 aa',by rw [Int.toNat_of_nonneg v0];exact v2⟩
 rw [List.length_map,List.length_range] at this
 have:=g.n9
 omega
theorem Rm' (g : Gph N most es) (hi : Inv N most es D y nd) (L : Lab es y nd lb ah bk rk K) : ∀ (k : Nat) (n : Int),rk n < k → inR n nd.length → rd lb n ≠ 0 → ∃ l,Way ah n l
 | 0,n,hk,hn,hl=>by omega
 | k + 1,n,hk,hn,hl=>by
  by_cases c : rd ah n = -1
  ·exact ⟨_,.last c⟩
  have q:=L.ahead g hi hn hl c
  obtain ⟨l,w⟩:=Rm' g hi L k _ aa' q.1 q.2.1
  exact ⟨_,.more c w⟩
theorem Way.mem (g : Gph N most es) (hi : Inv N most es D y nd) (L : Lab es y nd lb ah bk rk K) {n : Int} {l : List Int} (w : Way ah n l) : inR n nd.length → rd lb n ≠ 0 → ∀ m ∈ l,inR m nd.length ∧ rd lb m ≠ 0 ∧ rk m ≤ rk n ∧ (m = n ∨ rk m < rk n):=by
 induction w with
 | last h =>
  intro hn hl m hm
  rw [List.mem_singleton] at hm
  subst hm
  exact ⟨hn,hl,Nat.le_refl _,.inl rfl⟩
 | more h w ih =>
  intro hn hl m hm
  have q:=L.ahead g hi hn hl h
  rcases List.mem_cons.1 hm with rfl|hm
  ·exact ⟨hn,hl,Nat.le_refl _,.inl rfl⟩
  have:=ih q.1 q.2.1 m hm
  exact ⟨this.1,this.2.1,aa',.inr aa'⟩
theorem Way.nodup (g : Gph N most es) (hi : Inv N most es D y nd) (L : Lab es y nd lb ah bk rk K) {n : Int} {l : List Int} (w : Way ah n l) : inR n nd.length → rd lb n ≠ 0 → l.Nodup:=by
 induction w with
 | last h=>intro _ _;exact List.nodup_cons.2 ⟨List.not_mem_nil,List.nodup_nil⟩
 | more h w ih =>
  intro hn hl
  have q:=L.ahead g hi hn hl h
  refine List.nodup_cons.2 ⟨fun hm=>?_,ih q.1 q.2.1⟩
  have:=(w.mem g hi L q.1 q.2.1 _ hm).2.2.1
  omega
theorem Way.len (g : Gph N most es) (hi : Inv N most es D y nd) (L : Lab es y nd lb ah bk rk K) {n : Int} {l : List Int} (w : Way ah n l) (hn : inR n nd.length) (hl : rd lb n ≠ 0) : l.length ≤ 9 :=
 hi.tops_len g (w.nodup g hi L hn hl) fun x hx=>have q:=w.mem g hi L hn hl x hx;L.top x q.1 q.2.1
theorem Way.head {n : Int} {l : List Int} (w : Way ah n l) : ∃ l',l = n :: l':=by
 cases w with
 | last h=>exact ⟨_,rfl⟩
 | more h w=>exact ⟨_,rfl⟩
theorem Way.root (g : Gph N most es) (hi : Inv N most es D y nd) (L : Lab es y nd lb ah bk rk K) (S : Fg' es nd lb ah bk t) {n : Int} {l : List Int} (w : Way ah n l) : inR n nd.length → rd lb n ≠ 0 → ∀ m ∈ l,rd t.rt m = rd t.rt n:=by
 induction w with
 | last h=>intro hn hl m hm;rw [List.mem_singleton] at hm;rw [hm]
 | more h w ih =>
  intro hn hl m hm
  have q:=L.ahead g hi hn hl h
  rcases List.mem_cons.1 hm with rfl|hm
  ·rfl
  rw [ih q.1 q.2.1 m hm,S.r1 _ hn hl h]
theorem Way.root_mem (g : Gph N most es) (hi : Inv N most es D y nd) (L : Lab es y nd lb ah bk rk K) (S : Fg' es nd lb ah bk t) {n : Int} {l : List Int} (w : Way ah n l) : inR n nd.length → rd lb n ≠ 0 → rd t.rt n ∈ l:=by
 induction w with
 | last h=>intro hn hl;rw [S.r0 _ hn hl h];exact List.mem_singleton.2 rfl
 | more h w ih =>
  intro hn hl
  have q:=L.ahead g hi hn hl h
  rw [S.r1 _ hn hl h]
  exact List.mem_cons_of_mem _ (ih q.1 q.2.1)
theorem Way.rootF (g : Gph N most es) (hi : Inv N most es D y nd) (L : Lab es y nd lb ah bk rk K) (S : Fg' es nd lb ah bk t) {n : Int} {l : List Int} (w : Way ah n l) : inR n nd.length → rd lb n ≠ 0 → ∀ k,l.length ≤ k → QFnExactSolve.rootF ah k n = some (rd t.rt n):=by
 induction w with
 | @last n h =>
  intro hn hl k hk
  obtain ⟨k,rfl⟩ : ∃ q,k = q + 1:=⟨k - 1,by rw [List.length_singleton] at hk;omega⟩
  rw [S.r0 n hn hl h,QFnExactSolve.rootF,if_pos bc',if_pos h]
 | @more n l h w ih =>
  intro hn hl k hk
  obtain ⟨k,rfl⟩ : ∃ q,k = q + 1:=⟨k - 1,by rw [List.length_cons] at hk;omega⟩
  have q:=L.ahead g hi hn hl h
  rw [List.length_cons] at hk
  rw [S.r1 n hn hl h,QFnExactSolve.rootF,if_pos bc',if_neg h]
  exact ih q.1 q.2.1 k aa'
theorem Way.shape (g : Gph N most es) (hi : Inv N most es D y nd) (L : Lab es y nd lb ah bk rk K) {n : Int} {l : List Int} (w : Way ah n l) : inR n nd.length → rd lb n ≠ 0 → ∀ m ∈ l,(rd ah m ≠ -1 → rd ah m ∈ l) ∧ (m = n ∨ ∃ b ∈ l,rd ah b = m ∧ rd ah b ≠ -1 ∧ rd lb b + rd lb m = 3):=by
 induction w with
 | last h =>
  intro hn hl m hm
  rw [List.mem_singleton] at hm
  subst hm
  exact ⟨fun k=>absurd h k,.inl rfl⟩
 | @more n l h w ih =>
  intro hn hl m hm
  have q:=L.ahead g hi hn hl h
  have q3 : rd lb n + rd lb (rd ah n) = 3:=by
   rcases L.dom n hn with k|k|k
   ·exact absurd k hl
   ·rcases L.ev n hn k with ⟨_,e⟩|⟨_,e1,e2,_⟩
    ·exact absurd e h
    rw [k,e1,e2];rfl
   rw [k,(L.od n hn k).2.1];rfl
  rcases List.mem_cons.1 hm with rfl|hm
  ·refine ⟨fun _=>List.mem_cons_of_mem _ ?_,.inl rfl⟩
   obtain ⟨l',e⟩:=w.head
   rw [e];exact List.mem_cons_self
  obtain ⟨a,b⟩:=ih q.1 q.2.1 m hm
  refine ⟨fun k=>List.mem_cons_of_mem _ (a k),.inr ?_⟩
  rcases b with rfl|⟨b,b1,b2,b3,b4⟩
  ·exact ⟨n,List.mem_cons_self,rfl,h,q3⟩
  exact ⟨b,List.mem_cons_of_mem _ b1,b2,b3,b4⟩
theorem ul' (g : Gph N most es) (hi : Inv N most es D y nd) (L : Lab es y nd lb ah bk rk K) : ∀ (k : Nat) (n e : Int) (l : List Int) (nd1 : List S89),Way ah n l → l.length < k → inR n nd.length → rd lb n = 1 → nd1.length = nd.length →
  ∃ nd2,sh' ah bk k n e nd1 = some nd2 ∧ nd2.length = nd1.length ∧ (∀ j,inR j nd.length → ∃ f,td' nd2 j = { td' nd1 j with f3:=f } ∧ (j ∉ l → f = (td' nd1 j).f3)) ∧ (td' nd2 n).f3 = e ∧ ∀ b ∈ l,rd lb b = 2 → (td' nd2 b).f3 = rd bk b ∧ (td' nd2 (rd ah b)).f3 = rd bk b
 | 0,n,e,l,nd1,w,hk,hn,hl,h1=>by omega
 | k + 1,n,e,l,nd1,w,hk,hn,hl,h1=>by
  have hn1 : inR n nd1.length:=by rw [h1];exact hn
  have hna : inR n ah.length:=by rw [L.la];exact hn
  rw [sh',if_neg (show ¬n = -1 by have:=hn.1;omega),if_pos ⟨hn1,hna⟩]
  cases w with
  | last h =>
   rw [if_pos h]
   refine ⟨_,rfl,Ue',fun j hj=>?_,by rw [zf' hn1 hn.1,if_pos rfl],fun b hb h2=>?_⟩
   ·rw [zf' hn1 hj.1]
    by_cases c : j = n
    ·subst c;rw [if_pos rfl];exact ⟨_,rfl,fun q=>absurd (List.mem_singleton.2 rfl) q⟩
    rw [if_neg c];exact ⟨_,rfl,fun _=>rfl⟩
   rw [List.mem_singleton] at hb
   rw [hb,hl] at h2;cases h2
  | @more _ l h w =>
   have q:=L.ahead g hi hn (by rw [hl];decide) h
   have hb2 : rd lb (rd ah n) = 2:=by
    rcases L.ev n hn hl with ⟨_,z⟩|⟨_,z1,z2,_⟩
    ·exact absurd z h
    rw [z1];exact z2
   have hbn : rd ah n ≠ n:=fun z=>by rw [z,hl] at hb2;cases hb2
   generalize hbd : rd ah n = b at *
   have hb1 : inR b nd1.length:=by rw [h1];exact q.1
   rw [if_neg h,if_pos ⟨hb1,by rw [L.la];exact q.1,by rw [L.lk];exact q.1⟩]
   have O:=L.od b q.1 hb2
   have nodb:=w.nodup g hi L q.1 q.2.1
   cases w with
   | last h0=>exact absurd h0 (by have:=O.1.1;omega)
   | @more _ l h0 w =>
    have hl2 : (mateAt (mateAt nd1 n e) b (rd bk b)).length = nd.length:=by rw [Ue',Ue',h1]
    rw [List.length_cons,List.length_cons] at hk
    obtain ⟨nd2,e1,e2,e3,e4,e5⟩:=ul' g hi L k (rd ah b) (rd bk b) l _ w aa' O.1 O.2.1 hl2
    have M:=w.mem g hi L O.1 (by rw [O.2.1];decide)
    have nb : b ∉ l:=(List.nodup_cons.1 nodb).1
    have nn : n ∉ l:=fun z=>by have:=(M n z).2.2.1;have:=O.2.2.1;have:=q.2.2;omega
    have bl : inR b (mateAt nd1 n e).length:=by rw [Ue'];exact hb1
    have R0 : ∀ {j : Int},0 ≤ j → td' (mateAt (mateAt nd1 n e) b (rd bk b)) j = if j = b then { td' nd1 b with f3:=rd bk b } else if j = n then { td' nd1 n with f3:=e } else td' nd1 j:=fun {j} h=>by
     rw [zf' bl h,zf' hn1 h,zf' hn1 q.1.1,if_neg hbn]
    refine ⟨nd2,e1,by rw [e2,hl2,h1],fun j hj=>?_,?_,fun z hz hz2=>?_⟩
    ·obtain ⟨f,f1,f2⟩:=e3 j hj
     rw [f1]
     refine ⟨f,?_,fun hjl=>?_⟩
     ·rw [R0 hj.1]
      split
      ·rename_i c;rw [c]
      split
      ·rename_i c;rw [c]
      rfl
     have c1 : j ≠ n:=fun z=>hjl (z ▸ List.mem_cons_self)
     have c2 : j ≠ b:=fun z=>hjl (z ▸ List.mem_cons_of_mem _ List.mem_cons_self)
     rw [f2 (fun z=>hjl (List.mem_cons_of_mem _ (List.mem_cons_of_mem _ z))),R0 hj.1,if_neg c2,if_neg c1]
    ·obtain ⟨f,f1,f2⟩:=e3 n hn
     rw [f1]
     show f = e
     rw [f2 nn,R0 hn.1,if_neg hbn.symm,if_pos rfl]
    rcases List.mem_cons.1 hz with rfl|hz
    ·rw [hl] at hz2;cases hz2
    rcases List.mem_cons.1 hz with rfl|hz
    ·refine ⟨?_,e4⟩
     obtain ⟨f,f1,f2⟩:=e3 z q.1
     rw [f1]
     show f = _
     rw [f2 nb,R0 q.1.1,if_pos rfl]
    exact e5 z hz hz2
end
structure Se' (nd nd' : List S89) : Prop where
 l : nd'.length = nd.length
 n : ∀ j,inR j nd.length → ∃ f,td' nd' j = { td' nd j with f3:=f }
section
variable {N most : Int} {es : List S73} {D : Int} {y : List Int} {nd nd' nd2 : List S89} {rn : List S77} {mts : List S56} {lb ah bk : List Int} {rk : Int → Nat} {K : Nat} {t : TI}
theorem Se'.trans (h : Se' nd nd') (k : Se' nd' nd2) : Se' nd nd2:=⟨k.l.trans h.l,fun j hj=>by
 obtain ⟨f,e⟩:=k.n j (by rw [h.l];exact hj)
 obtain ⟨f',e'⟩:=h.n j hj
 exact ⟨f,by rw [e,e']⟩⟩
theorem Se'.f (h : Se' nd nd') {j : Int} (hj : inR j nd.length) : (td' nd' j).f0 = (td' nd j).f0 ∧ (td' nd' j).f1 = (td' nd j).f1 ∧ (td' nd' j).f2 = (td' nd j).f2 ∧ (td' nd' j).f4 = (td' nd j).f4 ∧ (td' nd' j).f5 = (td' nd j).f5 ∧ (td' nd' j).f6 = (td' nd j).f6:=by
 obtain ⟨f,e⟩:=h.n j hj
 rw [e]
 exact ⟨rfl,rfl,rfl,rfl,rfl,rfl⟩
theorem Se'.up (h : Se' nd nd') : up60 nd nd':=⟨h.l,fun j hj=>(h.f hj).2.2.1⟩
theorem Se'.top (h : Se' nd nd') {i : Int} : Top nd' i ↔ Top nd i:=by
 constructor
 ·intro t
  have hi : inR i nd.length:=by rw [← h.l];exact t.i
  exact ⟨hi,(h.f hi).2.2.1.symm.trans t.u,(h.f hi).2.2.2.2.2.symm.trans t.o⟩
 intro t
 exact ⟨by rw [h.l];exact t.i,(h.f t.i).2.2.1.trans t.u,(h.f t.i).2.2.2.2.2.trans t.o⟩
theorem Se'.topI (h : Se' nd nd') (hw : WFn nd) {v : Int} (hv : inR v nd.length) : topI nd' v = QFnExactSolve.topI nd v:=(mf' h.up hw).2.1 v hv
theorem Se'.has (h : Se' nd nd') (hw : WFn nd) {a v : Int} (ha : a ≠ -1) (hv : inR v nd.length) : Ad' nd' a v = Ad' nd a v:=(mf' h.up hw).2.2 a ha v hv
theorem Se'.zsum (h : Se' nd nd') (hw : WFn nd) {a b : Int} (ha : inR a nd.length) (hb : inR b nd.length) : Qe' nd' a b = Qe' nd a b:=by
 unfold Qe'
 rw [h.l]
 refine Nf' fun i h0 h1=>?_
 unfold zOf
 rw [h.has hw aa' ha,h.has hw aa' hb,(h.f ⟨h0,h1⟩).2.2.2.2.1]
theorem Se'.slE (h : Se' nd nd') (hw : WFn nd) {x : S73} (ha : inR x.f0 nd.length) (hb : inR x.f1 nd.length) : slE y nd' x = QFnExactSolve.slE y nd x:=by
 unfold QFnExactSolve.slE
 rw [h.zsum hw ha hb]
theorem Se'.ring (g : Gph N most es) (hi : Inv N most es D y nd) (h : Se' nd nd') {i : Int} (hin : inR i nd.length) (R : Mg' es y nd i) : Mg' es y nd' i:=by
 have f:=h.f hin
 refine ⟨by rw [f.1];exact R.odd,by rw [f.1];exact R.three,by rw [f.1,f.2.1];exact R.lkl,by rw [f.1];exact R.nod,?_,?_⟩
 ·rw [f.1]
  intro m hm
  have:=R.mem m hm
  exact ⟨by rw [h.l];exact this.1,(h.f this.1).2.2.1.trans this.2⟩
 rw [f.1,f.2.1]
 intro k hk
 obtain ⟨k1,k2,k3⟩:=R.lnk k hk
 have e:=hi.edge g k1
 have m1 : inR (rd (td' nd i).f0 k) nd.length:=(R.mem _ (Vd' _ _ hk.1 hk.2)).1
 have hk2 : 0 ≤ (k + 1) % ((td' nd i).f0.length : Int) ∧ (k + 1) % ((td' nd i).f0.length : Int) < (td' nd i).f0.length:=Le' (by have:=R.three;omega)
 have m2 : inR (rd (td' nd i).f0 ((k + 1) % (td' nd i).f0.length)) nd.length:=(R.mem _ (Vd' _ _ hk2.1 hk2.2)).1
 refine ⟨k1,by rw [h.slE hi.wf e.1 e.2];exact k2,?_⟩
 unfold yg' at k3 ⊢
 have n1 : rd (td' nd i).f0 k ≠ -1:=by have:=m1.1;omega
 have n2 : rd (td' nd i).f0 ((k + 1) % (td' nd i).f0.length) ≠ -1:=by have:=m2.1;omega
 rw [h.has hi.wf n1 e.1,h.has hi.wf n1 e.2,h.has hi.wf n2 e.1,h.has hi.wf n2 e.2]
 exact k3
structure gf' (es : List S73) (y : List Int) (nd nd' : List S89) (e a b : Int) : Prop where
 ei : inR e es.length
 sl : slE y nd (ud' es e) = 0
 ne : a ≠ b
 j : (topI nd (ud' es e).f0 = a ∧ topI nd (ud' es e).f1 = b) ∨ (topI nd (ud' es e).f0 = b ∧ topI nd (ud' es e).f1 = a)
 a : (td' nd' a).f3 = e
 b : (td' nd' b).f3 = e
theorem gf'.symm {e a b : Int} (h : gf' es y nd nd' e a b) : gf' es y nd nd' e b a:=⟨h.ei,h.sl,h.ne.symm,h.j.symm,h.b,h.a⟩
theorem gf'.ok (g : Gph N most es) (hi : Inv N most es D y nd) (h : Se' nd nd') {e a b : Int} (p : gf' es y nd nd' e a b) : Tk' es y nd' a:=by
 have hin:=hi.edge g p.ei
 have e0:=h.topI hi.wf hin.1
 have e1:=h.topI hi.wf hin.2
 refine ⟨by rw [p.a];exact p.ei,by rw [p.a,h.slE hi.wf hin.1 hin.2];exact p.sl,?_,?_,?_,?_⟩ <;> rw [p.a]
 ·rw [e0,e1]
  rcases p.j with ⟨x,z⟩|⟨x,z⟩ <;> rw [x,z]
  ·exact p.ne
  exact p.ne.symm
 ·rw [e0,e1]
  rcases p.j with ⟨x,z⟩|⟨x,z⟩
  ·exact .inl x
  exact .inr z
 ·rw [e0]
  rcases p.j with ⟨x,z⟩|⟨x,z⟩ <;> rw [x]
  ·exact p.a
  exact p.b
 rw [e1]
 rcases p.j with ⟨x,z⟩|⟨x,z⟩ <;> rw [z]
 ·exact p.b
 exact p.a
theorem Inv.pair (g : Gph N most es) (hi : Inv N most es D y nd) {i : Int} (ht : Top nd i) (hm : (td' nd i).f3 ≠ -1) : gf' es y nd nd (td' nd i).f3 i (mt nd es i):=by
 have M:=hi.mate i ht hm
 have q:=hi.mt_ok g ht hm
 refine ⟨M.ei,M.sl,q.2.1.symm,?_,rfl,q.2.2.1⟩
 unfold mt ze'
 by_cases c : QFnExactSolve.topI nd (ud' es (td' nd i).f3).f0 = i
 ·rw [if_pos c];exact .inl ⟨c,rfl⟩
 rw [if_neg c];exact .inr ⟨rfl,M.tt.resolve_left c⟩
theorem Inv.remate (g : Gph N most es) (hi : Inv N most es D y nd) (h : Se' nd nd') (hm : ∀ i,Top nd i → (td' nd' i).f3 ≠ -1 → Tk' es y nd' i) (hf : ∀ i,Top nd i → (td' nd' i).f3 = -1 → (td' nd i).f3 = -1) : Inv N most es D y nd':=by
 have hv : ∀ {i : Int},0 ≤ i → i < N → inR i nd.length:=fun a b=>hi.vtx a b
 refine ⟨hi.yl,by rw [h.l];exact hi.nn,by rw [h.l];exact hi.sz,(mf' h.up hi.wf).1,fun i h0 h1=>?_,fun i hn ho=>?_,fun m hn hu=>?_,fun i h0 h1 ho=>?_,fun i ht=>hm i (h.top.1 ht),fun i ht hq=>?_,fun i hn=>?_,hi.yy,hi.dd,fun e he=>?_,fun u v hu hv e=>?_⟩
 ·have f:=h.f (hv h0 h1)
  rw [f.1,f.2.2.2.1,f.2.2.2.2.1,f.2.2.2.2.2]
  exact hi.ver i h0 h1
 ·rw [h.l] at hn
  have f:=h.f hn
  rw [f.2.2.1]
  exact hi.opn i hn (f.2.2.2.2.2.symm.trans ho)
 ·rw [h.l] at hn
  have f:=h.f hn
  rw [f.2.2.1] at hu ⊢
  have hp:=(te' hi.wf hn).resolve_left hu
  have f2:=h.f hp
  rw [f2.1,f2.2.2.2.2.2]
  exact hi.par m hn hu
 ·rw [h.l] at h1
  have hin : inR i nd.length:=⟨Ba',h1⟩
  exact h.ring g hi hin (hi.ring i h0 h1 ((h.f hin).2.2.2.2.2.symm.trans ho))
 ·have ht2:=h.top.1 ht
  have F:=hi.free i ht2 (hf i ht2 hq)
  have f:=h.f ht2.i
  have hin : inR (td' nd i).f4 nd.length:=hv F.v.1 F.v.2
  refine ⟨by rw [f.2.2.2.1];exact F.v,?_,fun j hj k=>?_,by rw [f.2.2.2.1];exact F.yv⟩
  ·rw [f.2.2.2.1,h.has hi.wf (by have:=ht2.i.1;omega) hin];exact F.h
  rw [h.l] at hj
  rw [f.2.2.2.1] at k ⊢
  rw [h.has hi.wf (by have:=hj.1;omega) hin] at k
  rw [(h.f hj).2.2.2.1]
  exact F.b j hj k
 ·rw [h.l] at hn
  rw [(h.f hn).2.2.2.2.1]
  exact hi.zz i hn
 ·have hin:=hi.edge g he
  rw [h.slE hi.wf hin.1 hin.2]
  exact hi.sl e he
 have a : inR u nd.length:=hi.vtx hu.1 cc'
 have b : inR v nd.length:=hi.vtx hv.1 zb'
 rw [h.topI hi.wf a,h.topI hi.wf b] at e
 exact hi.pa u v hu hv e
theorem Way.mates (g : Gph N most es) (hi : Inv N most es D y nd) (L : Lab es y nd lb ah bk rk K) {n : Int} {l : List Int} (w : Way ah n l) (hn : inR n nd.length) (hl : rd lb n = 1) {m : Int} (hm : m ∈ l) (hq : (td' nd m).f3 ≠ -1) : mt nd es m ∈ l:=by
 have h0 : rd lb n ≠ 0:=by rw [hl];decide
 have M:=w.mem g hi L hn h0
 have S:=w.shape g hi L hn h0 m hm
 have mm:=M m hm
 have odd : rd lb m = 2 → mt nd es m ∈ l:=fun h2=>by
  rcases S.2 with rfl|⟨b,b1,b2,b3,b4⟩
  ·rw [hl] at h2;cases h2
  have mb:=M b b1
  have hb : rd lb b = 1:=by omega
  rcases L.ev b mb.1 hb with ⟨_,z⟩|⟨z1,z2,_⟩
  ·exact absurd z b3
  have k:=(hi.mt_ok g (L.top b mb.1 mb.2.1) z1).2.2.2
  rw [← z2,b2] at k
  rw [k];exact b1
 rcases L.dom m mm.1 with k|k|k
 ·exact absurd k mm.2.1
 ·rcases L.ev m mm.1 k with ⟨z,_⟩|⟨z1,z2,z3,_⟩
  ·exact absurd z hq
  rw [← z2]
  refine S.1 ?_
  rw [z2]
  have:=(hi.mt_ok g (L.top m mm.1 mm.2.1) z1).1.i.1
  omega
 exact odd k
end
theorem sk' {α : Type} {l : List α} {x : α} (h : l.Nodup) (hx : x ∉ l) : (l ++ [x]).Nodup:=by
 rw [List.nodup_append]
 refine ⟨h,List.nodup_cons.2 ⟨List.not_mem_nil,List.nodup_nil⟩,fun a ha b hb e=>?_⟩
 rw [List.mem_singleton] at hb
 exact hx (hb ▸ e ▸ ha)
theorem ti' {nd : List S89} {t : Int} {x : S56} : ∀ {l : List S56},x ∈ Of' nd t l ↔ x ∈ l ∧ topI nd x.f0 ≠ t ∧ topI nd x.f1 ≠ t
 | []=>by rw [Of'];exact ⟨fun h=>absurd h List.not_mem_nil,fun h=>h.1⟩
 | z :: l=>by
  rw [Of']
  split
  ·rename_i c
   rw [List.mem_cons,List.mem_cons,ti']
   constructor
   ·rintro (rfl|h)
    ·exact ⟨.inl rfl,c⟩
    exact ⟨.inr h.1,h.2⟩
   rintro ⟨rfl|h,k⟩
   ·exact .inl rfl
   exact .inr ⟨h,k⟩
  rename_i c
  rw [List.mem_cons,ti']
  constructor
  ·rintro ⟨h,k⟩;exact ⟨.inr h,k⟩
  rintro ⟨rfl|h,k⟩
  ·exact absurd k c
  exact ⟨h,k⟩
theorem Cj' {nd : List S89} {t : Int} : ∀ {l : List S56},l.Nodup → (Of' nd t l).Nodup
 | [],h=>h
 | z :: l,h=>by
  have h2:=List.nodup_cons.1 h
  rw [Of']
  split
  ·exact List.nodup_cons.2 ⟨fun k=>h2.1 (ti'.1 k).1,Cj' h2.2⟩
  exact Cj' h2.2
theorem zg' {nd : List S89} {x : S56} : ∀ {ws : List Int} {l : List S56},x ∈ wlF nd ws l ↔ x ∈ l ∧ ∀ n ∈ ws,topI nd x.f0 ≠ n ∧ topI nd x.f1 ≠ n
 | [],l=>by rw [wlF];exact ⟨fun h=>⟨h,fun n hn=>absurd hn List.not_mem_nil⟩,fun h=>h.1⟩
 | z :: ws,l=>by
  rw [wlF,zg',ti']
  constructor
  ·rintro ⟨⟨h,k⟩,q⟩
   refine ⟨h,fun n hn=>?_⟩
   rcases List.mem_cons.1 hn with rfl|hn
   ·exact k
   exact q n hn
  rintro ⟨h,q⟩
  exact ⟨⟨h,q z List.mem_cons_self⟩,fun n hn=>q n (List.mem_cons_of_mem _ hn)⟩
theorem vl' {nd : List S89} : ∀ {ws : List Int} {l : List S56},l.Nodup → (wlF nd ws l).Nodup
 | [],l,h=>h
 | z :: ws,l,h=>by rw [wlF];exact vl' (Cj' h)
theorem Uh' {lb : List Int} {ah : List S56} {x : S56} : ∀ {ws : List Int} {l : List S56},x ∈ ahF lb ah ws l ↔ x ∈ l ∨ ∃ n ∈ ws,rd lb n = 2 ∧ x = xd' ah n
 | [],l=>by rw [ahF];exact ⟨.inl,fun h=>h.elim id fun ⟨n,hn,_⟩=>absurd hn List.not_mem_nil⟩
 | z :: ws,l=>by
  rw [ahF,Uh']
  constructor
  ·rintro (h|⟨n,hn,k⟩)
   ·by_cases c : rd lb z = 2
    ·rw [if_pos c,List.mem_append,List.mem_singleton] at h
     rcases h with h|h
     ·exact .inl h
     exact .inr ⟨z,List.mem_cons_self,c,h⟩
    rw [if_neg c] at h;exact .inl h
   exact .inr ⟨n,List.mem_cons_of_mem _ hn,k⟩
  rintro (h|⟨n,hn,k1,k2⟩)
  ·left
   split
   ·exact List.mem_append_left _ h
   exact h
  rcases List.mem_cons.1 hn with rfl|hn
  ·left;rw [if_pos k1,List.mem_append,List.mem_singleton];exact .inr k2
  exact .inr ⟨n,hn,k1,k2⟩
theorem wl' {lb : List Int} {ah : List S56} : ∀ {ws : List Int} {l : List S56},l.Nodup → ws.Nodup → (∀ n ∈ ws,∀ k ∈ ws,rd lb n = 2 → rd lb k = 2 → xd' ah n = xd' ah k → n = k) → (∀ n ∈ ws,rd lb n = 2 → xd' ah n ∉ l) → (ahF lb ah ws l).Nodup
 | [],l,h,_,_,_=>h
 | z :: ws,l,h,hw,hj,hx=>by
  have h2:=List.nodup_cons.1 hw
  rw [ahF]
  refine wl' ?_ h2.2 (fun n hn k hk=>hj n (List.mem_cons_of_mem _ hn) k (List.mem_cons_of_mem _ hk)) fun n hn q=>?_
  ·split
   ·rename_i c;exact sk' h (hx z List.mem_cons_self c)
   exact h
  split
  ·rename_i c
   rw [List.mem_append,List.mem_singleton]
   rintro (r|r)
   ·exact hx n (List.mem_cons_of_mem _ hn) q r
   have:=hj n (List.mem_cons_of_mem _ hn) z List.mem_cons_self q c r
   exact h2.1 (this ▸ hn)
  exact hx n (List.mem_cons_of_mem _ hn) q
section
variable {N most : Int} {es : List S73} {D : Int} {y : List Int} {nd nd' nd2 : List S89} {rn : List S77} {mts : List S56} {lb ah bk : List Int} {rk : Int → Nat} {K : Nat} {t : TI}
theorem gf'.link (g : Gph N most es) (hi : Inv N most es D y nd) (h : Se' nd nd') {e a b : Int} (p : gf' es y nd nd' e a b) {l : S56} (hl : ie' es e l) : ∃ e,inR e es.length ∧ ie' es e l ∧ topI nd' l.f0 ≠ topI nd' l.f1 ∧ (td' nd' (topI nd' l.f0)).f3 = e ∧ (td' nd' (topI nd' l.f1)).f3 = e:=by
 have hv:=hl.vtx g p.ei
 rw [h.topI hi.wf (hi.vtx hv.1.1 hv.1.2),h.topI hi.wf (hi.vtx hv.2.1.1 hv.2.1.2)]
 refine ⟨e,p.ei,hl,?_⟩
 rcases hl.tops (nd:=nd) with ⟨x,z⟩|⟨x,z⟩ <;> rw [x,z] <;> rcases p.j with ⟨u,v⟩|⟨u,v⟩ <;> rw [u,v]
 ·exact ⟨p.ne,p.a,p.b⟩
 ·exact ⟨p.ne.symm,p.b,p.a⟩
 ·exact ⟨p.ne.symm,p.b,p.a⟩
 exact ⟨p.ne,p.a,p.b⟩
theorem flips (g : Gph N most es) (hi : Inv N most es D y nd) (hr : pe' es nd rn) (hm : ff' es nd mts) (hd : mts.Nodup) (L : Lab es y nd lb ah bk rk K) (S : Fg' es nd lb ah bk t) {e a c : Int} {ws us : List Int} (he : inR e es.length) (hs : slE y nd (ud' es e) = 0)
  (ea : topI nd (ud' es e).f0 = a) (ec : topI nd (ud' es e).f1 = c) (la : rd lb a = 1) (lc : rd lb c = 1) (wa : Way ah a ws) (wc : Way ah c us) (hrt : rd t.rt a ≠ rd t.rt c) {k : Nat} (k1 : ws.length < k) (k2 : us.length < k) :
  ∃ nd1 nd2,sh' ah bk k a e nd = some nd1 ∧ sh' ah bk k c e nd1 = some nd2 ∧ Se' nd nd2 ∧ Inv N most es D y nd2 ∧
   ff' es nd2 (ahF lb t.ah us (ahF lb t.ah ws (wlF (cvs rn) us (wlF (cvs rn) ws mts) ++ [⟨(ud' es e).f0,(ud' es e).f1⟩]))) ∧ (ahF lb t.ah us (ahF lb t.ah ws (wlF (cvs rn) us (wlF (cvs rn) ws mts) ++ [⟨(ud' es e).f0,(ud' es e).f1⟩]))).Nodup ∧
   (∀ i,Top nd i → (td' nd2 i).f3 = -1 → (td' nd i).f3 = -1) ∧ ∃ r,Top nd r ∧ (td' nd r).f3 = -1 ∧ (td' nd2 r).f3 ≠ -1:=by
 have ha : inR a nd.length:=ea ▸ (hi.top_a g he).i
 have hc : inR c nd.length:=ec ▸ (hi.top_b g he).i
 have la0 : rd lb a ≠ 0:=by rw [la];decide
 have lc0 : rd lb c ≠ 0:=by rw [lc];decide
 have hac : a ≠ c:=fun z=>hrt (by rw [z])
 obtain ⟨nd1,f1,f2,f3,f4,f5⟩:=ul' g hi L k a e ws nd wa k1 ha la rfl
 obtain ⟨nd2,g1,g2,g3,g4,g5⟩:=ul' g hi L k c e us nd1 wc k2 hc lc f2
 have MA:=wa.mem g hi L ha la0
 have MC:=wc.mem g hi L hc lc0
 have dis : ∀ m,m ∈ ws → m ∈ us → False:=fun m h1 h2=>hrt ((wa.root g hi L S ha la0 m h1).symm.trans (wc.root g hi L S hc lc0 m h2))
 have hS1 : Se' nd nd1:=⟨f2,fun j hj=>by obtain ⟨f,q,_⟩:=f3 j hj;exact ⟨f,q⟩⟩
 have hS : Se' nd nd2:=hS1.trans ⟨g2,fun j hj=>by obtain ⟨f,q,_⟩:=g3 j (by rw [← f2];exact hj);exact ⟨f,q⟩⟩
 have n1 : ∀ {j},inR j nd.length → j ∉ ws → (td' nd1 j).f3 = (td' nd j).f3:=fun hj h=>by obtain ⟨f,q,z⟩:=f3 _ hj;rw [q];exact z h
 have n2 : ∀ {j},inR j nd.length → j ∉ us → (td' nd2 j).f3 = (td' nd1 j).f3:=fun hj h=>by obtain ⟨f,q,z⟩:=g3 _ hj;rw [q];exact z h
 have out : ∀ {j},inR j nd.length → j ∉ ws → j ∉ us → (td' nd2 j).f3 = (td' nd j).f3:=fun hj h1 h2=>(n2 hj h2).trans (n1 hj h1)
 have aw : a ∈ ws:=by obtain ⟨l',q⟩:=wa.head;rw [q];exact List.mem_cons_self
 have cu : c ∈ us:=by obtain ⟨l',q⟩:=wc.head;rw [q];exact List.mem_cons_self
 have PX : gf' es y nd nd2 e a c:=⟨he,hs,hac,.inl ⟨ea,ec⟩,(n2 ha (fun z=>dis a aw z)).trans f4,g4⟩
 have sA:=wa.shape g hi L ha la0
 have sC:=wc.shape g hi L hc lc0
 have POa : ∀ b ∈ ws,rd lb b = 2 → gf' es y nd nd2 (rd bk b) b (rd ah b):=fun b hb h2=>by
  have O:=L.od b (MA b hb).1 h2
  have q:=f5 b hb h2
  have z:=(sA b hb).1 (by have:=O.1.1;omega)
  exact ⟨O.2.2.2.1,O.2.2.2.2.1,fun w=>by have:=O.2.2.1;rw [← w] at this;omega,O.2.2.2.2.2.1.symm,(n2 (MA b hb).1 (dis b hb)).trans q.1,(n2 O.1 (dis _ z)).trans q.2⟩
 have POc : ∀ b ∈ us,rd lb b = 2 → gf' es y nd nd2 (rd bk b) b (rd ah b):=fun b hb h2=>by
  have O:=L.od b (MC b hb).1 h2
  have q:=g5 b hb h2
  exact ⟨O.2.2.2.1,O.2.2.2.2.1,fun w=>by have:=O.2.2.1;rw [← w] at this;omega,O.2.2.2.2.2.1.symm,q.1,q.2⟩
 have LKo : ∀ b,b ∈ ws ∨ b ∈ us → rd lb b = 2 → ie' es (rd bk b) (xd' t.ah b) ∧ topI nd (xd' t.ah b).f1 = b:=fun b hb h2=>by
  have hin : inR b nd.length:=hb.elim (fun h=>(MA b h).1) fun h=>(MC b h).1
  have O:=L.od b hin h2
  have q:=S.lk b hin (by rw [h2];decide) (by have:=O.1.1;omega)
  exact ⟨q.1,q.2.2.2⟩
 obtain ⟨mt2,emt⟩ : ∃ m,ahF lb t.ah us (ahF lb t.ah ws (wlF (cvs rn) us (wlF (cvs rn) ws mts) ++ [⟨(ud' es e).f0,(ud' es e).f1⟩])) = m:=⟨_,rfl⟩
 have mm : ∀ x,x ∈ mt2 ↔ (((x ∈ mts ∧ ∀ n ∈ ws,topI (cvs rn) x.f0 ≠ n ∧ topI (cvs rn) x.f1 ≠ n) ∧ ∀ n ∈ us,topI (cvs rn) x.f0 ≠ n ∧ topI (cvs rn) x.f1 ≠ n) ∨ x = ⟨(ud' es e).f0,(ud' es e).f1⟩) ∨ (∃ n ∈ ws,rd lb n = 2 ∧ x = xd' t.ah n) ∨ ∃ n ∈ us,rd lb n = 2 ∧ x = xd' t.ah n:=fun x=>by
  rw [← emt,Uh',Uh',List.mem_append,List.mem_singleton,zg',zg',or_assoc]
 have PR : ∀ m,m ∈ ws ∨ m ∈ us → ∃ f u l,gf' es y nd nd2 f m u ∧ l ∈ mt2 ∧ ie' es f l:=by
  intro m hm2
  rcases hm2 with h|h
  ·rcases L.dom m (MA m h).1 with q|q|q
   ·exact absurd q (MA m h).2.1
   ·rcases (sA m h).2 with rfl|⟨b,b1,b2,b3,b4⟩
    ·exact ⟨e,c,_,PX,(mm _).2 (.inl (.inr rfl)),.inl ⟨rfl,rfl⟩⟩
    have z : rd lb b = 2:=by omega
    exact ⟨_,_,_,(b2 ▸ POa b b1 z).symm,(mm _).2 (.inr (.inl ⟨b,b1,z,rfl⟩)),(LKo b (.inl b1) z).1⟩
   exact ⟨_,_,_,POa m h q,(mm _).2 (.inr (.inl ⟨m,h,q,rfl⟩)),(LKo m (.inl h) q).1⟩
  rcases L.dom m (MC m h).1 with q|q|q
  ·exact absurd q (MC m h).2.1
  ·rcases (sC m h).2 with rfl|⟨b,b1,b2,b3,b4⟩
   ·exact ⟨e,a,_,PX.symm,(mm _).2 (.inl (.inr rfl)),.inl ⟨rfl,rfl⟩⟩
   have z : rd lb b = 2:=by omega
   exact ⟨_,_,_,(b2 ▸ POc b b1 z).symm,(mm _).2 (.inr (.inr ⟨b,b1,z,rfl⟩)),(LKo b (.inr b1) z).1⟩
  exact ⟨_,_,_,POc m h q,(mm _).2 (.inr (.inr ⟨m,h,q,rfl⟩)),(LKo m (.inr h) q).1⟩
 have OUT : ∀ i,Top nd i → (td' nd i).f3 ≠ -1 → i ∉ ws → i ∉ us → mt nd es i ∉ ws ∧ mt nd es i ∉ us ∧ gf' es y nd nd2 (td' nd i).f3 i (mt nd es i):=by
  intro i ht hq h1 h2
  have q:=hi.mt_ok g ht hq
  have z1 : mt nd es i ∉ ws:=fun z=>h1 (by have:=wa.mates g hi L ha la z (by rw [q.2.2.1];exact hq);rw [q.2.2.2] at this;exact this)
  have z2 : mt nd es i ∉ us:=fun z=>h2 (by have:=wc.mates g hi L hc lc z (by rw [q.2.2.1];exact hq);rw [q.2.2.2] at this;exact this)
  have p:=hi.pair g ht hq
  exact ⟨z1,z2,p.ei,p.sl,p.ne,p.j,out ht.i h1 h2,(out q.1.i z1 z2).trans q.2.2.1⟩
 have free : ∀ i,Top nd i → (td' nd2 i).f3 = -1 → (td' nd i).f3 = -1:=fun i ht q=>by
  by_cases h : i ∈ ws ∨ i ∈ us
  ·obtain ⟨f,u,l,p,_⟩:=PR i h
   have:=p.ei.1
   rw [p.a] at q
   omega
  rw [← out ht.i (fun z=>h (.inl z)) (fun z=>h (.inr z))];exact q
 have hinv : Inv N most es D y nd2:=hi.remate g hS (fun i ht q=>by
  by_cases h : i ∈ ws ∨ i ∈ us
  ·obtain ⟨f,u,l,p,_⟩:=PR i h
   exact p.ok g hi hS
  have h1 : i ∉ ws:=fun z=>h (.inl z)
  have h2 : i ∉ us:=fun z=>h (.inr z)
  exact (OUT i ht (by rw [← out ht.i h1 h2];exact q) h1 h2).2.2.ok g hi hS) free
 have tv : ∀ x ∈ mts,topI (cvs rn) x.f0 = topI nd x.f0 ∧ topI (cvs rn) x.f1 = topI nd x.f1:=fun x hx=>by
  have:=hm.in g hi.nn x hx
  exact ⟨hr.top hi.wf this.1,hr.top hi.wf this.2⟩
 have rt0 : rd t.rt a ∈ ws:=wa.root_mem g hi L S ha la0
 have RR:=S.rr a ha la0
 rw [emt]
 refine ⟨nd1,nd2,f1,g1,hS,hinv,⟨fun x hx=>?_,fun i ht q=>?_⟩,?_,free,rd t.rt a,L.top _ RR.1 (by rw [RR.2.1];decide),?_,?_⟩
 ·rcases (mm x).1 hx with (⟨⟨h1,h2⟩,h3⟩|h)|⟨n,n1,n2,n3⟩|⟨n,n1,n2,n3⟩
  ·obtain ⟨e1,e2,e3,e4,e5,e6⟩:=hm.a x h1
   have hv:=e3.vtx g e2
   have i0:=hi.vtx hv.1.1 hv.1.2
   have i1:=hi.vtx hv.2.1.1 hv.2.1.2
   have tvx:=tv x h1
   rw [hS.topI hi.wf i0,hS.topI hi.wf i1]
   refine ⟨e1,e2,e3,e4,?_,?_⟩
   ·rw [out (Nd' hi.wf i0) (fun z=>(h2 _ z).1 tvx.1) (fun z=>(h3 _ z).1 tvx.1)];exact e5
   rw [out (Nd' hi.wf i1) (fun z=>(h2 _ z).2 tvx.2) (fun z=>(h3 _ z).2 tvx.2)];exact e6
  ·exact PX.link g hi hS (h ▸ .inl ⟨rfl,rfl⟩)
  ·exact (POa n n1 n2).link g hi hS (n3 ▸ (LKo n (.inl n1) n2).1)
  exact (POc n n1 n2).link g hi hS (n3 ▸ (LKo n (.inr n1) n2).1)
 ·have ht2:=hS.top.1 ht
  by_cases h : i ∈ ws ∨ i ∈ us
  ·obtain ⟨f,u,l,p,l1,l2⟩:=PR i h
   exact ⟨l,l1,p.a.symm ▸ l2⟩
  have h1 : i ∉ ws:=fun z=>h (.inl z)
  have h2 : i ∉ us:=fun z=>h (.inr z)
  rw [out ht2.i h1 h2] at q ⊢
  obtain ⟨o1,o2,o3⟩:=OUT i ht2 q h1 h2
  obtain ⟨l,l1,l2⟩:=hm.b i ht2 q
  refine ⟨l,(mm l).2 (.inl (.inl ?_)),l2⟩
  have tvl:=tv l l1
  have key : ∀ n,n ≠ i → n ≠ mt nd es i → topI (cvs rn) l.f0 ≠ n ∧ topI (cvs rn) l.f1 ≠ n:=fun n na nb=>by
   rw [tvl.1,tvl.2]
   rcases l2.tops (nd:=nd) with ⟨x,z⟩|⟨x,z⟩ <;> rw [x,z] <;> rcases o3.j with ⟨u,v⟩|⟨u,v⟩ <;> rw [u,v]
   ·exact ⟨na.symm,nb.symm⟩
   ·exact ⟨nb.symm,na.symm⟩
   ·exact ⟨nb.symm,na.symm⟩
   exact ⟨na.symm,nb.symm⟩
  exact ⟨⟨l1,fun n hn=>key n (fun z=>h1 (z ▸ hn)) (fun z=>o1 (z ▸ hn))⟩,fun n hn=>key n (fun z=>h2 (z ▸ hn)) (fun z=>o2 (z ▸ hn))⟩
 ·rw [← emt]
  have inj : ∀ n k,(n ∈ ws ∨ n ∈ us) → (k ∈ ws ∨ k ∈ us) → rd lb n = 2 → rd lb k = 2 → xd' t.ah n = xd' t.ah k → n = k:=fun n k hn hk q1 q2 z=>by
   rw [← (LKo n hn q1).2,← (LKo k hk q2).2,z]
  have notX : ∀ n,(n ∈ ws ∨ n ∈ us) → rd lb n = 2 → xd' t.ah n ≠ ⟨(ud' es e).f0,(ud' es e).f1⟩:=fun n hn q z=>by
   have:=(LKo n hn q).2
   rw [z] at this
   have : c = n:=ec.symm.trans this
   rw [← this,lc] at q
   cases q
  have notw : ∀ n,(n ∈ ws ∨ n ∈ us) → rd lb n = 2 → xd' t.ah n ∉ wlF (cvs rn) us (wlF (cvs rn) ws mts):=fun n hn q z=>by
   rw [zg',zg'] at z
   have w:=(LKo n hn q).2
   have:=(tv _ z.1.1).2.trans w
   rcases hn with hn|hn
   ·exact (z.1.2 n hn).2 this
   exact (z.2 n hn).2 this
  refine wl' (wl' (sk' (vl' (vl' hd)) fun z=>?_) (wa.nodup g hi L ha la0) (fun n hn k hk=>inj n k (.inl hn) (.inl hk)) fun n hn q z=>?_) (wc.nodup g hi L hc lc0) (fun n hn k hk=>inj n k (.inr hn) (.inr hk)) fun n hn q z=>?_
  ·rw [zg',zg'] at z
   exact (z.1.2 a aw).1 ((tv _ z.1.1).1.trans ea)
  ·rw [List.mem_append,List.mem_singleton] at z
   exact z.elim (notw n (.inl hn) q) (notX n (.inl hn) q)
  rw [Uh',List.mem_append,List.mem_singleton] at z
  rcases z with (z|z)|⟨k,k1,k2,k3⟩
  ·exact notw n (.inr hn) q z
  ·exact notX n (.inr hn) q z
  have:=inj n k (.inr hn) (.inl k1) q k2 k3
  exact dis k k1 (this ▸ hn)
 ·have hroot:=RR
  rcases L.ev _ RR.1 RR.2.1 with ⟨z,_⟩|⟨_,z,z2,_⟩
  ·exact z
  exfalso
  rw [RR.2.2] at z
  have:=(hi.mt_ok g (L.top _ RR.1 (by rw [RR.2.1];decide)) (by assumption)).1.i.1
  omega
 obtain ⟨f,u,l,p,_⟩:=PR _ (.inl rt0)
 rw [p.a]
 have:=p.ei.1
 omega
end
theorem Sm' {nd : List S89} {v : Int} : ∀ {l : List Int} {k a : Int},(∀ m ∈ l,Ad' nd m v = false) → atF nd v l k a = a
 | [],k,a,h=>rfl
 | m :: l,k,a,h=>by
  rw [atF,Sm' fun x hx=>h x (List.mem_cons_of_mem _ hx),h m List.mem_cons_self]
  rfl
theorem Vh' {m : Int} {l : List Int} {p : Int} (hp : 0 < p) : rd (m :: l) p = rd l (p - 1):=by
 unfold rd
 obtain ⟨q,e⟩ : ∃ q : Nat,p.toNat = q + 1:=⟨p.toNat - 1,aa'⟩
 rw [e,show (p - 1).toNat = q by omega,List.getD_cons_succ]
theorem bo' {nd : List S89} {v : Int} : ∀ {l : List Int} {p k a : Int},inR p l.length → l.Nodup → Ad' nd (rd l p) v = true → (∀ m ∈ l,Ad' nd m v = true → m = rd l p) → atF nd v l k a = k + p
 | [],p,k,a,hp,_,_,_=>absurd hp.2 (by have:=hp.1;simp;omega)
 | m :: l,p,k,a,hp,hn,h,hu=>by
  have h2:=List.nodup_cons.1 hn
  rw [atF]
  by_cases c : p = 0
  ·subst c
   have e : rd (m :: l) 0 = m:=rfl
   rw [e] at h hu
   rw [if_pos h,Sm' fun x hx=>?_,Int.add_zero]
   cases q : Ad' nd x v with
   | false=>rfl
   | true=>exact absurd (hu x (List.mem_cons_of_mem _ hx) q ▸ hx) h2.1
  have hp0 : 0 < p:=by have:=hp.1;omega
  rw [Vh' hp0] at h hu
  have hp2 : inR (p - 1) l.length:=⟨aa',by have:=hp.2;rw [List.length_cons] at this;omega⟩
  have hm : Ad' nd m v = false:=by
   cases q : Ad' nd m v with
   | false=>rfl
   | true=>exact absurd (hu m List.mem_cons_self q ▸ Vd' l _ hp2.1 hp2.2) h2.1
  rw [hm,if_neg ba',bo' hp2 h2.2 h fun x hx=>hu x (List.mem_cons_of_mem _ hx)]
  omega
structure se' (nd nd' : List S89) (r a : Int) : Prop where
 l : nd'.length = nd.length
 rr : td' nd' r = { td' nd r with f6:=true }
 m0 : td' nd' (rd (td' nd r).f0 a) = { td' nd (rd (td' nd r).f0 a) with f2:=-1,f3:=(td' nd r).f3 }
 ms : ∀ i : Int,1 ≤ i → i < (td' nd r).f0.length → td' nd' (rd (td' nd r).f0 ((a + i) % (td' nd r).f0.length)) = { td' nd (rd (td' nd r).f0 ((a + i) % (td' nd r).f0.length)) with f2:=-1,f3:=rd (td' nd r).f1 ((a + (if i % 2 = 1 then i else i - 1)) % (td' nd r).f0.length) }
 o : ∀ j,inR j nd.length → j ≠ r → j ∉ (td' nd r).f0 → td' nd' j = td' nd j
section
variable {N most : Int} {es : List S73} {D : Int} {y : List Int} {nd nd' nd2 : List S89} {rn : List S77} {mts : List S56} {lb ah bk : List Int} {rk : Int → Nat} {K : Nat} {t : TI} {r a : Int}
theorem Inv.member (hi : Inv N most es D y nd) {r : Int} (hr : inR r nd.length) (R : Mg' es y nd r) : ∀ v,inR v nd.length → Ad' nd r v = true → v ≠ r → ∃ m ∈ (td' nd r).f0,Ad' nd m v = true:=by
 have r1 : r ≠ -1:=by have:=hr.1;omega
 refine af' hi.wf fun v hv ih h hne=>?_
 rw [Sd' hi.wf r1 hv,if_neg hne] at h
 have hu : (td' nd v).f2 ≠ -1:=fun e=>by rw [e,ge' r r1] at h;cases h
 by_cases c : (td' nd v).f2 = r
 ·have:=(hi.par v hv hu).2.2
  rw [c] at this
  exact ⟨v,this,pg' hi.wf hv⟩
 have hin:=(te' hi.wf hv).resolve_left hu
 obtain ⟨m,m1,m2⟩:=ih hu hin h c
 refine ⟨m,m1,?_⟩
 have:=(R.mem m m1).1.1
 rw [Sd' hi.wf aa' hv]
 split
 ·rfl
 exact m2
theorem Inv.place (hi : Inv N most es D y nd) {r : Int} (hr : inR r nd.length) (R : Mg' es y nd r) {v : Int} (hv : inR v nd.length) (h : Ad' nd r v = true) (hne : v ≠ r) : ∃ p,inR p (td' nd r).f0.length ∧ Ad' nd (rd (td' nd r).f0 p) v = true ∧ atF nd v (td' nd r).f0 0 0 = p:=by
 obtain ⟨m,m1,m2⟩:=hi.member hr R v hv h hne
 obtain ⟨p,p1,p2⟩:=wj' m1
 refine ⟨p,p1,by rw [p2];exact m2,?_⟩
 rw [bo' p1 R.nod (by rw [p2];exact m2) fun x hx k=>?_,Int.zero_add]
 have hx2:=R.mem x hx
 have hm2:=R.mem m m1
 rw [p2]
 exact Mk' hi.wf hx2.1 hm2.1 hx2.2 hm2.2 (by have:=hr.1;omega) hv k m2
theorem Mg'.at_in (R : Mg' es y nd r) {i : Int} : inR (rd (td' nd r).f0 ((a + i) % (td' nd r).f0.length)) nd.length ∧ rd (td' nd r).f0 ((a + i) % (td' nd r).f0.length) ∈ (td' nd r).f0:=by
 have hL : (0 : Int) < (td' nd r).f0.length:=by have:=R.three;omega
 have q:=Le' (x:=a + i) hL
 have m:=Vd' (td' nd r).f0 _ q.1 q.2
 exact ⟨(R.mem _ m).1,m⟩
theorem Bh' (ht : Top nd r) (R : Mg' es y nd r) (ha : inR a (td' nd r).f0.length) (he : atI nd es r = a) : se' nd (Ed' es nd r) r a:=by
 have hrm : r ∉ (td' nd r).f0:=fun h=>by have:=(R.mem r h).2;rw [ht.u] at this;have:=ht.i.1;omega
 have hL : (0 : Int) < (td' nd r).f0.length:=by have:=R.three;omega
 have hm : ∀ m ∈ (td' nd r).f0,inR m nd.length:=fun m h=>(R.mem m h).1
 have ea : (a + 0) % ((td' nd r).f0.length : Int) = a:=by rw [Int.add_zero];exact Int.emod_eq_of_lt ha.1 ha.2
 have ham:=Vd' (td' nd r).f0 a ha.1 ha.2
 have hal:=hm _ ham
 have hra : r ≠ rd (td' nd r).f0 a:=fun e=>hrm (by rw [← e] at ham;exact ham)
 rw [Ed',he,Rl']
 have lI : (inF (-1) (td' nd r).f0 nd).length = nd.length:=Qj'
 have rI : ∀ {j : Int},0 ≤ j → td' (inF (-1) (td' nd r).f0 nd) j = if j ∈ (td' nd r).f0 then { td' nd j with f2:=-1,f3:=-1 } else td' nd j:=fun {j} h=>Rk' hm h
 have rX : ∀ {j : Int},0 ≤ j → td' (mateAt (inF (-1) (td' nd r).f0 nd) (rd (td' nd r).f0 a) (td' nd r).f3) j = if j = rd (td' nd r).f0 a then { td' nd j with f2:=-1,f3:=(td' nd r).f3 } else if j ∈ (td' nd r).f0 then { td' nd j with f2:=-1,f3:=-1 } else td' nd j:=fun {j} h=>by
  rw [zf' (by rw [lI];exact hal) h,rI hal.1,if_pos ham,rI h]
  split
  ·rename_i c;rw [c]
  rfl
 have lX : (mateAt (inF (-1) (td' nd r).f0 nd) (rd (td' nd r).f0 a) (td' nd r).f3).length = nd.length:=by rw [Ue',lI]
 generalize mateAt (inF (-1) (td' nd r).f0 nd) (rd (td' nd r).f0 a) (td' nd r).f3 = X at rX lX ⊢
 obtain ⟨p1,p2⟩:=Km' (lk:=(td' nd r).f1) (a:=a) R.nod aa' hm ((td' nd r).f0.length + 1) 1 X aa' aa' R.odd aa' lX
 have lP : (Sf' (td' nd r).f0 (td' nd r).f1 a (td' nd r).f0.length ((td' nd r).f0.length + 1) 1 X).length = nd.length:=by rw [Sl',lX]
 generalize Sf' (td' nd r).f0 (td' nd r).f1 a (td' nd r).f0.length ((td' nd r).f0.length + 1) 1 X = P at p1 p2 lP ⊢
 have hrP : inR r P.length:=by rw [lP];exact ht.i
 have nm : ∀ {j : Int},j ∉ (td' nd r).f0 → td' P j = td' X j ∨ j < 0:=fun {j} h=>by
  by_cases c : 0 ≤ j
  ·exact .inl (p1 j c fun i h1 h2 e=>h (e ▸ R.at_in.2))
  exact .inr aa'
 refine ⟨by rw [Ko',lP],?_,?_,fun i h1 h2=>?_,fun j hj h1 h2=>?_⟩
 ·rw [qi' hrP ht.i.1,if_pos rfl,(nm hrm).resolve_right dc',rX ht.i.1,if_neg hra,if_neg hrm]
 ·rw [qi' hrP hal.1,if_neg hra.symm,p1 _ hal.1 fun i h1 h2 e=>?_,rX hal.1,if_pos rfl]
  have q:=Le' (x:=a + i) hL
  have:=fg' R.nod ha q e
  have:=hg' hL ⟨Int.le_refl 0,hL⟩ ⟨aa',h2⟩ (ea.trans this)
  omega
 ·have q:=Le' (x:=a + i) hL
  have hin:=R.at_in (a:=a) (i:=i)
  have hri : rd (td' nd r).f0 ((a + i) % (td' nd r).f0.length) ≠ r:=fun e=>hrm (by rw [e] at hin;exact hin.2)
  rw [qi' hrP hin.1.1,if_neg hri,p2 i h1 h2,rX hin.1.1,if_neg,if_pos hin.2]
  intro e
  have:=fg' R.nod q ha e
  have:=hg' hL ⟨aa',h2⟩ ⟨Int.le_refl 0,hL⟩ (this.trans ea.symm)
  omega
 rw [qi' hrP hj.1,if_neg h1,(nm h2).resolve_right (by have:=hj.1;omega),rX hj.1,if_neg (show ¬j = rd (td' nd r).f0 a from fun e=>h2 (by rw [e];exact ham)),if_neg h2]
theorem se'.mem (O : se' nd nd' r a) (R : Mg' es y nd r) (ha : inR a (td' nd r).f0.length) {m : Int} (hm : m ∈ (td' nd r).f0) : ∃ f,td' nd' m = { td' nd m with f2:=-1,f3:=f }:=by
 obtain ⟨p,p1,p2⟩:=wj' hm
 have hL : (0 : Int) < (td' nd r).f0.length:=by have:=R.three;omega
 obtain ⟨k,k1,k2,k3⟩:=dh' hL ha p1
 by_cases c : k = 0
 ·rw [c,Int.add_zero,Int.emod_eq_of_lt ha.1 ha.2] at k3
  rw [← p2,← k3]
  exact ⟨_,O.m0⟩
 rw [← p2,← k3]
 exact ⟨_,O.ms k aa' k2⟩
section
variable (hi : Inv N most es D y nd) (ht : Top nd r) (R : Mg' es y nd r) (ha : inR a (td' nd r).f0.length) (O : se' nd nd' r a)
include hi ht R ha O
theorem se'.f {j : Int} (hj : inR j nd.length) : (td' nd' j).f0 = (td' nd j).f0 ∧ (td' nd' j).f1 = (td' nd j).f1 ∧ (td' nd' j).f4 = (td' nd j).f4 ∧ (td' nd' j).f5 = (td' nd j).f5 ∧ (j ≠ r → (td' nd' j).f6 = (td' nd j).f6) ∧ (td' nd' j).f2 = (if (td' nd j).f2 = r then -1 else (td' nd j).f2):=by
 by_cases c : j = r
 ·subst c
  rw [O.rr,if_neg (by rw [ht.u];have:=ht.i.1;omega)]
  exact ⟨rfl,rfl,rfl,rfl,fun h=>absurd rfl h,rfl⟩
 by_cases d : j ∈ (td' nd r).f0
 ·obtain ⟨f,e⟩:=O.mem R ha d
  rw [e,if_pos (R.mem j d).2]
  exact ⟨rfl,rfl,rfl,rfl,fun _=>rfl,rfl⟩
 rw [O.o j hj c d,if_neg]
 ·exact ⟨rfl,rfl,rfl,rfl,fun _=>rfl,rfl⟩
 intro e
 have:=(hi.par j hj (by rw [e];have:=ht.i.1;omega)).2.2
 rw [e] at this
 exact d this
theorem se'.wf : WFn nd':=by
 intro i hn
 rw [O.l] at hn ⊢
 rw [(O.f hi ht R ha hn).2.2.2.2.2]
 split
 ·exact .inl rfl
 exact hi.wf i hn
theorem se'.has {i : Int} (hne : i ≠ r) (hi1 : i ≠ -1) : ∀ v,inR v nd.length → Ad' nd' i v = Ad' nd i v:=by
 refine af' hi.wf fun v hv ih=>?_
 rw [Sd' (O.wf hi ht R ha) hi1 Ab',Sd' hi.wf hi1 hv,(O.f hi ht R ha hv).2.2.2.2.2]
 split
 ·rfl
 by_cases c : (td' nd v).f2 = r
 ·rw [if_pos c,ge' i hi1,c,Sd' hi.wf hi1 ht.i,if_neg (Ne.symm hne),ht.u,ge' i hi1]
 rw [if_neg c]
 by_cases d : (td' nd v).f2 = -1
 ·rw [d,ge' i hi1,ge' i hi1]
 exact ih d ((te' hi.wf hv).resolve_left d)
theorem se'.has_r : ∀ v,inR v nd.length → Ad' nd' r v = decide (v = r):=by
 have r1 : r ≠ -1:=by have:=ht.i.1;omega
 refine af' hi.wf fun v hv ih=>?_
 rw [Sd' (O.wf hi ht R ha) r1 Ab',(O.f hi ht R ha hv).2.2.2.2.2]
 by_cases c : v = r
 ·rw [if_pos c];exact (decide_eq_true c).symm
 rw [if_neg c,decide_eq_false c]
 by_cases d : (td' nd v).f2 = r
 ·rw [if_pos d,ge' r r1]
 rw [if_neg d]
 by_cases q : (td' nd v).f2 = -1
 ·rw [q,ge' r r1]
 rw [ih q ((te' hi.wf hv).resolve_left q),decide_eq_false d]
theorem se'.top : ∀ v,inR v nd.length → topI nd v ≠ r → topI nd' v = topI nd v:=by
 refine af' hi.wf fun v hv ih h=>?_
 rw [Ae' (O.wf hi ht R ha) Ab',(O.f hi ht R ha hv).2.2.2.2.2]
 rw [Ae' hi.wf hv] at h ⊢
 by_cases q : (td' nd v).f2 = -1
 ·have e : (if (td' nd v).f2 = r then -1 else (td' nd v).f2) = -1:=by rw [q];split <;> rfl
  rw [if_pos q,if_pos e]
 rw [if_neg q] at h ⊢
 have hr : (td' nd v).f2 ≠ r:=fun e=>h (by rw [e];exact Xe' hi.wf ht.i ht.u)
 rw [if_neg hr,if_neg q]
 exact ih q ((te' hi.wf hv).resolve_left q) h
theorem se'.top_m {v : Int} (hv : inR v nd.length) {m : Int} (hm : m ∈ (td' nd r).f0) (h : Ad' nd m v = true) : topI nd' v = m:=by
 have q:=R.mem m hm
 have hr : m ≠ r:=fun e=>by rw [e,ht.u] at q;have:=ht.i.1;omega
 refine (we' (O.wf hi ht R ha) ec' ?_ Ab').1 ?_
 ·rw [(O.f hi ht R ha q.1).2.2.2.2.2,if_pos q.2]
 rw [O.has hi ht R ha hr (by have:=q.1.1;omega) v hv];exact h
theorem se'.coarse : ∀ v,inR v nd.length → topI nd (topI nd' v) = topI nd v:=by
 refine af' hi.wf fun v hv ih=>?_
 rw [Ae' (O.wf hi ht R ha) Ab',(O.f hi ht R ha hv).2.2.2.2.2]
 by_cases d : (td' nd v).f2 = r
 ·rw [if_pos d,if_pos rfl]
 rw [if_neg d]
 by_cases q : (td' nd v).f2 = -1
 ·rw [if_pos q]
 rw [if_neg q,ih q ((te' hi.wf hv).resolve_left q)]
 rw [Ae' hi.wf hv,if_neg q]
theorem se'.zsum (hz : (td' nd r).f5 = 0) {u v : Int} (hu : inR u nd.length) (hv : inR v nd.length) : Qe' nd' u v = Qe' nd u v:=by
 unfold Qe'
 rw [O.l]
 refine Nf' fun i h0 h1=>?_
 unfold zOf
 have f:=(O.f hi ht R ha ⟨h0,h1⟩).2.2.2.1
 by_cases c : i = r
 ·rw [c] at f ⊢
  rw [f,hz,ite_self,ite_self]
 rw [O.has hi ht R ha c aa' u hu,O.has hi ht R ha c aa' v hv,f]
theorem se'.sl (hz : (td' nd r).f5 = 0) {x : S73} (hu : inR x.f0 nd.length) (hv : inR x.f1 nd.length) : slE y nd' x = slE y nd x:=by
 unfold slE
 rw [O.zsum hi ht R ha hz hu hv]
theorem se'.tops {i : Int} : Top nd' i ↔ (Top nd i ∧ i ≠ r) ∨ i ∈ (td' nd r).f0:=by
 constructor
 ·intro h
  have hn : inR i nd.length:=by rw [← O.l];exact h.i
  have f:=O.f hi ht R ha hn
  have hr : i ≠ r:=fun e=>by have:=h.o;rw [e,O.rr] at this;cases this
  have u:=h.u
  rw [f.2.2.2.2.2] at u
  by_cases d : (td' nd i).f2 = r
  ·right
   have:=(hi.par i hn (by rw [d];have:=ht.i.1;omega)).2.2
   rw [d] at this;exact this
  rw [if_neg d] at u
  exact .inl ⟨⟨hn,u,(f.2.2.2.2.1 hr).symm.trans h.o⟩,hr⟩
 rintro (⟨h,hr⟩|h)
 ·have f:=O.f hi ht R ha h.i
  refine ⟨by rw [O.l];exact h.i,?_,(f.2.2.2.2.1 hr).trans h.o⟩
  rw [f.2.2.2.2.2,h.u]
  split <;> rfl
 have q:=R.mem i h
 have f:=O.f hi ht R ha q.1
 have hr : i ≠ r:=fun e=>by rw [e,ht.u] at q;have:=ht.i.1;omega
 refine ⟨ec',by rw [f.2.2.2.2.2,if_pos q.2],?_⟩
 rw [f.2.2.2.2.1 hr]
 cases z : (td' nd i).f6 with
 | false=>rfl
 | true =>
  have:=hi.opn i q.1 z
  rw [q.2] at this
  have:=ht.i.1
  omega
end
end
section
variable {N most : Int} {es : List S73} {D : Int} {y : List Int} {nd nd' nd2 : List S89} {rn : List S77} {mts : List S56} {lb ah bk : List Int} {rk : Int → Nat} {K : Nat} {t : TI} {r a : Int}
theorem gf'.self_ok {e a b : Int} (p : gf' es y nd nd e a b) : Tk' es y nd a:=by
 refine ⟨by rw [p.a];exact p.ei,by rw [p.a];exact p.sl,?_,?_,?_,?_⟩ <;> rw [p.a]
 ·rcases p.j with ⟨x,z⟩|⟨x,z⟩ <;> rw [x,z]
  ·exact p.ne
  exact p.ne.symm
 ·rcases p.j with ⟨x,z⟩|⟨x,z⟩
  ·exact .inl x
  exact .inr z
 ·rcases p.j with ⟨x,z⟩|⟨x,z⟩ <;> rw [x]
  ·exact p.a
  exact p.b
 rcases p.j with ⟨x,z⟩|⟨x,z⟩ <;> rw [z]
 ·exact p.b
 exact p.a
theorem gf'.self_link {e a b : Int} (p : gf' es y nd nd e a b) {l : S56} (hl : ie' es e l) : ∃ e,inR e es.length ∧ ie' es e l ∧ topI nd l.f0 ≠ topI nd l.f1 ∧ (td' nd (topI nd l.f0)).f3 = e ∧ (td' nd (topI nd l.f1)).f3 = e:=by
 refine ⟨e,p.ei,hl,?_⟩
 rcases hl.tops (nd:=nd) with ⟨x,z⟩|⟨x,z⟩ <;> rw [x,z] <;> rcases p.j with ⟨u,v⟩|⟨u,v⟩ <;> rw [u,v]
 ·exact ⟨p.ne,p.a,p.b⟩
 ·exact ⟨p.ne.symm,p.b,p.a⟩
 ·exact ⟨p.ne.symm,p.b,p.a⟩
 exact ⟨p.ne,p.a,p.b⟩
theorem Inv.hold_mate (g : Gph N most es) (hi : Inv N most es D y nd) (ht : Top nd r) (hm : (td' nd r).f3 ≠ -1) : topI nd (ue' nd es r) = r ∧ ∃ w,topI nd w = mt nd es r ∧ (((ud' es (td' nd r).f3).f0 = ue' nd es r ∧ (ud' es (td' nd r).f3).f1 = w) ∨ ((ud' es (td' nd r).f3).f0 = w ∧ (ud' es (td' nd r).f3).f1 = ue' nd es r)):=by
 have p:=hi.pair g ht hm
 have e:=hi.edge g p.ei
 have h0:=we' hi.wf ht.i ht.u e.1
 unfold ue'
 rw [if_neg hm]
 rcases p.j with ⟨x,z⟩|⟨x,z⟩
 ·rw [if_pos (h0.2 x)]
  exact ⟨x,_,z,.inl ⟨rfl,rfl⟩⟩
 rw [if_neg (fun q=>p.ne (by rw [← x];exact (h0.1 q).symm))]
 exact ⟨z,_,x,.inr ⟨rfl,rfl⟩⟩
theorem Inv.hold_v (g : Gph N most es) (hi : Inv N most es D y nd) (ht : Top nd r) : (0 ≤ ue' nd es r ∧ ue' nd es r < N) ∧ Ad' nd r (ue' nd es r) = true:=by
 by_cases c : (td' nd r).f3 = -1
 ·have F:=hi.free r ht c
  unfold ue'
  rw [if_pos c]
  exact ⟨F.v,F.h⟩
 obtain ⟨h1,w,h2,h3⟩:=hi.hold_mate g ht c
 have x:=g.e _ (hi.mate r ht c).ei
 have:=x.a;have:=x.ab;have:=x.b
 have hv : 0 ≤ ue' nd es r ∧ ue' nd es r < N:=by
  rcases h3 with ⟨q,_⟩|⟨_,q⟩ <;> rw [← q] <;> omega
 exact ⟨hv,(we' hi.wf ht.i ht.u (hi.vtx hv.1 hv.2)).2 h1⟩
section
variable (g : Gph N most es) (hi : Inv N most es D y nd) (ht : Top nd r) (hN : N ≤ r) (hz : (td' nd r).f5 = 0) (R : Mg' es y nd r) (ha : inR a (td' nd r).f0.length) (hh : Ad' nd (rd (td' nd r).f0 a) (ue' nd es r) = true) (O : se' nd nd' r a)
include g hi ht hN hz R ha hh O
theorem se'.pair_a (hm : (td' nd r).f3 ≠ -1) : gf' es y nd' nd' (td' nd r).f3 (mt nd es r) (rd (td' nd r).f0 a):=by
 obtain ⟨h1,w,h2,h3⟩:=hi.hold_mate g ht hm
 have p:=hi.pair g ht hm
 have e:=hi.edge g p.ei
 have hv:=(hi.hold_v g ht).1
 have q:=hi.mt_ok g ht hm
 have ham:=Vd' (td' nd r).f0 a ha.1 ha.2
 have hnm : mt nd es r ∉ (td' nd r).f0:=fun z=>by have:=(R.mem _ z).2;rw [q.1.u] at this;have:=ht.i.1;omega
 have t1 : topI nd' (ue' nd es r) = rd (td' nd r).f0 a:=O.top_m hi ht R ha (hi.vtx hv.1 hv.2) ham hh
 have hw : inR w nd.length:=by rcases h3 with ⟨_,z⟩|⟨z,_⟩ <;> rw [← z];exact e.2;exact e.1
 have t2 : topI nd' w = mt nd es r:=(O.top hi ht R ha w hw (by rw [h2];exact q.2.1)).trans h2
 refine ⟨p.ei,by rw [O.sl hi ht R ha hz e.1 e.2];exact p.sl,fun z=>hnm (z ▸ ham),?_,?_,?_⟩
 ·rcases h3 with ⟨x,z⟩|⟨x,z⟩ <;> rw [x,z,t1,t2]
  ·exact .inr ⟨rfl,rfl⟩
  exact .inl ⟨rfl,rfl⟩
 ·rw [O.o _ q.1.i q.2.1 hnm];exact q.2.2.1
 rw [O.m0]
theorem se'.pair_k {k : Int} (h1 : 1 ≤ k) (h2 : k % 2 = 1) (h3 : k < (td' nd r).f0.length) : k + 1 < (td' nd r).f0.length ∧ gf' es y nd' nd' (rd (td' nd r).f1 ((a + k) % (td' nd r).f0.length)) (rd (td' nd r).f0 ((a + k) % (td' nd r).f0.length)) (rd (td' nd r).f0 ((a + (k + 1)) % (td' nd r).f0.length)):=by
 have hL : (0 : Int) < (td' nd r).f0.length:=by have:=R.three;omega
 have odd:=R.odd
 have h4 : k + 1 < (td' nd r).f0.length:=by omega
 have q1:=Le' (x:=a + k) hL
 have q2:=Le' (x:=a + (k + 1)) hL
 obtain ⟨l1,l2,l3⟩:=R.lnk _ q1
 have e:=hi.edge g l1
 rw [show ((a + k) % ((td' nd r).f0.length : Int) + 1) % ((td' nd r).f0.length : Int) = (a + (k + 1)) % ((td' nd r).f0.length : Int) by rw [Int.emod_add_emod,Int.add_assoc]] at l3
 have m1:=R.at_in (a:=a) (i:=k)
 have m2:=R.at_in (a:=a) (i:=k + 1)
 refine ⟨h4,l1,by rw [O.sl hi ht R ha hz e.1 e.2];exact l2,fun z=>?_,?_,?_,?_⟩
 ·have:=hg' hL ⟨aa',h3⟩ ⟨aa',h4⟩ (fg' R.nod q1 q2 z)
  omega
 ·rcases l3 with ⟨x,z⟩|⟨x,z⟩
  ·exact .inl ⟨O.top_m hi ht R ha e.1 m1.2 x,O.top_m hi ht R ha e.2 m2.2 z⟩
  exact .inr ⟨O.top_m hi ht R ha e.1 m2.2 z,O.top_m hi ht R ha e.2 m1.2 x⟩
 ·rw [O.ms k h1 h3,if_pos h2]
 rw [O.ms (k + 1) aa' h4,if_neg aa',show k + 1 - 1 = k by omega]
theorem se'.mem_k {m : Int} (hm : m ∈ (td' nd r).f0) : m = rd (td' nd r).f0 a ∨ ∃ k : Int,1 ≤ k ∧ k % 2 = 1 ∧ k < (td' nd r).f0.length ∧ (m = rd (td' nd r).f0 ((a + k) % (td' nd r).f0.length) ∨ m = rd (td' nd r).f0 ((a + (k + 1)) % (td' nd r).f0.length)):=by
 have hL : (0 : Int) < (td' nd r).f0.length:=by have:=R.three;omega
 obtain ⟨p,p1,p2⟩:=wj' hm
 obtain ⟨k,k1,k2,k3⟩:=dh' hL ha p1
 by_cases c : k = 0
 ·rw [c,Int.add_zero,Int.emod_eq_of_lt ha.1 ha.2] at k3
  exact .inl (by rw [k3,p2])
 right
 by_cases d : k % 2 = 1
 ·exact ⟨k,aa',d,k2,.inl (by rw [k3,p2])⟩
 exact ⟨k - 1,aa',aa',aa',.inr (by rw [show k - 1 + 1 = k by omega,k3,p2])⟩
theorem se'.pairs {i : Int} (h : Top nd' i) (hm : (td' nd' i).f3 ≠ -1) : ∃ e j,gf' es y nd' nd' e i j:=by
 rcases (O.tops hi ht R ha).1 h with ⟨hi2,hr⟩|hmem
 ·have hnm : ∀ {i},Top nd i → i ∉ (td' nd r).f0:=fun q z=>by have:=(R.mem _ z).2;rw [q.u] at this;have:=ht.i.1;omega
  have e0:=O.o i hi2.i hr (hnm hi2)
  rw [e0] at hm
  have p:=hi.pair g hi2 hm
  have q:=hi.mt_ok g hi2 hm
  have e:=hi.edge g p.ei
  by_cases c : mt nd es i = r
  ·have hm2 : (td' nd r).f3 ≠ -1:=by rw [← c,q.2.2.1];exact hm
   have:=O.pair_a g hi ht hN hz R ha hh hm2
   rw [show mt nd es r = i by rw [← c];exact q.2.2.2] at this
   exact ⟨_,_,this⟩
  refine ⟨(td' nd i).f3,mt nd es i,p.ei,by rw [O.sl hi ht R ha hz e.1 e.2];exact p.sl,p.ne,?_,by rw [e0],by rw [O.o _ q.1.i c (hnm q.1)];exact q.2.2.1⟩
  rcases p.j with ⟨x,z⟩|⟨x,z⟩
  ·exact .inl ⟨(O.top hi ht R ha _ e.1 (by rw [x];exact hr)).trans x,(O.top hi ht R ha _ e.2 (by rw [z];exact c)).trans z⟩
  exact .inr ⟨(O.top hi ht R ha _ e.1 (by rw [x];exact c)).trans x,(O.top hi ht R ha _ e.2 (by rw [z];exact hr)).trans z⟩
 rcases O.mem_k g hi ht hN hz R ha hh hmem with rfl|⟨k,k1,k2,k3,rfl|rfl⟩
 ·rw [O.m0] at hm
  exact ⟨_,_,(O.pair_a g hi ht hN hz R ha hh hm).symm⟩
 ·exact ⟨_,_,(O.pair_k g hi ht hN hz R ha hh k1 k2 k3).2⟩
 exact ⟨_,_,(O.pair_k g hi ht hN hz R ha hh k1 k2 k3).2.symm⟩
theorem se'.frees {i : Int} (h : Top nd' i) (hm : (td' nd' i).f3 = -1) : ((Top nd i ∧ i ≠ r ∧ (td' nd i).f3 = -1) ∨ (i = rd (td' nd r).f0 a ∧ (td' nd r).f3 = -1 ∧ (td' nd i).f4 = (td' nd r).f4)) ∧ (td' nd' i).f4 = (td' nd i).f4:=by
 have hn : inR i nd.length:=by rw [← O.l];exact h.i
 refine ⟨?_,(O.f hi ht R ha hn).2.2.1⟩
 rcases (O.tops hi ht R ha).1 h with ⟨hi2,hr⟩|hmem
 ·left
  have hnm : i ∉ (td' nd r).f0:=fun z=>by have:=(R.mem _ z).2;rw [hi2.u] at this;have:=ht.i.1;omega
  rw [O.o i hi2.i hr hnm] at hm
  exact ⟨hi2,hr,hm⟩
 right
 rcases O.mem_k g hi ht hN hz R ha hh hmem with rfl|⟨k,k1,k2,k3,rfl|rfl⟩
 ·rw [O.m0] at hm
  have hm2 : (td' nd r).f3 = -1:=hm
  refine ⟨rfl,hm2,?_⟩
  have F:=hi.free r ht hm2
  have e : ue' nd es r = (td' nd r).f4:=by unfold ue';rw [if_pos hm2]
  rw [e] at hh
  exact F.b _ (R.mem _ (Vd' _ a ha.1 ha.2)).1 hh
 ·have p:=(O.pair_k g hi ht hN hz R ha hh k1 k2 k3).2
  have:=p.ei.1
  rw [p.a] at hm;omega
 have p:=(O.pair_k g hi ht hN hz R ha hh k1 k2 k3).2
 have:=p.ei.1
 rw [p.b] at hm;omega
theorem se'.inv : Inv N most es D y nd':=by
 have hvt : ∀ {i : Int},0 ≤ i → i < N → inR i nd.length:=fun a b=>hi.vtx a b
 have F:=fun {j : Int} (hj : inR j nd.length)=>O.f hi ht R ha hj
 refine ⟨hi.yl,by rw [O.l];exact hi.nn,by rw [O.l];exact hi.sz,O.wf hi ht R ha,fun i h0 h1=>?_,fun i hn ho=>?_,fun m hn hu=>?_,fun i h0 h1 ho=>?_,fun i h hm=>?_,fun i h hm=>?_,fun i hn=>?_,hi.yy,hi.dd,fun e he=>?_,fun u v hu hv e=>?_⟩
 ·have f:=F (hvt h0 h1)
  rw [f.1,f.2.2.1,f.2.2.2.1,f.2.2.2.2.1 aa']
  exact hi.ver i h0 h1
 ·rw [O.l] at hn
  have f:=F hn
  rw [f.2.2.2.2.2]
  by_cases c : i = r
  ·rw [c,ht.u];split <;> rfl
  rw [hi.opn i hn ((f.2.2.2.2.1 c).symm.trans ho)];split <;> rfl
 ·rw [O.l] at hn
  have f:=F hn
  rw [f.2.2.2.2.2] at hu ⊢
  by_cases c : (td' nd m).f2 = r
  ·rw [if_pos c] at hu;exact absurd rfl hu
  rw [if_neg c] at hu ⊢
  have hp:=(te' hi.wf hn).resolve_left hu
  have f2:=F hp
  rw [f2.1,f2.2.2.2.2.1 c]
  exact hi.par m hn hu
 ·rw [O.l] at h1
  have hin : inR i nd.length:=⟨Ba',h1⟩
  have f:=F hin
  have hr : i ≠ r:=fun e=>by rw [e,O.rr] at ho;cases ho
  have Q:=hi.ring i h0 h1 ((f.2.2.2.2.1 hr).symm.trans ho)
  refine ⟨by rw [f.1];exact Q.odd,yc',zc',by rw [f.1];exact Q.nod,?_,?_⟩
  ·rw [f.1]
   intro m hm
   have q:=Q.mem m hm
   refine ⟨ec',?_⟩
   rw [(F q.1).2.2.2.2.2,q.2,if_neg hr]
  rw [f.1,f.2.1]
  intro k hk
  obtain ⟨k1,k2,k3⟩:=Q.lnk k hk
  have e:=hi.edge g k1
  have hL : (0 : Int) < (td' nd i).f0.length:=by have:=Q.three;omega
  have q2:=Le' (x:=k + 1) hL
  have m1:=Q.mem _ (Vd' _ _ hk.1 hk.2)
  have m2:=Q.mem _ (Vd' _ _ q2.1 q2.2)
  have ne : ∀ {m},inR m nd.length ∧ (td' nd m).f2 = i → m ≠ r ∧ m ≠ -1:=fun q=>⟨fun z=>by rw [z,ht.u] at q;have:=hin.1;omega,by have:=q.1.1;omega⟩
  refine ⟨k1,by rw [O.sl hi ht R ha hz e.1 e.2];exact k2,?_⟩
  unfold yg' at k3 ⊢
  rw [O.has hi ht R ha (ne m1).1 (ne m1).2 _ e.1,O.has hi ht R ha (ne m1).1 (ne m1).2 _ e.2,O.has hi ht R ha (ne m2).1 (ne m2).2 _ e.1,O.has hi ht R ha (ne m2).1 (ne m2).2 _ e.2]
  exact k3
 ·obtain ⟨e,j,p⟩:=O.pairs g hi ht hN hz R ha hh h hm
  exact p.self_ok
 ·obtain ⟨q,q4⟩:=O.frees g hi ht hN hz R ha hh h hm
  have hn : inR i nd.length:=by rw [← O.l];exact h.i
  have key : ∀ {s : Int},Top nd s → (td' nd s).f3 = -1 → (td' nd i).f4 = (td' nd s).f4 → Ad' nd i (td' nd s).f4 = true → i ≠ r → rp' N y nd' (most - D) i:=fun {s} hs hm2 e4 eh hr=>by
   have G:=hi.free s hs hm2
   have hin:=hvt G.v.1 G.v.2
   refine ⟨by rw [q4,e4];exact G.v,?_,fun j hj hjv=>?_,by rw [q4,e4];exact G.yv⟩
   ·rw [q4,e4,O.has hi ht R ha hr Ya' _ hin];exact eh
   rw [O.l] at hj
   rw [q4,e4] at hjv ⊢
   rw [(F hj).2.2.1]
   by_cases c : j = r
   ·rw [c,O.has_r hi ht R ha _ hin] at hjv
    have:=of_decide_eq_true hjv
    have:=G.v.2
    omega
   rw [O.has hi ht R ha c (by have:=hj.1;omega) _ hin] at hjv
   exact G.b j hj hjv
  rcases q with ⟨h1,h2,h3⟩|⟨h1,h2,h3⟩
  ·exact key h1 h3 rfl (hi.free i h1 h3).h h2
  have e : ue' nd es r = (td' nd r).f4:=by unfold ue';rw [if_pos h2]
  refine key ht h2 h3 (by rw [h1,← e];exact hh) fun z=>?_
  have:=O.rr
  rw [← z] at this
  have w:=h.o
  rw [this] at w
  cases w
 ·rw [O.l] at hn
  rw [(F hn).2.2.2.1]
  exact hi.zz i hn
 ·have hin:=hi.edge g he
  rw [O.sl hi ht R ha hz hin.1 hin.2]
  exact hi.sl e he
 have a1 : inR u nd.length:=hi.vtx hu.1 cc'
 have b1 : inR v nd.length:=hi.vtx hv.1 zb'
 refine hi.pa u v hu hv ?_
 rw [← O.coarse hi ht R ha u a1,← O.coarse hi ht R ha v b1,e]
end
end
theorem tk' {nd : List S77} {i j : Int} (x : S77) (h0 : 0 ≤ i) (h1 : i < (nd.length : Int)) (hj : 0 ≤ j) : wd' (nd.set i.toNat x) j = if j = i then x else wd' nd j:=by
 unfold wd'
 by_cases c : j = i
 ·rw [if_pos c,c]
  have h : i.toNat < nd.length:=by omega
  simp [h]
 rw [if_neg c]
 have h : i.toNat ≠ j.toNat:=by omega
 simp [List.getElem?_set,h]
theorem uq' {nd : List S77} {j : Int} (x : S77) (hj : 0 ≤ j) (hl : j ≤ nd.length) : wd' (nd ++ [x]) j = if j = nd.length then x else wd' nd j:=by
 unfold wd'
 by_cases c : j = nd.length
 ·rw [if_pos c,c]
  simp
 rw [if_neg c]
 have h : j.toNat < nd.length:=by omega
 simp [List.getElem?_append,h]
theorem Ti' {u : Int} : ∀ {l : List Int} {nd : List S77},(Me' u l nd).length = nd.length
 | [],nd=>rfl
 | m :: l,nd=>by rw [Me',Ti',Di',List.length_set]
theorem Rj' {u : Int} : ∀ {l : List Int} {nd : List S77},(∀ m ∈ l,inR m nd.length) → ∀ {j : Int},0 ≤ j → wd' (Me' u l nd) j = if j ∈ l then { wd' nd j with f4:=u } else wd' nd j
 | [],nd,_,j,hj=>by rw [Me',if_neg ia']
 | m :: l,nd,hl,j,hj=>by
  have hm:=hl m List.mem_cons_self
  rw [Me',Rj' (fun x hx=>by rw [Di',List.length_set];exact hl x (List.mem_cons_of_mem _ hx)) hj,Di',tk' _ hm.1 hm.2 hj]
  by_cases c : j = m
  ·subst c
   rw [if_pos rfl,if_pos List.mem_cons_self]
   split <;> rfl
  rw [if_neg c]
  by_cases d : j ∈ l
  ·rw [if_pos d,if_pos (List.mem_cons_of_mem _ d)]
  rw [if_neg d,if_neg (by simp [c,d])]
theorem Dj' {lk : List S56} {a L : Int} {x : S56} : ∀ {f : Nat} {k : Int} {l : List S56},L ≤ k + 2 * f → (x ∈ linkF lk a L f k l ↔ x ∈ l ∨ ∃ i : Int,k ≤ i ∧ i < L ∧ (i - k) % 2 = 0 ∧ x = xd' lk ((a + i) % L))
 | 0,k,l,h=>by
  rw [linkF]
  exact ⟨.inl,fun q=>q.elim id fun ⟨i,h1,h2,_⟩=>by omega⟩
 | f + 1,k,l,h=>by
  rw [linkF]
  by_cases c : k < L
  ·rw [if_pos c,Dj' aa',List.mem_append,List.mem_singleton]
   constructor
   ·rintro ((q|q)|⟨i,h1,h2,h3,h4⟩)
    ·exact .inl q
    ·exact .inr ⟨k,aa',c,aa',q⟩
    exact .inr ⟨i,aa',h2,aa',h4⟩
   rintro (q|⟨i,h1,h2,h3,h4⟩)
   ·exact .inl (.inl q)
   by_cases d : i = k
   ·exact .inl (.inr (d ▸ h4))
   exact .inr ⟨i,aa',h2,aa',h4⟩
  rw [if_neg c]
  exact ⟨.inl,fun q=>q.elim id fun ⟨i,h1,h2,_⟩=>by omega⟩
theorem Wl' {lk : List S56} {a L : Int} : ∀ {f : Nat} {k : Int} {l : List S56},l.Nodup → (∀ i : Int,k ≤ i → i < L → (i - k) % 2 = 0 → xd' lk ((a + i) % L) ∉ l) → (∀ i j : Int,k ≤ i → i < L → k ≤ j → j < L → (i - k) % 2 = 0 → (j - k) % 2 = 0 → xd' lk ((a + i) % L) = xd' lk ((a + j) % L) → i = j) → (linkF lk a L f k l).Nodup
 | 0,k,l,h,_,_=>h
 | f + 1,k,l,h,h1,h2=>by
  rw [linkF]
  by_cases c : k < L
  ·rw [if_pos c]
   refine Wl' (sk' h (h1 k aa' c aa')) (fun i i1 i2 i3 q=>?_) fun i j i1 i2 j1 j2 i3 j3=>h2 i j aa' i2 aa' j2 aa' aa'
   rw [List.mem_append,List.mem_singleton] at q
   rcases q with q|q
   ·exact h1 i aa' i2 aa' q
   have:=h2 i k aa' i2 aa' c aa' aa' q
   omega
  rw [if_neg c];exact h
def ag' (nd : List S89) (rn : List S77) : Prop:=∀ t,Top nd t → (td' nd t).f3 = -1 → ∀ i,inR i nd.length → Ad' nd i (td' nd t).f4 = true → (wd' rn i).f2 = (td' nd t).f4
section
variable {N most : Int} {es : List S73} {D : Int} {y : List Int} {nd nd' nd2 : List S89} {rn : List S77} {mts : List S56} {lb ah bk : List Int} {rk : Int → Nat} {K : Nat} {t : TI} {r a : Int}
theorem co' (hN : 0 ≤ N) : ∀ {l : List S56},(∀ x ∈ l,(0 ≤ x.f0 ∧ x.f0 < N) ∧ 0 ≤ x.f1 ∧ x.f1 < N) → l.Nodup → (l.map fun x=>x.f0 * N + x.f1).Nodup
 | [],_,_=>List.nodup_nil
 | x :: l,h,hn=>by
  have h2:=List.nodup_cons.1 hn
  rw [List.map_cons,List.nodup_cons]
  refine ⟨fun q=>?_,co' hN (fun z hz=>h z (List.mem_cons_of_mem _ hz)) h2.2⟩
  obtain ⟨z,z1,z2⟩:=List.mem_map.1 q
  have hz:=h z (List.mem_cons_of_mem _ z1)
  have hx:=h x List.mem_cons_self
  have e0 : z.f0 = x.f0:=by
   have a1 : (z.f0 * N + z.f1) / N = z.f0:=by
    rw [Int.mul_comm,Int.mul_add_ediv_left _ _ aa',Int.ediv_eq_zero_of_lt hz.2.1 hz.2.2];omega
   have a2 : (x.f0 * N + x.f1) / N = x.f0:=by
    rw [Int.mul_comm,Int.mul_add_ediv_left _ _ aa',Int.ediv_eq_zero_of_lt hx.2.1 hx.2.2];omega
   have z2 : z.f0 * N + z.f1 = x.f0 * N + x.f1:=z2
   rw [← a1,z2,a2]
  have e1 : z.f1 = x.f1:=by
   have z2 : z.f0 * N + z.f1 = x.f0 * N + x.f1:=z2
   rw [e0] at z2;omega
  have : z = x:=by cases z;cases x;simp only at e0 e1;rw [e0,e1]
  exact h2.1 (this ▸ z1)
theorem ff'.len (g : Gph N most es) (h : ff' es nd mts) (hd : mts.Nodup) : mts.length ≤ 81:=by
 have h1:=co' (N:=N) g.n0 (l:=mts) (fun x hx=>by
  obtain ⟨e,he,hl,-⟩:=h.a x hx
  have:=hl.vtx g he
  exact ⟨this.1,this.2.1⟩) hd
 have h2:=Ah' (m:=(List.range 81).map fun v : Nat=>(v : Int)) h1 fun z hz=>by
  obtain ⟨x,hx,rfl⟩:=List.mem_map.1 hz
  obtain ⟨e,he,hl,-⟩:=h.a x hx
  obtain ⟨⟨p,q⟩,⟨u,v⟩,-⟩:=hl.vtx g he
  have n9:=g.n9
  have b1 : x.f0 * N ≤ 8 * 9:=by
   have : x.f0 * N ≤ x.f0 * 9:=Int.mul_le_mul_of_nonneg_left n9 p
   omega
  have b0 : 0 ≤ x.f0 * N:=Int.mul_nonneg p g.n0
  exact List.mem_map.2 ⟨(x.f0 * N + x.f1).toNat,List.mem_range.2 aa',by rw [Int.toNat_of_nonneg aa']⟩
 rw [List.length_map,List.length_map,List.length_range] at h2
 exact h2
theorem Mg'.len (R : Mg' es y nd r) : (td' nd r).f0.length ≤ nd.length:=by
 have:=Ah' (m:=(List.range nd.length).map fun v : Nat=>(v : Int)) R.nod fun x hx=>by
  have q:=(R.mem x hx).1
  exact List.mem_map.2 ⟨x.toNat,List.mem_range.2 (by have:=q.1;have:=q.2;omega),by rw [Int.toNat_of_nonneg q.1]⟩
 rw [List.length_map,List.length_range] at this
 exact this
theorem ui' {nd nd2 : List S89} {v : Int} : ∀ {l : List Int} {k a : Int},(∀ m ∈ l,Ad' nd m v = Ad' nd2 m v) → atF nd v l k a = atF nd2 v l k a
 | [],k,a,h=>rfl
 | m :: l,k,a,h=>by rw [atF,atF,h m List.mem_cons_self,ui' fun x hx=>h x (List.mem_cons_of_mem _ hx)]
theorem xl' (g : Gph N most es) (hi : Inv N most es D y nd) (hr : pe' es nd rn) (hm : ff' es nd mts) (hb : ag' nd rn) (ht : Top nd r) : xe' rn mts r = ue' nd es r:=by
 unfold xe'
 by_cases c : (td' nd r).f3 = -1
 ·rw [Ri' g hi hr hm c mts (fun _ h=>h),if_neg ba']
  unfold ue'
  rw [if_pos c]
  exact hb r ht c r ht.i (hi.free r ht c).h
 obtain ⟨m,m1,m2,m3,m4⟩:=Sh' g hi hr hm ht c mts (fun _ h=>h) (hm.b r ht c)
 rw [m1,if_pos rfl]
 obtain ⟨h1,w,h2,h3⟩:=hi.hold_mate g ht c
 have ne:=(hi.mt_ok g ht c).2.1
 show m.f0 = _
 rcases m2 with ⟨u,v⟩|⟨u,v⟩ <;> rcases h3 with ⟨p,q⟩|⟨p,q⟩
 ·rw [u,p]
 ·rw [u,p,h2] at m3;exact absurd m3 ne
 ·rw [u,q,h2] at m3;exact absurd m3 ne
 rw [u,q]
theorem yg'.or {l : S56} {e p q : Int} (hl : ie' es e l) (hj : (topI nd (ud' es e).f0 = p ∧ topI nd (ud' es e).f1 = q) ∨ (topI nd (ud' es e).f0 = q ∧ topI nd (ud' es e).f1 = p)) : (topI nd l.f0 = p ∧ topI nd l.f1 = q) ∨ (topI nd l.f0 = q ∧ topI nd l.f1 = p):=by
 rcases hl.tops (nd:=nd) with ⟨x,z⟩|⟨x,z⟩ <;> rw [x,z]
 ·exact hj
 exact hj.symm.imp (fun h=>⟨h.2,h.1⟩) fun h=>⟨h.2,h.1⟩
theorem Ej' (g : Gph N most es) (hi : Inv N most es D y nd) (hr : pe' es nd rn) (hm : ff' es nd mts) (hd : mts.Nodup) (hb : ag' nd rn) (ht : Top nd r) (hN : N ≤ r) (hz : (td' nd r).f5 = 0) (n : Int) (b : Bool) :
  UOk es nd r ∧ Ei' ⟨y,rn,mts,n,b⟩ r ∧ ∃ a rn' mts',nf' ⟨y,rn,mts,n,b⟩ r = ⟨y,rn',mts',n,b⟩ ∧ inR a (td' nd r).f0.length ∧ se' nd (Ed' es nd r) r a ∧ Inv N most es D y (Ed' es nd r) ∧ pe' es (Ed' es nd r) rn' ∧ ff' es (Ed' es nd r) mts' ∧ mts'.Nodup ∧ ag' (Ed' es nd r) rn' ∧
   (∀ i,Top (Ed' es nd r) i → (td' (Ed' es nd r) i).f3 = -1 → ((Top nd i ∧ i ≠ r ∧ (td' nd i).f3 = -1) ∨ (i = rd (td' nd r).f0 a ∧ (td' nd r).f3 = -1 ∧ (td' nd i).f4 = (td' nd r).f4)) ∧ (td' (Ed' es nd r) i).f4 = (td' nd i).f4):=by
 have R:=hi.ring r hN ht.i.2 ht.o
 obtain ⟨hv,hv2⟩:=hi.hold_v g ht
 have hin:=hi.vtx hv.1 hv.2
 obtain ⟨a,ha,hh,hat⟩:=hi.place ht.i R hin hv2 aa'
 have O:=Bh' (es:=es) ht R ha hat
 generalize hnd : Ed' es nd r = nd' at O ⊢
 have X:=hr.n r ht.i
 have eb:=xl' g hi hr hm hb ht
 have hL : (0 : Int) < (td' nd r).f0.length:=by have:=R.three;omega
 have odd:=R.odd
 have eat : atS ⟨y,rn,mts,n,b⟩ r = a:=by
  show atF (cvs rn) (xe' rn mts r) (wd' rn r).f0 0 0 = a
  rw [eb,X.mem,← hat]
  exact ui' fun m hm=>hr.has hi.wf (by have:=(R.mem m hm).1.1;omega) hin
 have hrm : r ∉ (td' nd r).f0:=fun h=>by have:=(R.mem r h).2;rw [ht.u] at this;have:=ht.i.1;omega
 have LK : ∀ k : Int,1 ≤ k → k % 2 = 1 → k < (td' nd r).f0.length → ie' es (rd (td' nd r).f1 ((a + k) % (td' nd r).f0.length)) (xd' (wd' rn r).f1 ((a + k) % (td' nd r).f0.length)):=fun k _ _ _=>X.lk _ (by rw [R.lkl];exact Le' hL)
 have hrl : inR r rn.length:=by rw [hr.l];exact ht.i
 have hmr : ∀ m ∈ (td' nd r).f0,inR m rn.length:=fun m h=>by rw [hr.l];exact (R.mem m h).1
 have rU : ∀ {i : Int},0 ≤ i → wd' (xf' (Me' (-1) (td' nd r).f0 rn) r) i = if i = r then { wd' rn r with f5:=true } else if i ∈ (td' nd r).f0 then { wd' rn i with f4:=-1 } else wd' rn i:=fun {i} h=>by
  rw [xf',tk' _ ht.i.1 (by rw [Ti'];exact hrl.2) h,Rj' hmr h,Rj' hmr ht.i.1,if_neg hrm]
 have OLD : ∀ i,Top nd i → (td' nd i).f3 ≠ -1 → ∃ p q,gf' es y nd' nd' (td' nd i).f3 p q:=fun i hi2 hm2=>by
  by_cases c : i = r
  ·rw [c] at hm2 ⊢
   exact ⟨_,_,O.pair_a g hi ht hN hz R ha hh hm2⟩
  have nm : i ∉ (td' nd r).f0:=fun z=>by have:=(R.mem _ z).2;rw [hi2.u] at this;have:=ht.i.1;omega
  have e0:=O.o i hi2.i c nm
  obtain ⟨e,j,p⟩:=O.pairs g hi ht hN hz R ha hh ((O.tops hi ht R ha).2 (.inl ⟨hi2,c⟩)) (by rw [e0];exact hm2)
  have:=p.a
  rw [e0] at this
  rw [this]
  exact ⟨_,_,p⟩
 have ML : ∀ x,x ∈ linkF (wd' rn r).f1 a (td' nd r).f0.length ((td' nd r).f0.length + 1) 1 mts ↔ x ∈ mts ∨ ∃ i : Int,1 ≤ i ∧ i < (td' nd r).f0.length ∧ (i - 1) % 2 = 0 ∧ x = xd' (wd' rn r).f1 ((a + i) % (td' nd r).f0.length):=fun x=>Dj' aa'
 refine ⟨⟨?_,.inr hin,fun m h=>(R.mem m h).1,aa',by rw [R.lkl];omega,by have:=R.len;have:=hi.sz;omega⟩,⟨fun x hx=>?_,by have:=hm.len g hd;show mts.length ≤ _;omega,hrl,.inr (by show inR (xe' rn mts r) rn.length;rw [eb,hr.l];exact hin),fun m h=>?_,?_,?_,?_⟩,a,xf' (Me' (-1) (td' nd r).f0 rn) r,linkF (wd' rn r).f1 a (td' nd r).f0.length ((td' nd r).f0.length + 1) 1 mts,?_,ha,O,O.inv g hi ht hN hz R ha hh,⟨?_,fun i hn=>?_⟩,⟨fun x hx=>?_,fun i h q=>?_⟩,?_,fun s hs hs3 i hn hv3=>?_,fun i h q=>O.frees g hi ht hN hz R ha hh h q⟩
 ·by_cases c : (td' nd r).f3 = -1
  ·exact .inl c
  exact .inr (hi.mate r ht c).ei
 ·have:=hm.in g hi.nn x hx
  show inR x.f0 rn.length ∧ inR x.f1 rn.length
  rw [hr.l];exact this
 ·have h2 : m ∈ (wd' rn r).f0:=h
  rw [X.mem] at h2
  exact hmr m h2
 ·show 0 < (wd' rn r).f0.length
  rw [X.mem];omega
 ·show (wd' rn r).f0.length ≤ (wd' rn r).f1.length
  rw [X.mem,X.ll,R.lkl];omega
 ·show (wd' rn r).f0.length ≤ _
  rw [X.mem];have:=R.len;have:=hi.sz;omega
 ·show RI.mk y (xf' (Me' (-1) (wd' rn r).f0 rn) r) (linkF (wd' rn r).f1 (atS ⟨y,rn,mts,n,b⟩ r) (wd' rn r).f0.length ((wd' rn r).f0.length + 1) 1 mts) n b = _
  rw [eat,X.mem]
 ·rw [xf',List.length_set,Ti',hr.l,O.l]
 ·rw [O.l] at hn
  have Y:=hr.n i hn
  rw [rU hn.1]
  by_cases c : i = r
  ·rw [if_pos c,c,O.rr]
   exact ⟨X.mem,X.ll,X.lk,X.zz,X.up,rfl⟩
  rw [if_neg c]
  by_cases d : i ∈ (td' nd r).f0
  ·obtain ⟨f,e⟩:=O.mem R ha d
   rw [if_pos d,e]
   exact ⟨Y.mem,Y.ll,Y.lk,Y.zz,rfl,Y.op⟩
  rw [if_neg d,O.o i hn c d]
  exact Y
 ·rcases (ML x).1 hx with h|⟨k,k1,k2,k3,rfl⟩
  ·obtain ⟨e1,e2,e3,e4,e5,e6⟩:=hm.a x h
   have hx2:=hm.in g hi.nn x h
   have hv2:=e3.vtx g e2
   have tt:=hi.top_v hv2.1.1 hv2.1.2
   obtain ⟨p,q,P⟩:=OLD _ tt (by rw [e5];have:=e2.1;omega)
   rw [e5] at P
   exact P.self_link e3
  exact (O.pair_k g hi ht hN hz R ha hh k1 aa' k2).2.self_link (LK k k1 aa' k2)
 ·rcases (O.tops hi ht R ha).1 h with ⟨hi2,hr2⟩|hmem
  ·have nm : i ∉ (td' nd r).f0:=fun z=>by have:=(R.mem _ z).2;rw [hi2.u] at this;have:=ht.i.1;omega
   rw [O.o i hi2.i hr2 nm] at q ⊢
   obtain ⟨l,l1,l2⟩:=hm.b i hi2 q
   exact ⟨l,(ML l).2 (.inl l1),l2⟩
  rcases O.mem_k g hi ht hN hz R ha hh hmem with rfl|⟨k,k1,k2,k3,rfl|rfl⟩
  ·rw [O.m0] at q ⊢
   obtain ⟨l,l1,l2⟩:=hm.b r ht q
   exact ⟨l,(ML l).2 (.inl l1),l2⟩
  ·have P:=(O.pair_k g hi ht hN hz R ha hh k1 k2 k3).2
   exact ⟨_,(ML _).2 (.inr ⟨k,k1,k3,aa',rfl⟩),by rw [P.a];exact LK k k1 k2 k3⟩
  have P:=(O.pair_k g hi ht hN hz R ha hh k1 k2 k3).2
  exact ⟨_,(ML _).2 (.inr ⟨k,k1,k3,aa',rfl⟩),by rw [P.b];exact LK k k1 k2 k3⟩
 ·refine Wl' hd (fun i i1 i2 i3 q=>?_) fun i j i1 i2 j1 j2 i3 j3 q=>?_
  ·obtain ⟨e1,e2,e3,e4,e5,e6⟩:=hm.a _ q
   have hv2:=e3.vtx g e2
   have P:=(O.pair_k g hi ht hN hz R ha hh i1 aa' i2).2
   have J:=yg'.or (LK i i1 aa' i2) P.j
   have tm : ∀ {k : Int},topI nd (rd (td' nd r).f0 ((a + k) % (td' nd r).f0.length)) = r:=fun {k}=>by
    have:=R.at_in (a:=a) (i:=k)
    rw [Ae' hi.wf this.1,(R.mem _ this.2).2,if_neg dc']
    exact Xe' hi.wf ht.i ht.u
   have c0:=O.coarse hi ht R ha _ (hi.vtx hv2.1.1 hv2.1.2)
   have c1:=O.coarse hi ht R ha _ (hi.vtx hv2.2.1.1 hv2.2.1.2)
   apply e4
   rw [← c0,← c1]
   rcases J with ⟨x,z⟩|⟨x,z⟩ <;> rw [x,z,tm,tm]
  obtain ⟨i4,P⟩:=O.pair_k g hi ht hN hz R ha hh i1 aa' i2
  obtain ⟨j4,Q⟩:=O.pair_k g hi ht hN hz R ha hh j1 aa' j2
  have J:=yg'.or (LK i i1 aa' i2) P.j
  have K:=yg'.or (LK j j1 aa' j2) Q.j
  rw [q] at J
  have inj : ∀ u v : Int,0 ≤ u → u < (td' nd r).f0.length → 0 ≤ v → v < (td' nd r).f0.length → rd (td' nd r).f0 ((a + u) % (td' nd r).f0.length) = rd (td' nd r).f0 ((a + v) % (td' nd r).f0.length) → u = v:=fun u v u0 u1 v0 v1 h=>hg' hL ⟨u0,u1⟩ ⟨v0,v1⟩ (fg' R.nod (Le' hL) (Le' hL) h)
  rcases J with ⟨x,_⟩|⟨x,_⟩ <;> rcases K with ⟨z,_⟩|⟨z,_⟩ <;> rw [z] at x
  ·have:=inj _ _ aa' aa' aa' aa' x;omega
  ·have:=inj _ _ aa' aa' aa' aa' x;omega
  ·have:=inj _ _ aa' aa' aa' aa' x;omega
  have:=inj _ _ aa' aa' aa' aa' x;omega
 rw [O.l] at hn
 obtain ⟨q,q4⟩:=O.frees g hi ht hN hz R ha hh hs hs3
 rw [q4] at hv3 ⊢
 have e2 : (wd' (xf' (Me' (-1) (td' nd r).f0 rn) r) i).f2 = (wd' rn i).f2:=by
  rw [rU hn.1]
  split
  ·rename_i c;rw [c]
  split <;> rfl
 rw [e2]
 have key : ∀ u,Top nd u → (td' nd u).f3 = -1 → (td' nd s).f4 = (td' nd u).f4 → (wd' rn i).f2 = (td' nd s).f4:=fun u hu hu3 e4=>by
  have G:=hi.free u hu hu3
  rw [e4] at hv3 ⊢
  by_cases c : i = r
  ·rw [c,O.has_r hi ht R ha _ (hi.vtx G.v.1 G.v.2)] at hv3
   have:=of_decide_eq_true hv3
   have:=G.v.2
   omega
  rw [O.has hi ht R ha c Ya' _ (hi.vtx G.v.1 G.v.2)] at hv3
  exact hb u hu hu3 i hn hv3
 rcases q with ⟨h1,h2,h3⟩|⟨h1,h2,h3⟩
 ·exact key s h1 h3 rfl
 exact key r ht h2 h3
end
def Pth (J : Int → Int → Int → Prop) : Int → List Int → List Int → Prop
 | _,[],[]=>True
 | x,m :: ms,l :: ls=>J l x m ∧ Pth J m ms ls
 | _,_,_=>False
theorem Pth.app {J : Int → Int → Int → Prop} : ∀ {ms ls ms2 ls2 : List Int} {x : Int},Pth J x ms ls → Pth J ((x :: ms).getLast ia') ms2 ls2 → Pth J x (ms ++ ms2) (ls ++ ls2)
 | [],[],_,_,x,_,h=>h
 | m :: ms,l :: ls,ms2,ls2,x,h,k=>⟨h.1,Pth.app h.2 (by rw [List.getLast_cons ia'] at k;exact k)⟩
 | [],_ :: _,_,_,_,h,_=>h.elim
 | _ :: _,[],_,_,_,h,_=>h.elim
theorem Pth.at {J : Int → Int → Int → Prop} : ∀ {ms ls : List Int} {x : Int},Pth J x ms ls → ms.length = ls.length ∧ ∀ k,inR k ls.length → J (rd ls k) (rd (x :: ms) k) (rd ms k)
 | [],[],x,_=>⟨rfl,fun k hk=>absurd hk.2 (by have:=hk.1;simp;omega)⟩
 | m :: ms,l :: ls,x,h=>by
  obtain ⟨h1,h2⟩:=Pth.at h.2
  refine ⟨by rw [List.length_cons,List.length_cons,h1],fun k hk=>?_⟩
  by_cases c : k = 0
  ·subst c;exact h.1
  have hk0 : 0 < k:=by have:=hk.1;omega
  rw [Vh' hk0,Vh' hk0,Vh' (l:=ms) hk0]
  exact h2 (k - 1) ⟨aa',dd'⟩
 | [],_ :: _,_,h=>h.elim
 | _ :: _,[],_,h=>h.elim
theorem Xj' : ∀ {xs us : List Int},(∃ x ∈ xs,x ∈ us) → ∃ p j q,xs = p ++ j :: q ∧ (∀ x ∈ p,x ∉ us) ∧ j ∈ us
 | [],us,h=>by obtain ⟨x,hx,_⟩:=h;cases hx
 | x :: xs,us,h=>by
  by_cases c : x ∈ us
  ·exact ⟨[],x,xs,rfl,fun z hz=>absurd hz List.not_mem_nil,c⟩
  obtain ⟨z,hz,hz2⟩:=h
  rcases List.mem_cons.1 hz with rfl|hz
  ·exact absurd hz2 c
  obtain ⟨p,j,q,h1,h2,h3⟩:=Xj' ⟨z,hz,hz2⟩
  refine ⟨x :: p,j,q,by rw [h1];rfl,fun w hw=>?_,h3⟩
  rcases List.mem_cons.1 hw with rfl|hw
  ·exact c
  exact h2 w hw
theorem qf' {p q : List Int} {j : Int} : rd (p ++ j :: q) p.length = j:=by
 unfold rd
 simp
theorem eo' {p q : List Int} {k : Int} (hk : inR k p.length) : rd (p ++ q) k = rd p k:=by
 unfold rd
 have h : k.toNat < p.length:=by have:=hk.1;have:=hk.2;omega
 simp [List.getElem?_append,h]
theorem fo' {ws : List Int} {j : Int} {q : List Int} : ∀ {p pre : List Int} {k : Nat},p.length < k → (∀ x ∈ p,x ∉ ws) → j ∈ ws → ih' (pre ++ (p ++ j :: q)) ws k pre.length = some ((pre.length : Int) + p.length)
 | [],pre,k,hk,_,hj=>by
  obtain ⟨k,rfl⟩ : ∃ z,k = z + 1:=⟨k - 1,aa'⟩
  rw [ih',if_pos ⟨aa',Ga'⟩]
  show (if rd (pre ++ j :: q) pre.length ∈ ws then _ else _) = _
  rw [qf',if_pos hj]
  simp
 | x :: p,pre,k,hk,hp,hj=>by
  obtain ⟨k,rfl⟩ : ∃ z,k = z + 1:=⟨k - 1,aa'⟩
  have e : pre ++ (x :: p ++ j :: q) = (pre ++ [x]) ++ (p ++ j :: q):=by simp
  have r : rd (pre ++ (x :: p ++ j :: q)) pre.length = x:=by
   show rd (pre ++ x :: (p ++ j :: q)) pre.length = x
   exact qf'
  rw [List.length_cons] at hk
  rw [ih',if_pos ⟨aa',Ga'⟩,r,if_neg (hp x List.mem_cons_self),e]
  have:=fo' (ws:=ws) (j:=j) (q:=q) (p:=p) (pre:=pre ++ [x]) (k:=k) aa' (fun z hz=>hp z (List.mem_cons_of_mem _ hz)) hj
  rw [List.length_append,List.length_singleton] at this
  rw [show ((pre.length : Int) + 1) = ((pre.length + 1 : Nat) : Int) by omega,this,List.length_cons]
  exact congrArg some aa'
theorem vp' {bk q : List Int} : ∀ {w : List Int} {f : Nat} {m l : List Int},w.length < f → dnF bk (w.reverse ++ q) f ((w.length : Int) - 1) m l = (m ++ w,l ++ w.map (rd bk))
 | [],f,m,l,hf=>by
  obtain ⟨f,rfl⟩ : ∃ z,f = z + 1:=⟨f - 1,aa'⟩
  rw [dnF,if_neg ia']
  simp
 | x :: w,f,m,l,hf=>by
  obtain ⟨f,rfl⟩ : ∃ z,f = z + 1:=⟨f - 1,aa'⟩
  rw [List.length_cons] at hf
  have e : ((x :: w).length : Int) - 1 = (w.length : Int):=by rw [List.length_cons];omega
  have r : rd ((x :: w).reverse ++ q) (w.length : Int) = x:=by
   have : (x :: w).reverse ++ q = w.reverse ++ x :: q:=by simp
   rw [this]
   have:=qf' (p:=w.reverse) (q:=q) (j:=x)
   rw [List.length_reverse] at this
   exact this
  rw [dnF,e,if_pos aa',r]
  have:=vp' (bk:=bk) (q:=x :: q) (w:=w) (f:=f) (m:=m ++ [x]) (l:=l ++ [rd bk x]) aa'
  rw [show (x :: w).reverse ++ q = w.reverse ++ x :: q by simp,this]
  simp
theorem wp' {bk q : List Int} {j : Int} : ∀ {p pre : List Int} {f : Nat} {m l : List Int},p.length < f → j ∉ p → upF bk (pre ++ (p ++ j :: q)) j f pre.length m l = some (m ++ p,l ++ p.map (rd bk))
 | [],pre,f,m,l,hf,hj=>by
  obtain ⟨f,rfl⟩ : ∃ z,f = z + 1:=⟨f - 1,aa'⟩
  rw [upF,if_pos ⟨aa',Ga'⟩]
  show (if rd (pre ++ j :: q) pre.length = j then _ else _) = _
  rw [qf',if_pos rfl]
  simp
 | x :: p,pre,f,m,l,hf,hj=>by
  obtain ⟨f,rfl⟩ : ∃ z,f = z + 1:=⟨f - 1,aa'⟩
  rw [List.length_cons] at hf
  have e : pre ++ (x :: p ++ j :: q) = (pre ++ [x]) ++ (p ++ j :: q):=by simp
  have r : rd (pre ++ (x :: p ++ j :: q)) pre.length = x:=by
   show rd (pre ++ x :: (p ++ j :: q)) pre.length = x
   exact qf'
  have hx : x ≠ j:=fun z=>hj (z ▸ List.mem_cons_self)
  rw [upF,if_pos ⟨aa',Ga'⟩,r,if_neg hx,e]
  have:=wp' (bk:=bk) (q:=q) (j:=j) (p:=p) (pre:=pre ++ [x]) (f:=f) (m:=m ++ [x]) (l:=l ++ [rd bk x]) aa' (fun z=>hj (List.mem_cons_of_mem _ z))
  rw [List.length_append,List.length_singleton] at this
  rw [show ((pre.length : Int) + 1) = ((pre.length + 1 : Nat) : Int) by omega,this]
  simp
theorem xp' {ah : List S56} {q : List Int} : ∀ {w : List Int} {f : Nat} {m : List Int} {l : List S56},w.length < f → dnS ah (w.reverse ++ q) f ((w.length : Int) - 1) m l = (m ++ w,l ++ w.map (xd' ah))
 | [],f,m,l,hf=>by
  obtain ⟨f,rfl⟩ : ∃ z,f = z + 1:=⟨f - 1,aa'⟩
  rw [dnS,if_neg ia']
  simp
 | x :: w,f,m,l,hf=>by
  obtain ⟨f,rfl⟩ : ∃ z,f = z + 1:=⟨f - 1,aa'⟩
  rw [List.length_cons] at hf
  have e : ((x :: w).length : Int) - 1 = (w.length : Int):=by rw [List.length_cons];omega
  have r : rd ((x :: w).reverse ++ q) (w.length : Int) = x:=by
   have : (x :: w).reverse ++ q = w.reverse ++ x :: q:=by simp
   rw [this]
   have:=qf' (p:=w.reverse) (q:=q) (j:=x)
   rw [List.length_reverse] at this
   exact this
  rw [dnS,e,if_pos aa',r]
  have:=xp' (ah:=ah) (q:=x :: q) (w:=w) (f:=f) (m:=m ++ [x]) (l:=l ++ [xd' ah x]) aa'
  rw [show (x :: w).reverse ++ q = w.reverse ++ x :: q by simp,this]
  simp
theorem yp' {ah : List S56} {q : List Int} : ∀ {p pre : List Int} {f : Nat} {m : List Int} {l : List S56} {kk : Int},kk = (pre.length : Int) + p.length → p.length < f → upS ah (pre ++ (p ++ q)) kk f pre.length m l = (m ++ p,l ++ p.map fun x=>swp (xd' ah x))
 | [],pre,f,m,l,kk,hkk,hf=>by
  obtain ⟨f,rfl⟩ : ∃ z,f = z + 1:=⟨f - 1,aa'⟩
  rw [upS,if_neg (by rw [hkk];simp)]
  simp
 | x :: p,pre,f,m,l,kk,hkk,hf=>by
  obtain ⟨f,rfl⟩ : ∃ z,f = z + 1:=⟨f - 1,aa'⟩
  rw [List.length_cons] at hf hkk
  have e : pre ++ (x :: p ++ q) = (pre ++ [x]) ++ (p ++ q):=by simp
  have r : rd (pre ++ (x :: p ++ q)) pre.length = x:=by
   show rd (pre ++ x :: (p ++ q)) pre.length = x
   exact qf'
  rw [upS,if_pos aa',r,e]
  have:=yp' (ah:=ah) (q:=q) (p:=p) (pre:=pre ++ [x]) (f:=f) (m:=m ++ [x]) (l:=l ++ [swp (xd' ah x)]) (kk:=kk) (by rw [hkk,List.length_append,List.length_singleton];omega) aa'
  rw [List.length_append,List.length_singleton] at this
  rw [show ((pre.length : Int) + 1) = ((pre.length + 1 : Nat) : Int) by omega,this]
  simp
theorem Lo' {l u : List Int} {x : Int} (h : l = u ++ [x]) {k : l ≠ []} : l.getLast k = x:=by
 subst h
 simp
structure Th' (es : List S73) (y : List Int) (nd : List S89) (mem lk : List Int) (j : Int) : Prop where
 len : lk.length = mem.length
 odd : (mem.length : Int) % 2 = 1
 three : 3 ≤ mem.length
 nod : mem.Nodup
 tops : ∀ m ∈ mem,Top nd m
 jm : j ∈ mem
 lnk : ∀ k,inR k mem.length → inR (rd lk k) es.length ∧ slE y nd (ud' es (rd lk k)) = 0 ∧ ((topI nd (ud' es (rd lk k)).f0 = rd mem k ∧ topI nd (ud' es (rd lk k)).f1 = rd mem ((k + 1) % mem.length)) ∨ (topI nd (ud' es (rd lk k)).f0 = rd mem ((k + 1) % mem.length) ∧ topI nd (ud' es (rd lk k)).f1 = rd mem k))
 mt : ∀ m ∈ mem,m ≠ j → (td' nd m).f3 ≠ -1 ∧ mt nd es m ∈ mem ∧ mt nd es m ≠ j
section
variable {N most : Int} {es : List S73} {D : Int} {y : List Int} {nd nd' nd2 : List S89} {rn : List S77} {mts : List S56} {lb ah bk : List Int} {rk : Int → Nat} {K : Nat} {t : TI} {r a : Int}
theorem Lab.sum3 (L : Lab es y nd lb ah bk rk K) {i : Int} (hn : inR i nd.length) (hl : rd lb i ≠ 0) (h : rd ah i ≠ -1) : rd lb i + rd lb (rd ah i) = 3:=by
 rcases L.dom i hn with k|k|k
 ·exact absurd k hl
 ·rcases L.ev i hn k with ⟨_,e⟩|⟨_,e1,e2,_⟩
  ·exact absurd e h
  rw [k,e1,e2];rfl
 rw [k,(L.od i hn k).2.1];rfl
def Tgt (es : List S73) (y : List Int) (nd : List S89) (e a b : Int) : Prop:=inR e es.length ∧ slE y nd (ud' es e) = 0 ∧ ((topI nd (ud' es e).f0 = a ∧ topI nd (ud' es e).f1 = b) ∨ (topI nd (ud' es e).f0 = b ∧ topI nd (ud' es e).f1 = a))
theorem Tgt.symm {e a b : Int} (h : Tgt es y nd e a b) : Tgt es y nd e b a:=⟨h.1,h.2.1,h.2.2.symm⟩
theorem Lab.step (g : Gph N most es) (hi : Inv N most es D y nd) (L : Lab es y nd lb ah bk rk K) {i : Int} (hn : inR i nd.length) (hl : rd lb i ≠ 0) (h : rd ah i ≠ -1) : Tgt es y nd (rd bk i) i (rd ah i):=by
 rcases L.dom i hn with k|k|k
 ·exact absurd k hl
 ·rcases L.ev i hn k with ⟨_,e⟩|⟨e0,e1,e2,e3,_⟩
  ·exact absurd e h
  have p:=hi.pair g (L.top i hn hl) e0
  rw [e1,e3]
  exact ⟨p.ei,p.sl,p.j⟩
 have O:=L.od i hn k
 exact ⟨O.2.2.2.1,O.2.2.2.2.1,O.2.2.2.2.2.1.symm⟩
theorem Way.next {n : Int} {l : List Int} (w : Way ah n l) : ∀ {u v : List Int} {x z : Int},l = u ++ x :: z :: v → rd ah x = z ∧ rd ah x ≠ -1:=by
 induction w with
 | last h =>
  intro u v x z e
  have:=congrArg List.length e
  simp at this
  omega
 | more h w ih =>
  intro u v x z e
  cases u with
  | nil =>
   have e1:=List.cons.inj e
   obtain ⟨l',e2⟩:=w.head
   rw [e2] at e1
   have:=(List.cons.inj e1.2).1
   exact ⟨by rw [← e1.1];exact this,by rw [← e1.1];exact h⟩
  | cons x2 u =>
   have e1:=List.cons.inj e
   exact ih e1.2
theorem Way.par (L : Lab es y nd lb ah bk rk K) (g : Gph N most es) (hi : Inv N most es D y nd) {j : Int} {q : List Int} {n : Int} {l : List Int} (w : Way ah n l) : ∀ {p : List Int},l = p ++ j :: q → inR n nd.length → rd lb n ≠ 0 → (rd lb n + rd lb j + p.length) % 2 = 0:=by
 induction w with
 | last h =>
  intro p e hn hl
  cases p with
  | nil=>rw [(List.cons.inj e).1,List.length_nil];omega
  | cons x p=>have:=congrArg List.length e;simp at this <;> omega
 | more h w ih =>
  intro p e hn hl
  cases p with
  | nil=>rw [(List.cons.inj e).1,List.length_nil];omega
  | cons x p =>
   have q:=L.ahead g hi hn hl h
   have:=ih (List.cons.inj e).2 q.1 q.2.1
   have:=L.sum3 hn hl h
   rw [List.length_cons]
   omega
theorem Way.down {J : Int → Int → Int → Prop} {n : Int} {l : List Int} (w : Way ah n l) (hJ : ∀ x ∈ l,rd ah x ≠ -1 → J (rd bk x) (rd ah x) x) : ∀ {v : List Int} {j : Int} {q : List Int},l = v.reverse ++ j :: q → Pth J j v (v.map (rd bk))
 | [],j,q,e=>trivial
 | x :: v,j,q,e=>by
  have e2 : l = v.reverse ++ x :: j :: q:=by rw [e];simp
  obtain ⟨h1,h2⟩:=w.next e2
  have:=hJ x (by rw [e2];simp) h2
  rw [h1] at this
  exact ⟨this,Way.down w hJ e2⟩
theorem Way.up {J : Int → Int → Int → Prop} {j : Int} {q : List Int} : ∀ {p : List Int} {n : Int} {l : List Int},Way ah n l → (∀ x ∈ l,rd ah x ≠ -1 → J (rd bk x) x (rd ah x)) → l = p ++ j :: q → ∃ v,p ++ [j] = n :: v ∧ Pth J n v (p.map (rd bk))
 | [],n,l,w,hJ,e=>by
  obtain ⟨l',e2⟩:=w.head
  rw [e2] at e
  have:=(List.cons.inj e).1
  exact ⟨[],by rw [this];rfl,trivial⟩
 | x :: p,n,l,w,hJ,e=>by
  cases w with
  | last h=>have:=congrArg List.length e;simp at this <;> omega
  | more h w =>
   have e2:=List.cons.inj e
   obtain ⟨v,v1,v2⟩:=Way.up w (fun z hz=>hJ z (List.mem_cons_of_mem _ hz)) e2.2
   refine ⟨p ++ [j],by rw [e2.1];rfl,?_⟩
   rw [v1]
   refine ⟨?_,v2⟩
   have:=hJ n List.mem_cons_self h
   rw [← e2.1];exact this
theorem zp' (g : Gph N most es) (hi : Inv N most es D y nd) (L : Lab es y nd lb ah bk rk K) (S : Fg' es nd lb ah bk t) {e a c : Int} {xs us : List Int} (he : inR e es.length) (hs : slE y nd (ud' es e) = 0)
  (ea : topI nd (ud' es e).f0 = a) (ec : topI nd (ud' es e).f1 = c) (hac : a ≠ c) (la : rd lb a = 1) (lc : rd lb c = 1) (wa : Way ah a xs) (wc : Way ah c us) (hrt : rd t.rt a = rd t.rt c) :
  ∃ p j q p' q',xs = p ++ j :: q ∧ us = p' ++ j :: q' ∧ (∀ x ∈ p,x ∉ us) ∧ j ∈ us ∧ j ∉ p' ∧ rd lb j = 1 ∧ Th' es y nd (j :: (p.reverse ++ p')) (p.reverse.map (rd bk) ++ e :: p'.map (rd bk)) j:=by
 have ha : inR a nd.length:=ea ▸ (hi.top_a g he).i
 have hc : inR c nd.length:=ec ▸ (hi.top_b g he).i
 have la0 : rd lb a ≠ 0:=by rw [la];decide
 have lc0 : rd lb c ≠ 0:=by rw [lc];decide
 have MA:=wa.mem g hi L ha la0
 have MC:=wc.mem g hi L hc lc0
 obtain ⟨p,j,q,e1,e2,e3⟩:=Xj' (xs:=xs) (us:=us) ⟨_,wa.root_mem g hi L S ha la0,by rw [hrt];exact wc.root_mem g hi L S hc lc0⟩
 obtain ⟨p',q',e4,e5⟩:=List.eq_append_cons_of_mem e3
 have na:=wa.nodup g hi L ha la0
 have nc:=wc.nodup g hi L hc lc0
 have jx : j ∈ xs:=by rw [e1];simp
 have ja:=MA j jx
 have tp : ∀ x,(x ∈ xs ∨ x ∈ us) → Top nd x:=fun x h=>h.elim (fun h=>L.top x (MA x h).1 (MA x h).2.1) fun h=>L.top x (MC x h).1 (MC x h).2.1
 have jp : j ∉ p:=fun z=>e2 j z e3
 have ev : ∀ x,inR x nd.length → rd lb x = 1 → rd ah x ≠ -1 → (td' nd x).f3 ≠ -1 ∧ mt nd es x = rd ah x ∧ mt nd es (rd ah x) = x ∧ (td' nd (rd ah x)).f3 ≠ -1:=fun x hx h1 h2=>by
  rcases L.ev x hx h1 with ⟨_,z⟩|⟨z1,z2,_⟩
  ·exact absurd z h2
  have q:=hi.mt_ok g (L.top x hx (by rw [h1];decide)) z1
  refine ⟨z1,z2.symm,?_,?_⟩
  ·rw [z2];exact q.2.2.2
  rw [z2,q.2.2.1];exact z1
 have last : ∀ {p : List Int} {n : Int} {l q : List Int},Way ah n l → l = p ++ j :: q → p ≠ [] → ∃ x ∈ p,rd ah x = j ∧ rd ah x ≠ -1:=fun {p n l q} w h hp=>by
  obtain ⟨p0,x,rfl⟩ : ∃ p0 x,p = p0 ++ [x]:=⟨p.dropLast,p.getLast hp,(List.dropLast_concat_getLast hp).symm⟩
  have:=w.next (u:=p0) (x:=x) (z:=j) (v:=q) (by rw [h];simp)
  exact ⟨x,ia',this.1,this.2⟩
 have j1 : rd lb j = 1:=by
  rcases L.dom j ja.1 with h|h|h
  ·exact absurd h ja.2.1
  ·exact h
  exfalso
  have pn : p ≠ []:=fun z=>by
   obtain ⟨l',w1⟩:=wa.head
   rw [z,List.nil_append] at e1
   have:=(List.cons.inj (w1.symm.trans e1)).1
   rw [← this,la] at h;cases h
  have pn' : p' ≠ []:=fun z=>by
   obtain ⟨l',w1⟩:=wc.head
   rw [z,List.nil_append] at e4
   have:=(List.cons.inj (w1.symm.trans e4)).1
   rw [← this,lc] at h;cases h
  obtain ⟨x,x1,x2,x3⟩:=last wa e1 pn
  obtain ⟨z,z1,z2,z3⟩:=last wc e4 pn'
  have mx:=MA x (by rw [e1];exact List.mem_append_left _ x1)
  have mz:=MC z (by rw [e4];exact List.mem_append_left _ z1)
  have sx:=L.sum3 mx.1 mx.2.1 x3
  have sz:=L.sum3 mz.1 mz.2.1 z3
  rw [x2,h] at sx
  rw [z2,h] at sz
  have a1:=(ev x mx.1 aa' x3).2.2.1
  have a2:=(ev z mz.1 aa' z3).2.2.1
  rw [x2] at a1
  rw [z2] at a2
  have : x = z:=a1.symm.trans a2
  exact e2 x x1 (by rw [e4,this];exact List.mem_append_left _ z1)
 have mates : ∀ {p : List Int} {n : Int} {l q : List Int},Way ah n l → l = p ++ j :: q → inR n nd.length → rd lb n = 1 → (∀ m ∈ l,inR m nd.length ∧ rd lb m ≠ 0) → l.Nodup → ∀ m ∈ p,(td' nd m).f3 ≠ -1 ∧ mt nd es m ∈ p:=fun {p n l q} w hl hn h1 hm nl m mp=>by
  have hml : m ∈ l:=by rw [hl];exact List.mem_append_left _ mp
  have hmm:=hm m hml
  obtain ⟨u,v,hp⟩:=List.append_of_mem mp
  rcases L.dom m hmm.1 with k|k|k
  ·exact absurd k hmm.2
  ·-- even: the next one
   have nx : ∃ z,rd ah m = z ∧ rd ah m ≠ -1 ∧ (z ∈ p ∨ z = j):=by
    cases v with
    | nil =>
     have:=w.next (u:=u) (x:=m) (z:=j) (v:=q) (by rw [hl,hp];simp)
     exact ⟨j,this.1,this.2,.inr rfl⟩
    | cons z v =>
     have:=w.next (u:=u) (x:=m) (z:=z) (v:=v ++ j :: q) (by rw [hl,hp];simp)
     exact ⟨z,this.1,this.2,.inl (by rw [hp];simp)⟩
   obtain ⟨z,z1,z2,z3⟩:=nx
   have E:=ev m hmm.1 k z2
   refine ⟨E.1,?_⟩
   rw [E.2.1,z1]
   refine z3.resolve_right fun c=>?_
   have:=L.sum3 hmm.1 hmm.2 z2
   rw [z1,c,j1,k] at this
   cases this
  have nx : ∃ x ∈ p,rd ah x = m ∧ rd ah x ≠ -1:=by
   by_cases hu : u = []
   ·exfalso
    rw [hu,List.nil_append] at hp
    obtain ⟨l',w1⟩:=w.head
    rw [hl,hp] at w1
    have:=(List.cons.inj w1).1
    rw [this,h1] at k;cases k
   obtain ⟨p0,x,rfl⟩ : ∃ p0 x,u = p0 ++ [x]:=⟨u.dropLast,u.getLast hu,(List.dropLast_concat_getLast hu).symm⟩
   have:=w.next (u:=p0) (x:=x) (z:=m) (v:=v ++ j :: q) (by rw [hl,hp];simp)
   exact ⟨x,by rw [hp];simp,this.1,this.2⟩
  obtain ⟨x,x1,x2,x3⟩:=nx
  have hx:=hm x (by rw [hl];exact List.mem_append_left _ x1)
  have sx:=L.sum3 hx.1 hx.2 x3
  rw [x2,k] at sx
  have E:=ev x hx.1 aa' x3
  rw [x2] at E
  exact ⟨E.2.2.2,by rw [E.2.2.1];exact x1⟩
 have mA:=mates wa e1 ha la (fun m h=>⟨(MA m h).1,(MA m h).2.1⟩) na
 have mC:=mates wc e4 hc lc (fun m h=>⟨(MC m h).1,(MC m h).2.1⟩) nc
 have px : ∀ x ∈ p,x ∈ xs:=fun x h=>by rw [e1];exact List.mem_append_left _ h
 have pu : ∀ x ∈ p',x ∈ us:=fun x h=>by rw [e4];exact List.mem_append_left _ h
 have parA:=wa.par L g hi e1 ha la0
 have parC:=wc.par L g hi e4 hc lc0
 rw [la,j1] at parA
 rw [lc,j1] at parC
 have npp : ¬(p.length = 0 ∧ p'.length = 0):=fun z=>by
  rw [List.length_eq_zero_iff.1 z.1,List.nil_append] at e1
  rw [List.length_eq_zero_iff.1 z.2,List.nil_append] at e4
  obtain ⟨l1,w1⟩:=wa.head
  obtain ⟨l2,w2⟩:=wc.head
  exact hac ((List.cons.inj (w1.symm.trans e1)).1.trans (List.cons.inj (w2.symm.trans e4)).1.symm)
 have hlen : (j :: (p.reverse ++ p')).length = 1 + p.length + p'.length:=by simp;omega
 have PTH : Pth (Tgt es y nd) j (p.reverse ++ (p' ++ [j])) (p.reverse.map (rd bk) ++ e :: p'.map (rd bk)):=by
  have w1 : Pth (Tgt es y nd) j p.reverse (p.reverse.map (rd bk)):=wa.down (fun x hx h=>(L.step g hi (MA x hx).1 (MA x hx).2.1 h).symm) (by rw [List.reverse_reverse];exact e1)
  obtain ⟨v,v1,v2⟩:=Way.up wc (fun x hx h=>L.step g hi (MC x hx).1 (MC x hx).2.1 h) e4
  refine w1.app ?_
  have hl : (j :: p.reverse).getLast ia' = a:=by
   obtain ⟨l1,h1⟩:=wa.head
   cases p with
   | nil =>
    rw [List.nil_append] at e1
    exact (List.cons.inj (h1.symm.trans e1)).1.symm
   | cons x p =>
    have:=(List.cons.inj (h1.symm.trans e1)).1
    rw [this]
    exact Lo' (u:=j :: p.reverse) ia'
  rw [hl,v1]
  exact ⟨⟨he,hs,.inl ⟨ea,ec⟩⟩,v2⟩
 obtain ⟨at1,at2⟩:=PTH.at
 refine ⟨p,j,q,p',q',e1,e4,e2,e3,e5,j1,⟨?_,?_,?_,?_,fun m hm=>?_,List.mem_cons_self,fun k hk=>?_,fun m hm hne=>?_⟩⟩
 ·simp;omega
 ·rw [hlen];omega
 ·rw [hlen];omega
 ·rw [List.nodup_cons,List.nodup_append]
  refine ⟨fun z=>?_,?_,?_,fun x hx z hz w=>?_⟩
  ·rw [List.mem_append,List.mem_reverse] at z
   exact z.elim jp e5
  ·rw [e1,List.nodup_append] at na
   exact (List.reverse_perm p).nodup_iff.2 na.1
  ·rw [e4,List.nodup_append] at nc
   exact nc.1
  rw [List.mem_reverse] at hx
  exact e2 x hx (pu x (w ▸ hz))
 ·rw [List.mem_cons,List.mem_append,List.mem_reverse] at hm
  rcases hm with rfl|hm|hm
  ·exact tp _ (.inl jx)
  ·exact tp m (.inl (px m hm))
  exact tp m (.inr (pu m hm))
 ·have hl2 : (p.reverse.map (rd bk) ++ e :: p'.map (rd bk)).length = (j :: (p.reverse ++ p')).length:=by simp;omega
  have T:=at2 k (by rw [hl2];exact hk)
  have r1 : rd (j :: (p.reverse ++ (p' ++ [j]))) k = rd (j :: (p.reverse ++ p')) k:=by
   rw [show j :: (p.reverse ++ (p' ++ [j])) = (j :: (p.reverse ++ p')) ++ [j] by simp]
   exact eo' hk
  have r2 : rd (p.reverse ++ (p' ++ [j])) k = rd (j :: (p.reverse ++ p')) ((k + 1) % (j :: (p.reverse ++ p')).length):=by
   rw [show p.reverse ++ (p' ++ [j]) = (p.reverse ++ p') ++ [j] by simp]
   have hk2:=hk.2
   have hk1:=hk.1
   by_cases c : k + 1 < (j :: (p.reverse ++ p')).length
   ·rw [Int.emod_eq_of_lt aa' c,Vh' aa',show k + 1 - 1 = k by omega]
    exact eo' ⟨hk1,by rw [List.length_cons] at c;omega⟩
   rw [show k + 1 = ((j :: (p.reverse ++ p')).length : Int) by omega,Int.emod_self]
   show rd (p.reverse ++ p' ++ [j]) k = j
   have : k = ((p.reverse ++ p').length : Int):=by rw [List.length_cons] at c hk2;omega
   rw [this]
   exact qf'
  rw [r1,r2] at T
  exact T
 rw [List.mem_cons,List.mem_append,List.mem_reverse] at hm
 rw [List.mem_cons,List.mem_append,List.mem_reverse]
 rcases hm with rfl|hm|hm
 ·exact absurd rfl hne
 ·have:=mA m hm
  exact ⟨this.1,.inr (.inl this.2),fun z=>jp (z ▸ this.2)⟩
 have:=mC m hm
 exact ⟨this.1,.inr (.inr this.2),fun z=>e5 (z ▸ this.2)⟩
end
structure De' (nd nd' : List S89) (mem lk : List Int) (j : Int) : Prop where
 l : nd'.length = nd.length + 1
 o : ∀ i,inR i nd.length → i ∉ mem → td' nd' i = td' nd i
 m : ∀ i,i ∈ mem → td' nd' i = { td' nd i with f2:=(nd.length : Int),f3:=-1 }
 n : td' nd' nd.length = ⟨mem,lk,-1,(td' nd j).f3,(td' nd j).f4,0,false⟩
theorem fold_is {nd : List S89} {mem lk : List Int} {j : Int} (hm : ∀ m ∈ mem,inR m nd.length) : De' nd (inF nd.length mem nd ++ [⟨mem,lk,-1,(td' nd j).f3,(td' nd j).f4,0,false⟩]) mem lk j:=by
 have hl : ((inF nd.length mem nd).length : Int) = nd.length:=by rw [Qj']
 refine ⟨by rw [List.length_append,Qj',List.length_singleton],fun i hn h=>?_,fun i h=>?_,?_⟩
 ·rw [pk' _ hn.1 fc',if_neg fc',Rk' hm hn.1,if_neg h]
 ·have hn:=hm i h
  rw [pk' _ hn.1 fc',if_neg fc',Rk' hm hn.1,if_pos h]
 rw [pk' _ aa' (by rw [hl];exact Int.le_refl _),if_pos hl.symm]
section
variable {N most : Int} {es : List S73} {D : Int} {y : List Int} {nd nd' nd2 : List S89} {rn : List S77} {mts : List S56} {lb ah bk : List Int} {rk : Int → Nat} {K : Nat} {t : TI} {r a j : Int} {mem lk : List Int} {ls : List S56}
section
variable (g : Gph N most es) (hi : Inv N most es D y nd) (T : Th' es y nd mem lk j) (O : De' nd nd' mem lk j)
include g hi T O
theorem De'.f {i : Int} (hn : inR i nd.length) : (td' nd' i).f0 = (td' nd i).f0 ∧ (td' nd' i).f1 = (td' nd i).f1 ∧ (td' nd' i).f4 = (td' nd i).f4 ∧ (td' nd' i).f5 = (td' nd i).f5 ∧ (td' nd' i).f6 = (td' nd i).f6 ∧ (td' nd' i).f2 = (if i ∈ mem then (nd.length : Int) else (td' nd i).f2):=by
 by_cases c : i ∈ mem
 ·rw [O.m i c,if_pos c];exact ⟨rfl,rfl,rfl,rfl,rfl,rfl⟩
 rw [O.o i hn c,if_neg c];exact ⟨rfl,rfl,rfl,rfl,rfl,rfl⟩
theorem De'.lt {i : Int} (hn : inR i nd'.length) : i = nd.length ∨ inR i nd.length:=by
 rw [O.l] at hn
 by_cases c : i = nd.length
 ·exact .inl c
 exact .inr ⟨hn.1,Lb'⟩
theorem De'.ge {i : Int} (hn : inR i nd.length) : inR i nd'.length:=⟨hn.1,by rw [O.l];have:=hn.2;omega⟩
theorem De'.nin : inR (nd.length : Int) nd'.length:=⟨aa',by rw [O.l];omega⟩
theorem De'.wf : WFn nd':=by
 intro i hn
 rcases O.lt g hi T hn with rfl|h
 ·rw [O.n];exact .inl rfl
 rw [(O.f g hi T h).2.2.2.2.2]
 split
 ·right;rw [O.l];have:=h.2;omega
 have:=hi.wf i h
 rw [O.l]
 omega
theorem De'.has {i : Int} (hne : i ≠ nd.length) (hi1 : i ≠ -1) : ∀ v,inR v nd.length → Ad' nd' i v = Ad' nd i v:=by
 refine af' hi.wf fun v hv ih=>?_
 rw [Sd' (O.wf g hi T) hi1 (O.ge g hi T hv),Sd' hi.wf hi1 hv,(O.f g hi T hv).2.2.2.2.2]
 split
 ·rfl
 by_cases c : v ∈ mem
 ·rw [if_pos c,Sd' (O.wf g hi T) hi1 (O.nin g hi T),if_neg (Ne.symm hne),O.n,(T.tops v c).u]
  show Ad' nd' i (-1) = Ad' nd i (-1)
  rw [ge' i hi1,ge' i hi1]
 rw [if_neg c]
 by_cases d : (td' nd v).f2 = -1
 ·rw [d,ge' i hi1,ge' i hi1]
 exact ih d ((te' hi.wf hv).resolve_left d)
theorem De'.top : ∀ v,inR v nd.length → topI nd' v = if topI nd v ∈ mem then (nd.length : Int) else topI nd v:=by
 refine af' hi.wf fun v hv ih=>?_
 rw [Ae' (O.wf g hi T) (O.ge g hi T hv),Ae' hi.wf hv,(O.f g hi T hv).2.2.2.2.2]
 by_cases c : v ∈ mem
 ·rw [if_pos c,if_neg aa',(T.tops v c).u,if_pos rfl,if_pos c]
  exact Xe' (O.wf g hi T) (O.nin g hi T) (by rw [O.n])
 rw [if_neg c]
 by_cases d : (td' nd v).f2 = -1
 ·rw [if_pos d,if_pos d,if_neg c]
 rw [if_neg d,if_neg d]
 exact ih d ((te' hi.wf hv).resolve_left d)
theorem De'.has_n {v : Int} (hv : inR v nd.length) : Ad' nd' nd.length v = true ↔ topI nd v ∈ mem:=by
 rw [we' (O.wf g hi T) (O.nin g hi T) (by rw [O.n]) (O.ge g hi T hv),O.top g hi T v hv]
 constructor
 ·intro h
  apply Decidable.byContradiction
  intro c
  rw [if_neg c] at h
  have:=(Nd' hi.wf hv).2
  omega
 intro h;rw [if_pos h]
theorem De'.zsum {u v : Int} (hu : inR u nd.length) (hv : inR v nd.length) : Qe' nd' u v = Qe' nd u v:=by
 unfold Qe'
 rw [O.l,We']
 have z : zOf nd' u v (nd.length : Nat) = 0:=by
  unfold zOf
  rw [O.n]
  split <;> rfl
 rw [z]
 have:=Nf' (f:=zOf nd' u v) (g:=zOf nd u v) (k:=nd.length) fun i h0 h1=>by
  unfold zOf
  rw [O.has g hi T aa' aa' u hu,O.has g hi T aa' aa' v hv,(O.f g hi T ⟨h0,h1⟩).2.2.2.1]
 omega
theorem De'.sl {x : S73} (hu : inR x.f0 nd.length) (hv : inR x.f1 nd.length) : slE y nd' x = slE y nd x:=by
 unfold slE
 rw [O.zsum g hi T hu hv]
theorem De'.tops {i : Int} : Top nd' i ↔ i = nd.length ∨ (Top nd i ∧ i ∉ mem):=by
 constructor
 ·intro h
  rcases O.lt g hi T h.i with rfl|hn
  ·exact .inl rfl
  have f:=O.f g hi T hn
  have u:=h.u
  rw [f.2.2.2.2.2] at u
  by_cases c : i ∈ mem
  ·rw [if_pos c] at u;omega
  rw [if_neg c] at u
  exact .inr ⟨⟨hn,u,f.2.2.2.2.1.symm.trans h.o⟩,c⟩
 rintro (rfl|⟨h,c⟩)
 ·exact ⟨O.nin g hi T,by rw [O.n],by rw [O.n]⟩
 have f:=O.f g hi T h.i
 exact ⟨O.ge g hi T h.i,by rw [f.2.2.2.2.2,if_neg c];exact h.u,f.2.2.2.2.1.trans h.o⟩
theorem De'.pair_n (hm : (td' nd j).f3 ≠ -1) : mt nd es j ∉ mem ∧ gf' es y nd' nd' (td' nd j).f3 nd.length (mt nd es j):=by
 have tj:=T.tops j T.jm
 have p:=hi.pair g tj hm
 have q:=hi.mt_ok g tj hm
 have e:=hi.edge g p.ei
 have nm : mt nd es j ∉ mem:=fun z=>(T.mt _ z q.2.1).2.2 q.2.2.2
 refine ⟨nm,p.ei,by rw [O.sl g hi T e.1 e.2];exact p.sl,by have:=q.1.i.2;omega,?_,by rw [O.n],by rw [O.o _ q.1.i nm];exact q.2.2.1⟩
 rw [O.top g hi T _ e.1,O.top g hi T _ e.2]
 rcases p.j with ⟨x,z⟩|⟨x,z⟩ <;> rw [x,z,if_pos T.jm,if_neg nm]
 ·exact .inl ⟨rfl,rfl⟩
 exact .inr ⟨rfl,rfl⟩
theorem De'.pairs {i : Int} (h : Top nd' i) (hm : (td' nd' i).f3 ≠ -1) : ∃ e q,gf' es y nd' nd' e i q:=by
 rcases (O.tops g hi T).1 h with rfl|⟨h2,c⟩
 ·rw [O.n] at hm
  exact ⟨_,_,(O.pair_n g hi T hm).2⟩
 have e0:=O.o i h2.i c
 rw [e0] at hm
 have p:=hi.pair g h2 hm
 have q:=hi.mt_ok g h2 hm
 have e:=hi.edge g p.ei
 by_cases d : mt nd es i ∈ mem
 ·have dj : mt nd es i = j:=by
   apply Decidable.byContradiction
   intro z
   have:=(T.mt _ d z).2.1
   rw [q.2.2.2] at this
   exact c this
  have hj : (td' nd j).f3 ≠ -1:=by rw [← dj,q.2.2.1];exact hm
  have P:=(O.pair_n g hi T hj).2.symm
  rw [show mt nd es j = i by rw [← dj];exact q.2.2.2] at P
  exact ⟨_,_,P⟩
 refine ⟨_,mt nd es i,p.ei,by rw [O.sl g hi T e.1 e.2];exact p.sl,p.ne,?_,by rw [e0],by rw [O.o _ q.1.i d];exact q.2.2.1⟩
 rw [O.top g hi T _ e.1,O.top g hi T _ e.2]
 rcases p.j with ⟨x,z⟩|⟨x,z⟩ <;> rw [x,z,if_neg c,if_neg d]
 ·exact .inl ⟨rfl,rfl⟩
 exact .inr ⟨rfl,rfl⟩
theorem De'.frees {i : Int} (h : Top nd' i) (hm : (td' nd' i).f3 = -1) : (i = nd.length ∧ (td' nd j).f3 = -1 ∧ (td' nd' i).f4 = (td' nd j).f4) ∨ (Top nd i ∧ i ∉ mem ∧ (td' nd i).f3 = -1 ∧ (td' nd' i).f4 = (td' nd i).f4):=by
 rcases (O.tops g hi T).1 h with rfl|⟨h2,c⟩
 ·rw [O.n] at hm ⊢
  exact .inl ⟨rfl,hm,rfl⟩
 rw [O.o i h2.i c] at hm ⊢
 exact .inr ⟨h2,c,hm,rfl⟩
theorem De'.inv (hsz : nd.length < 100000) (hpar : ∀ u v,inR u y.length → inR v y.length → topI nd u ∈ mem → topI nd v ∈ mem → rd y u % 2 = rd y v % 2) : Inv N most es D y nd':=by
 have hvt : ∀ {i : Int},0 ≤ i → i < N → inR i nd.length:=fun a b=>hi.vtx a b
 have F:=fun {i : Int} (hn : inR i nd.length)=>O.f g hi T hn
 refine ⟨hi.yl,by rw [O.l];have:=hi.nn;omega,by rw [O.l];omega,O.wf g hi T,fun i h0 h1=>?_,fun i hn ho=>?_,fun m hn hu=>?_,fun i h0 h1 ho=>?_,fun i h hm=>?_,fun i h hm=>?_,fun i hn=>?_,hi.yy,hi.dd,fun e he=>?_,fun u v hu hv e=>?_⟩
 ·have f:=F (hvt h0 h1)
  rw [f.1,f.2.2.1,f.2.2.2.1,f.2.2.2.2.1]
  exact hi.ver i h0 h1
 ·rcases O.lt g hi T hn with rfl|hn
  ·rw [O.n] at ho;cases ho
  have f:=F hn
  have ho2:=f.2.2.2.2.1.symm.trans ho
  have nm : i ∉ mem:=fun z=>by rw [(T.tops i z).o] at ho2;cases ho2
  rw [f.2.2.2.2.2,if_neg nm]
  exact hi.opn i hn ho2
 ·rcases O.lt g hi T hn with rfl|hn
  ·rw [O.n] at hu;exact absurd rfl hu
  have f:=F hn
  rw [f.2.2.2.2.2] at hu ⊢
  by_cases c : m ∈ mem
  ·rw [if_pos c,O.n]
   exact ⟨hi.nn,rfl,c⟩
  rw [if_neg c] at hu ⊢
  have f2:=F ((te' hi.wf hn).resolve_left hu)
  rw [f2.1,f2.2.2.2.2.1]
  exact hi.par m hn hu
 ·have hin' : inR i nd'.length:=⟨Ba',h1⟩
  rcases O.lt g hi T hin' with rfl|hin
  ·refine ⟨by rw [O.n];exact T.odd,by rw [O.n];exact T.three,by rw [O.n];exact T.len,by rw [O.n];exact T.nod,?_,?_⟩
   ·rw [O.n]
    intro m hm
    have tm:=T.tops m hm
    exact ⟨O.ge g hi T tm.i,by rw [(F tm.i).2.2.2.2.2,if_pos hm]⟩
   rw [O.n]
   intro k hk
   have hk : inR k mem.length:=hk
   obtain ⟨k1,k2,k3⟩:=T.lnk k hk
   have e:=hi.edge g k1
   have hL : (0 : Int) < mem.length:=by have:=T.three;omega
   have q2:=Le' (x:=k + 1) hL
   have m1:=T.tops _ (Vd' mem _ hk.1 hk.2)
   have m2:=T.tops _ (Vd' mem _ q2.1 q2.2)
   have hs : ∀ {m v : Int},Top nd m → inR v nd.length → topI nd v = m → Ad' nd' m v = true:=fun {m v} hm hv e2=>by
    rw [O.has g hi T (by have:=hm.i.2;omega) (by have:=hm.i.1;omega) v hv]
    exact (we' hi.wf hm.i hm.u hv).2 e2
   refine ⟨k1,by rw [O.sl g hi T e.1 e.2];exact k2,?_⟩
   rcases k3 with ⟨x,z⟩|⟨x,z⟩
   ·exact .inl ⟨hs m1 e.1 x,hs m2 e.2 z⟩
   exact .inr ⟨hs m1 e.2 z,hs m2 e.1 x⟩
  have f:=F hin
  have Q:=hi.ring i h0 hin.2 (f.2.2.2.2.1.symm.trans ho)
  refine ⟨by rw [f.1];exact Q.odd,yc',zc',by rw [f.1];exact Q.nod,?_,?_⟩
  ·rw [f.1]
   intro m hm
   have q:=Q.mem m hm
   have nm : m ∉ mem:=fun z=>by have:=(T.tops m z).u;rw [q.2] at this;have:=hin.1;omega
   exact ⟨O.ge g hi T q.1,by rw [(F q.1).2.2.2.2.2,if_neg nm,q.2]⟩
  rw [f.1,f.2.1]
  intro k hk
  obtain ⟨k1,k2,k3⟩:=Q.lnk k hk
  have e:=hi.edge g k1
  have hL : (0 : Int) < (td' nd i).f0.length:=by have:=Q.three;omega
  have q2:=Le' (x:=k + 1) hL
  have m1:=Q.mem _ (Vd' _ _ hk.1 hk.2)
  have m2:=Q.mem _ (Vd' _ _ q2.1 q2.2)
  have ne : ∀ {m},inR m nd.length ∧ (td' nd m).f2 = i → m ≠ nd.length ∧ m ≠ -1:=fun q=>⟨by have:=q.1.2;omega,by have:=q.1.1;omega⟩
  refine ⟨k1,by rw [O.sl g hi T e.1 e.2];exact k2,?_⟩
  unfold yg' at k3 ⊢
  rw [O.has g hi T (ne m1).1 (ne m1).2 _ e.1,O.has g hi T (ne m1).1 (ne m1).2 _ e.2,O.has g hi T (ne m2).1 (ne m2).2 _ e.1,O.has g hi T (ne m2).1 (ne m2).2 _ e.2]
  exact k3
 ·obtain ⟨e,q,p⟩:=O.pairs g hi T h hm
  exact p.self_ok
 ·rcases O.frees g hi T h hm with ⟨rfl,h2,h3⟩|⟨h1,h2,h3,h4⟩
  ·have G:=hi.free j (T.tops j T.jm) h2
   have hin:=hvt G.v.1 G.v.2
   refine ⟨by rw [h3];exact G.v,?_,fun q hq k=>?_,by rw [h3];exact G.yv⟩
   ·rw [h3]
    refine (O.has_n g hi T hin).2 ?_
    rw [(we' hi.wf (T.tops j T.jm).i (T.tops j T.jm).u hin).1 G.h]
    exact T.jm
   rw [h3] at k ⊢
   rcases O.lt g hi T hq with rfl|hq
   ·exact h3
   rw [O.has g hi T (by have:=hq.2;omega) (by have:=hq.1;omega) _ hin] at k
   rw [(F hq).2.2.1]
   exact G.b q hq k
  have G:=hi.free i h1 h3
  have hin:=hvt G.v.1 G.v.2
  refine ⟨by rw [h4];exact G.v,?_,fun q hq k=>?_,by rw [h4];exact G.yv⟩
  ·rw [h4,O.has g hi T (by have:=h1.i.2;omega) (by have:=h1.i.1;omega) _ hin];exact G.h
  rw [h4] at k ⊢
  rcases O.lt g hi T hq with rfl|hq
  ·have:=(O.has_n g hi T hin).1 k
   rw [(we' hi.wf h1.i h1.u hin).1 G.h] at this
   exact absurd this h2
  rw [O.has g hi T (by have:=hq.2;omega) (by have:=hq.1;omega) _ hin] at k
  rw [(F hq).2.2.1]
  exact G.b q hq k
 ·rcases O.lt g hi T hn with rfl|hn
  ·rw [O.n]
   have:=hi.dd
   exact ⟨Int.le_refl 0,rfl,Ac'⟩
  rw [(F hn).2.2.2.1]
  exact hi.zz i hn
 ·have hin:=hi.edge g he
  rw [O.sl g hi T hin.1 hin.2]
  exact hi.sl e he
 have a1 : inR u nd.length:=hi.vtx hu.1 cc'
 have b1 : inR v nd.length:=hi.vtx hv.1 zb'
 rw [O.top g hi T u a1,O.top g hi T v b1] at e
 have l1:=(Nd' hi.wf a1).2
 have l2:=(Nd' hi.wf b1).2
 by_cases c : topI nd u ∈ mem <;> by_cases d : topI nd v ∈ mem
 ·exact hpar u v hu hv c d
 ·rw [if_pos c,if_neg d] at e;omega
 ·rw [if_neg c,if_pos d] at e;omega
 rw [if_neg c,if_neg d] at e
 exact hi.pa u v hu hv e
end
end
theorem kh' {nd : List S89} {ring : List Int} {x : S56} : ∀ {l : List S56},x ∈ Zf' nd ring l ↔ x ∈ l ∧ ¬(topI nd x.f0 ∈ ring ∧ topI nd x.f1 ∈ ring)
 | []=>by rw [Zf'];exact ⟨fun h=>absurd h List.not_mem_nil,fun h=>h.1⟩
 | z :: l=>by
  rw [Zf']
  split
  ·rename_i c
   rw [List.mem_cons,kh']
   constructor
   ·rintro ⟨h,k⟩;exact ⟨.inr h,k⟩
   rintro ⟨rfl|h,k⟩
   ·exact absurd c k
   exact ⟨h,k⟩
  rename_i c
  rw [List.mem_cons,List.mem_cons,kh']
  constructor
  ·rintro (rfl|h)
   ·exact ⟨.inl rfl,c⟩
   exact ⟨.inr h.1,h.2⟩
  rintro ⟨rfl|h,k⟩
  ·exact .inl rfl
  exact .inr ⟨h,k⟩
theorem uk' {nd : List S89} {ring : List Int} : ∀ {l : List S56},l.Nodup → (Zf' nd ring l).Nodup
 | [],h=>h
 | z :: l,h=>by
  have h2:=List.nodup_cons.1 h
  rw [Zf']
  split
  ·exact uk' h2.2
  exact List.nodup_cons.2 ⟨fun k=>h2.1 (kh'.1 k).1,uk' h2.2⟩
section
variable {N most : Int} {es : List S73} {D : Int} {y : List Int} {nd nd' nd2 : List S89} {rn : List S77} {mts : List S56} {lb ah bk : List Int} {rk : Int → Nat} {K : Nat} {t : TI} {r a j : Int} {mem lk : List Int} {ls : List S56}
theorem vq' (g : Gph N most es) (hi : Inv N most es D y nd) (hr : pe' es nd rn) (hm : ff' es nd mts) (hd : mts.Nodup) (hb : ag' nd rn) (T : Th' es y nd mem lk j) (O : De' nd nd' mem lk j) (hl : ls.length = lk.length) (hls : ∀ k,inR k lk.length → ie' es (rd lk k) (xd' ls k)) :
  pe' es nd' (Me' nd.length mem (rn ++ [⟨mem,ls,xe' rn mts j,0,-1,false⟩])) ∧ ff' es nd' (Zf' (cvs rn) mem mts) ∧ (Zf' (cvs rn) mem mts).Nodup ∧ ag' nd' (Me' nd.length mem (rn ++ [⟨mem,ls,xe' rn mts j,0,-1,false⟩])):=by
 have hmr : ∀ m ∈ mem,inR m (rn ++ [(⟨mem,ls,xe' rn mts j,0,-1,false⟩ : S77)]).length:=fun m h=>by
  have:=(T.tops m h).i
  rw [List.length_append,hr.l,List.length_singleton]
  exact ⟨this.1,by have:=this.2;omega⟩
 have nn : (nd.length : Int) ∉ mem:=fun z=>by have:=(T.tops _ z).i.2;omega
 have rA : ∀ {i : Int},0 ≤ i → i ≤ nd.length → wd' (rn ++ [(⟨mem,ls,xe' rn mts j,0,-1,false⟩ : S77)]) i = if i = nd.length then ⟨mem,ls,xe' rn mts j,0,-1,false⟩ else wd' rn i:=fun {i} h0 h1=>by
  rw [uq' _ h0 (by rw [hr.l];exact h1),hr.l]
 have rU : ∀ {i : Int},0 ≤ i → i ≤ nd.length → wd' (Me' nd.length mem (rn ++ [⟨mem,ls,xe' rn mts j,0,-1,false⟩])) i = if i = nd.length then ⟨mem,ls,xe' rn mts j,0,-1,false⟩ else if i ∈ mem then { wd' rn i with f4:=(nd.length : Int) } else wd' rn i:=fun {i} h0 h1=>by
  rw [Rj' hmr h0,rA h0 h1]
  by_cases c : i = nd.length
  ·rw [if_pos c,if_pos c,if_neg (by rw [c];exact nn)]
  rw [if_neg c,if_neg c]
 have tv : ∀ x ∈ mts,topI (cvs rn) x.f0 = topI nd x.f0 ∧ topI (cvs rn) x.f1 = topI nd x.f1:=fun x hx=>by
  have:=hm.in g hi.nn x hx
  exact ⟨hr.top hi.wf this.1,hr.top hi.wf this.2⟩
 have MM : ∀ x,x ∈ Zf' (cvs rn) mem mts ↔ x ∈ mts ∧ ¬(topI nd x.f0 ∈ mem ∧ topI nd x.f1 ∈ mem):=fun x=>by
  rw [kh']
  constructor
  ·rintro ⟨h1,h2⟩;have:=tv x h1;rw [this.1,this.2] at h2;exact ⟨h1,h2⟩
  rintro ⟨h1,h2⟩;have:=tv x h1;rw [this.1,this.2];exact ⟨h1,h2⟩
 have OLD : ∀ i,Top nd i → (td' nd i).f3 ≠ -1 → i ∉ mem → ∃ p q,gf' es y nd' nd' (td' nd i).f3 p q:=fun i h1 h2 c=>by
  have e0:=O.o i h1.i c
  obtain ⟨e,q,p⟩:=O.pairs g hi T ((O.tops g hi T).2 (.inr ⟨h1,c⟩)) (by rw [e0];exact h2)
  have:=p.a
  rw [e0] at this
  rw [this]
  exact ⟨_,_,p⟩
 refine ⟨⟨by rw [Ti',List.length_append,List.length_singleton,hr.l,O.l],fun i hn=>?_⟩,⟨fun x hx=>?_,fun i h q=>?_⟩,uk' hd,fun s hs hs3 i hn hv3=>?_⟩
 ·rcases O.lt g hi T hn with rfl|hn
  ·rw [O.n,rU aa' (Int.le_refl _),if_pos rfl]
   exact ⟨rfl,hl,hls,rfl,rfl,rfl⟩
  have Y:=hr.n i hn
  rw [rU hn.1 Lb',if_neg Lb']
  by_cases c : i ∈ mem
  ·rw [if_pos c,O.m i c]
   exact ⟨Y.mem,Y.ll,Y.lk,Y.zz,rfl,Y.op⟩
  rw [if_neg c,O.o i hn c];exact Y
 ·obtain ⟨h1,h2⟩:=(MM x).1 hx
  obtain ⟨e1,e2,e3,e4,e5,e6⟩:=hm.a x h1
  have hv2:=e3.vtx g e2
  have t0:=hi.top_v hv2.1.1 hv2.1.2
  have t1:=hi.top_v hv2.2.1.1 hv2.2.1.2
  by_cases c : topI nd x.f0 ∈ mem
  ·obtain ⟨p,q,P⟩:=OLD _ t1 (by rw [e6];have:=e2.1;omega) (fun z=>h2 ⟨c,z⟩)
   rw [e6] at P
   exact P.self_link e3
  obtain ⟨p,q,P⟩:=OLD _ t0 (by rw [e5];have:=e2.1;omega) c
  rw [e5] at P
  exact P.self_link e3
 ·rcases (O.tops g hi T).1 h with rfl|⟨h2,c⟩
  ·rw [O.n] at q ⊢
   have tj:=T.tops j T.jm
   obtain ⟨l,l1,l2⟩:=hm.b j tj q
   refine ⟨l,(MM l).2 ⟨l1,fun z=>?_⟩,l2⟩
   have nm:=(O.pair_n g hi T q).1
   have J:=yg'.or l2 (hi.pair g tj q).j
   rcases J with ⟨x,w⟩|⟨x,w⟩ <;> rw [x,w] at z
   ·exact nm z.2
   exact nm z.1
  rw [O.o i h2.i c] at q ⊢
  obtain ⟨l,l1,l2⟩:=hm.b i h2 q
  refine ⟨l,(MM l).2 ⟨l1,fun z=>?_⟩,l2⟩
  have J:=yg'.or l2 (hi.pair g h2 q).j
  rcases J with ⟨x,w⟩|⟨x,w⟩ <;> rw [x,w] at z
  ·exact c z.1
  exact c z.2
 have key : ∀ u,Top nd u → (td' nd u).f3 = -1 → (td' nd' s).f4 = (td' nd u).f4 → inR i nd.length → (wd' (Me' nd.length mem (rn ++ [⟨mem,ls,xe' rn mts j,0,-1,false⟩])) i).f2 = (td' nd' s).f4:=fun u hu hu3 e4 hn2=>by
  have G:=hi.free u hu hu3
  rw [e4] at hv3 ⊢
  rw [O.has g hi T (by have:=hn2.2;omega) (by have:=hn2.1;omega) _ (hi.vtx G.v.1 G.v.2)] at hv3
  have e2 : (wd' (Me' nd.length mem (rn ++ [⟨mem,ls,xe' rn mts j,0,-1,false⟩])) i).f2 = (wd' rn i).f2:=by
   rw [rU hn2.1 (by have:=hn2.2;omega),if_neg (by have:=hn2.2;omega)]
   split <;> rfl
  rw [e2]
  exact hb u hu hu3 i hn2 hv3
 rcases O.frees g hi T hs hs3 with ⟨rfl,h2,h3⟩|⟨h1,h2,h3,h4⟩
 ·rcases O.lt g hi T hn with rfl|hn
  ·rw [rU aa' (Int.le_refl _),if_pos rfl,h3]
   show xe' rn mts j = _
   rw [xl' g hi hr hm hb (T.tops j T.jm)]
   unfold ue'
   rw [if_pos h2]
  exact key j (T.tops j T.jm) h2 h3 hn
 rcases O.lt g hi T hn with rfl|hn
 ·exfalso
  have G:=hi.free s h1 h3
  rw [h4] at hv3
  have:=(O.has_n g hi T (hi.vtx G.v.1 G.v.2)).1 hv3
  rw [(we' hi.wf h1.i h1.u (hi.vtx G.v.1 G.v.2)).1 G.h] at this
  exact h2 this
 exact key s h1 h3 h4 hn
theorem Wh' (g : Gph N most es) (hi : Inv N most es D y nd) (L : Lab es y nd lb ah bk rk K) : ∀ (k : Nat) (i u : Int),rk i < k → inR i nd.length → rd lb i ≠ 0 → inR u y.length → topI nd u = i → rd y u % 2 = (most - D) % 2
 | 0,i,u,hk,hn,hl,hu,e=>by omega
 | k + 1,i,u,hk,hn,hl,hu,e=>by
  by_cases c : rd ah i = -1
  ·have f3 : (td' nd i).f3 = -1:=by
    rcases L.dom i hn with h|h|h
    ·exact absurd h hl
    ·rcases L.ev i hn h with ⟨z,_⟩|⟨z0,z,_⟩
     ·exact z
     rw [c] at z
     have:=(hi.mt_ok g (L.top i hn hl) z0).1.i.1
     omega
    have:=(L.od i hn h).1.1;omega
   have F:=hi.free i (L.top i hn hl) f3
   have h4 : inR (td' nd i).f4 y.length:=⟨F.v.1,by have:=hi.yl;have:=F.v.2;omega⟩
   have:=hi.pa u _ hu h4 (by rw [e];exact ((we' hi.wf hn (L.top i hn hl).u (hi.vtx F.v.1 F.v.2)).1 F.h).symm)
   rw [this,F.yv]
  have q:=L.ahead g hi hn hl c
  obtain ⟨s1,s2,s3⟩:=L.step g hi hn hl c
  have ed:=g.e _ s1
  have hne : topI nd (ud' es (rd bk i)).f0 ≠ topI nd (ud' es (rd bk i)).f1:=fun z=>by
   have hia : i = rd ah i:=by
    rcases s3 with ⟨x,w⟩|⟨x,w⟩
    ·exact x.symm.trans (z.trans w)
    exact w.symm.trans (z.symm.trans x)
   have h2:=q.2.2
   rw [← hia] at h2
   omega
  have i0 : inR (ud' es (rd bk i)).f0 y.length:=(hi.eoy g _ s1).1
  have i1 : inR (ud' es (rd bk i)).f1 y.length:=(hi.eoy g _ s1).2
  have e0:=hi.edge g s1
  have zs : Qe' nd (ud' es (rd bk i)).f0 (ud' es (rd bk i)).f1 = 0:=by
   unfold Qe'
   refine qg' fun m h0 h1=>if_neg fun h=>hne ?_
   have hm : inR m nd.length:=⟨h0,h1⟩
   rw [Yg' hi.wf hm e0.1 h.1,Yg' hi.wf hm e0.2 h.2]
  unfold slE at s2
  rw [zs] at s2
  rcases s3 with ⟨x,w⟩|⟨x,w⟩
  ·have:=hi.pa u _ hu i0 (e.trans x.symm)
   have:=Wh' g hi L k (rd ah i) _ aa' q.1 q.2.1 i1 w
   omega
  have:=hi.pa u _ hu i1 (e.trans w.symm)
  have:=Wh' g hi L k (rd ah i) _ aa' q.1 q.2.1 i0 x
  omega
end
def LkL (es : List S73) : List Int → List S56 → Prop
 | [],[]=>True
 | a :: l,b :: m=>ie' es a b ∧ LkL es l m
 | _,_=>False
theorem LkL.app {es : List S73} : ∀ {a a2 : List Int} {b b2 : List S56},LkL es a b → LkL es a2 b2 → LkL es (a ++ a2) (b ++ b2)
 | [],_,[],_,_,h=>h
 | _ :: _,_,_ :: _,_,h,k=>⟨h.1,LkL.app h.2 k⟩
 | [],_,_ :: _,_,h,_=>h.elim
 | _ :: _,_,[],_,h,_=>h.elim
theorem LkL.map {es : List S73} {f : Int → Int} {h : Int → S56} : ∀ {l : List Int},(∀ x ∈ l,ie' es (f x) (h x)) → LkL es (l.map f) (l.map h)
 | [],_=>trivial
 | x :: l,q=>⟨q x List.mem_cons_self,LkL.map fun z hz=>q z (List.mem_cons_of_mem _ hz)⟩
theorem Ap' {m : S56} {l : List S56} {p : Int} (hp : 0 < p) : xd' (m :: l) p = xd' l (p - 1):=by
 unfold xd'
 obtain ⟨q,e⟩ : ∃ q : Nat,p.toNat = q + 1:=⟨p.toNat - 1,aa'⟩
 rw [e,show (p - 1).toNat = q by omega,List.getD_cons_succ]
theorem LkL.at {es : List S73} : ∀ {a : List Int} {b : List S56},LkL es a b → b.length = a.length ∧ ∀ k,inR k a.length → ie' es (rd a k) (xd' b k)
 | [],[],_=>⟨rfl,fun k hk=>absurd hk.2 (by have:=hk.1;simp;omega)⟩
 | x :: a,z :: b,h=>by
  obtain ⟨h1,h2⟩:=LkL.at h.2
  refine ⟨by rw [List.length_cons,List.length_cons,h1],fun k hk=>?_⟩
  by_cases c : k = 0
  ·subst c;exact h.1
  have hk0 : 0 < k:=by have:=hk.1;omega
  rw [Vh' hk0,Ap' hk0]
  exact h2 (k - 1) ⟨aa',dd'⟩
 | [],_ :: _,h=>h.elim
 | _ :: _,[],h=>h.elim
theorem wq' {j : Int} {q : List Int} : ∀ (p pre : List Int) (k : Nat),p.length < k → j ∉ p → (pre.length : Int) + p.length < 1000000 → spec_l08Place.l0 k (pre ++ (p ++ j :: q)) j pre.length = some ((pre.length : Int) + p.length):=by
 intro p
 induction p with
 | nil =>
  intro pre k hk hj hl
  obtain ⟨k,rfl⟩ : ∃ z,k = z + 1:=⟨k - 1,aa'⟩
  rw [spec_l08Place.l0,if_pos Ga',if_pos aa']
  show (if rd (pre ++ j :: q) pre.length = j then _ else _) = _
  rw [qf',if_pos rfl]
  simp
 | cons x p ih =>
  intro pre k hk hj hl
  obtain ⟨k,rfl⟩ : ∃ z,k = z + 1:=⟨k - 1,aa'⟩
  rw [List.length_cons] at hk hl
  have e : pre ++ (x :: p ++ j :: q) = (pre ++ [x]) ++ (p ++ j :: q):=by simp
  have r : rd (pre ++ (x :: p ++ j :: q)) pre.length = x:=by
   show rd (pre ++ x :: (p ++ j :: q)) pre.length = x
   exact qf'
  have hx : x ≠ j:=fun z=>hj (z ▸ List.mem_cons_self)
  rw [spec_l08Place.l0,if_pos Ga',if_pos aa',r,if_neg hx,e,w64 aa' aa']
  have:=ih (pre ++ [x]) k aa' (fun z=>hj (List.mem_cons_of_mem _ z)) (by rw [List.length_append,List.length_singleton];omega)
  rw [List.length_append,List.length_singleton] at this
  rw [show ((pre.length : Int) + 1) = ((pre.length + 1 : Nat) : Int) by omega,this,List.length_cons]
  exact congrArg some aa'
section
variable {N most : Int} {es : List S73} {D : Int} {y : List Int} {nd nd' nd2 : List S89} {rn : List S77} {mts : List S56} {lb ah bk : List Int} {rk : Int → Nat} {K : Nat} {t : TI} {r a j : Int} {mem lk : List Int} {ls : List S56}
theorem Way.wayF' (g : Gph N most es) (hi : Inv N most es D y nd) (L : Lab es y nd lb ah bk rk K) {n : Int} {l : List Int} (w : Way ah n l) : inR n nd.length → rd lb n ≠ 0 → ∀ k,l.length < k → QFnExactSolve.wayF ah k n = some l:=by
 induction w with
 | @last n h =>
  intro hn hl k hk
  rw [List.length_singleton] at hk
  obtain ⟨k,rfl⟩ : ∃ q,k = q + 1 + 1:=⟨k - 2,aa'⟩
  rw [QFnExactSolve.wayF,if_neg (show ¬n = -1 by have:=hn.1;omega),if_pos bc',h,QFnExactSolve.wayF,if_pos rfl]
  rfl
 | @more n l h w ih =>
  intro hn hl k hk
  rw [List.length_cons] at hk
  obtain ⟨k,rfl⟩ : ∃ q,k = q + 1:=⟨k - 1,aa'⟩
  have q:=L.ahead g hi hn hl h
  rw [QFnExactSolve.wayF,if_neg (show ¬n = -1 by have:=hn.1;omega),if_pos bc',ih q.1 q.2.1 k aa']
  rfl
theorem Way.wayS' (g : Gph N most es) (hi : Inv N most es D y nd) (hr : pe' es nd rn) (L : Lab es y nd lb ah bk rk K) (S : Fg' es nd lb ah bk t) {n : Int} {l : List Int} (w : Way ah n l) : inR n nd.length → rd lb n ≠ 0 → ∀ k,l.length ≤ k → QFnExactSolve.wayS (cvs rn) t.ah t.rt k n = some l:=by
 induction w with
 | @last n h =>
  intro hn hl k hk
  rw [List.length_singleton] at hk
  obtain ⟨k,rfl⟩ : ∃ q,k = q + 1:=⟨k - 1,aa'⟩
  rw [QFnExactSolve.wayS,if_pos (by rw [S.lr];exact hn),if_pos (S.r0 n hn hl h)]
 | @more n l h w ih =>
  intro hn hl k hk
  rw [List.length_cons] at hk
  obtain ⟨k,rfl⟩ : ∃ q,k = q + 1:=⟨k - 1,aa'⟩
  have q:=L.ahead g hi hn hl h
  have z:=S.lk n hn hl h
  have kv:=z.1.vtx g z.2.1
  have kn:=hi.vtx kv.1.1 kv.1.2
  rw [QFnExactSolve.wayS,if_pos (by rw [S.lr];exact hn),if_neg (fun e=>h (by have:=(S.rr n hn hl).2.2;rw [e] at this;exact this)),if_pos ⟨by rw [S.la];exact hn,by rw [Hd',hr.l];exact kn⟩,hr.top hi.wf kn,z.2.2.1,ih q.1 q.2.1 k aa']
  rfl
theorem Bp' (g : Gph N most es) (hi : Inv N most es D y nd) (hr : pe' es nd rn) (hm : ff' es nd mts) (hd : mts.Nodup) (hb : ag' nd rn) (L : Lab es y nd lb ah bk rk K) (S : Fg' es nd lb ah bk t) {e a c : Int} {xs us : List Int} (he : inR e es.length) (hs : slE y nd (ud' es e) = 0)
  (ea : topI nd (ud' es e).f0 = a) (ec : topI nd (ud' es e).f1 = c) (hac : a ≠ c) (la : rd lb a = 1) (lc : rd lb c = 1) (wa : Way ah a xs) (wc : Way ah c us) (hrt : rd t.rt a = rd t.rt c) (hsz : nd.length < 100000) (n1 n : Int) (b : Bool) :
  ∃ mem lk j i k nd',FoldR es ⟨y,nd,lb,ah,bk,n1⟩ e a c xs us mem lk i k ∧ foldI ⟨y,nd,lb,ah,bk,n1⟩ mem lk (rd xs i) = ⟨y,nd',lb,ah,bk,n1⟩ ∧
   (∃ kk lkS kw rn' mts',ShrS ⟨y,rn,mts,n,b⟩ t (ud' es e) xs us i kk mem lkS kw ⟨y,rn',mts',n,b⟩ ∧ pe' es nd' rn' ∧ ff' es nd' mts' ∧ mts'.Nodup ∧ ag' nd' rn') ∧
   Inv N most es D y nd' ∧ Th' es y nd mem lk j ∧ De' nd nd' mem lk j ∧ rd lb j = 1 ∧ (∃ p q p' q',xs = p ++ j :: q ∧ us = p' ++ j :: q' ∧ mem = j :: (p.reverse ++ p')):=by
 have ha : inR a nd.length:=ea ▸ (hi.top_a g he).i
 have hc : inR c nd.length:=ec ▸ (hi.top_b g he).i
 have la0 : rd lb a ≠ 0:=by rw [la];decide
 have lc0 : rd lb c ≠ 0:=by rw [lc];decide
 have MA:=wa.mem g hi L ha la0
 have MC:=wc.mem g hi L hc lc0
 have lenA:=wa.len g hi L ha la0
 have lenC:=wc.len g hi L hc lc0
 obtain ⟨p,j,q,p',q',e1,e4,e2,e3,e5,j1,T⟩:=zp' g hi L S he hs ea ec hac la lc wa wc hrt
 have O:=fold_is (nd:=nd) (lk:=p.reverse.map (rd bk) ++ e :: p'.map (rd bk)) (j:=j) fun m h=>(T.tops m h).i
 have ri : rd xs p.length = j:=by rw [e1];exact qf'
 have hidx : ih' xs us (xs.length + 1) 0 = some (p.length : Int):=by
  have:=fo' (ws:=us) (j:=j) (q:=q) (p:=p) (pre:=[]) (k:=xs.length + 1) (by rw [e1];simp;omega) e2 e3
  rw [List.nil_append,← e1] at this
  rw [List.length_nil] at this
  have h0 : (((0 : Nat) : Int) + p.length) = p.length:=by omega
  rw [h0] at this
  exact this
 have hdn : dnF bk xs (xs.length + 1) ((p.length : Int) - 1) [j] [] = (j :: p.reverse,p.reverse.map (rd bk)):=by
  have:=vp' (bk:=bk) (q:=j :: q) (w:=p.reverse) (f:=xs.length + 1) (m:=[j]) (l:=[]) (by rw [e1];simp;omega)
  rw [List.reverse_reverse,← e1,List.length_reverse] at this
  rw [this];simp
 have hup : upF bk us j (us.length + 1) 0 (j :: p.reverse) (p.reverse.map (rd bk) ++ [e]) = some (j :: (p.reverse ++ p'),p.reverse.map (rd bk) ++ e :: p'.map (rd bk)):=by
  have:=wp' (bk:=bk) (q:=q') (j:=j) (p:=p') (pre:=[]) (f:=us.length + 1) (m:=j :: p.reverse) (l:=p.reverse.map (rd bk) ++ [e]) gc' e5
  rw [List.nil_append,← e4] at this
  rw [List.length_nil] at this
  refine Eq.trans this ?_
  simp
 have hdnS : dnS t.ah xs (xs.length + 1) ((p.length : Int) - 1) [j] [] = (j :: p.reverse,p.reverse.map (xd' t.ah)):=by
  have:=xp' (ah:=t.ah) (q:=j :: q) (w:=p.reverse) (f:=xs.length + 1) (m:=[j]) (l:=[]) (by rw [e1];simp;omega)
  rw [List.reverse_reverse,← e1,List.length_reverse] at this
  rw [this];simp
 have hupS : upS t.ah us (p'.length : Int) (us.length + 1) 0 (j :: p.reverse) (p.reverse.map (xd' t.ah) ++ [⟨(ud' es e).f0,(ud' es e).f1⟩]) = (j :: (p.reverse ++ p'),p.reverse.map (xd' t.ah) ++ (⟨(ud' es e).f0,(ud' es e).f1⟩ :: p'.map fun x=>swp (xd' t.ah x))):=by
  have:=yp' (ah:=t.ah) (q:=j :: q') (p:=p') (pre:=[]) (f:=us.length + 1) (m:=j :: p.reverse) (l:=p.reverse.map (xd' t.ah) ++ [⟨(ud' es e).f0,(ud' es e).f1⟩]) (kk:=p'.length) ia' gc'
  rw [List.nil_append,← e4] at this
  rw [List.length_nil] at this
  refine Eq.trans this ?_
  simp
 have nx : ∀ {p q : List Int} {n : Int} {l : List Int},Way ah n l → l = p ++ j :: q → ∀ x ∈ p,rd ah x ≠ -1:=fun {p q n l} w h x hx=>by
  obtain ⟨u,v,hp⟩:=List.append_of_mem hx
  cases v with
  | nil=>exact (w.next (u:=u) (x:=x) (z:=j) (v:=q) (by rw [h,hp];simp)).2
  | cons z v=>exact (w.next (u:=u) (x:=x) (z:=z) (v:=v ++ j :: q) (by rw [h,hp];simp)).2
 have LK : LkL es (p.reverse.map (rd bk) ++ e :: p'.map (rd bk)) (p.reverse.map (xd' t.ah) ++ (⟨(ud' es e).f0,(ud' es e).f1⟩ :: p'.map fun x=>swp (xd' t.ah x))):=by
  refine LkL.app (LkL.map fun x hx=>?_) ⟨.inl ⟨rfl,rfl⟩,LkL.map fun x hx=>?_⟩
  ·rw [List.mem_reverse] at hx
   have mx:=MA x (by rw [e1];exact List.mem_append_left _ hx)
   exact (S.lk x mx.1 mx.2.1 (nx wa e1 x hx)).1
  have mx:=MC x (by rw [e4];exact List.mem_append_left _ hx)
  exact (S.lk x mx.1 mx.2.1 (nx wc e4 x hx)).1.swap
 obtain ⟨lkl,lkk⟩:=LK.at
 obtain ⟨r1,r2,r3,r4⟩:=vq' g hi hr hm hd hb T O lkl lkk
 have hinv:=O.inv g hi T hsz fun u v hu hv c1 c2=>by
  have lab : ∀ m ∈ (j :: (p.reverse ++ p')),rd lb m ≠ 0:=fun m hm2=>by
   rw [List.mem_cons,List.mem_append,List.mem_reverse] at hm2
   rcases hm2 with rfl|h|h
   ·rw [j1];decide
   ·exact (MA m (by rw [e1];exact List.mem_append_left _ h)).2.1
   exact (MC m (by rw [e4];exact List.mem_append_left _ h)).2.1
  rw [Wh' g hi L _ _ u (Nat.lt_succ_self _) (T.tops _ c1).i (lab _ c1) hu rfl,Wh' g hi L _ _ v (Nat.lt_succ_self _) (T.tops _ c2).i (lab _ c2) hv rfl]
 have e0:=hi.edge g he
 refine ⟨_,_,j,p.length,xs.length + us.length + 1,_,⟨aa',wa.wayF' g hi L ha la0 _ aa',wc.wayF' g hi L hc lc0 _ aa',hidx,fun m h=>⟨(MA m h).1,by show inR m bk.length;rw [L.lk];exact (MA m h).1⟩,fun m h=>⟨(MC m h).1,by show inR m bk.length;rw [L.lk];exact (MC m h).1⟩,aa',aa',?_,fun m h=>(T.tops m h).i⟩,?_,⟨p'.length,p.reverse.map (xd' t.ah) ++ (⟨(ud' es e).f0,(ud' es e).f1⟩ :: p'.map fun x=>swp (xd' t.ah x)),xs.length + us.length + 1,_,_,⟨aa',?_,?_,aa',aa',fun m h=>⟨by rw [S.la];exact (MA m h).1,by show inR m rn.length;rw [hr.l];exact (MA m h).1⟩,fun m h=>⟨by rw [S.la];exact (MC m h).1,by show inR m rn.length;rw [hr.l];exact (MC m h).1⟩,hidx,?_,?_,?_,fun m h=>?_,?_⟩,r1,r2,r3,r4⟩,hinv,T,O,j1,p,q,p',q',e1,e4,rfl⟩
 ·show upF bk us (rd xs p.length) (us.length + 1) 0 (dnF bk xs (xs.length + 1) ((p.length : Int) - 1) [rd xs p.length] []).1 ((dnF bk xs (xs.length + 1) ((p.length : Int) - 1) [rd xs p.length] []).2 ++ [e]) = _
  rw [ri,hdn]
  exact hup
 ·rw [ri];rfl
 ·show wayS (cvs rn) t.ah t.rt _ (topI (cvs rn) (ud' es e).f0) = _
  rw [hr.top hi.wf e0.1,ea]
  exact wa.wayS' g hi hr L S ha la0 _ aa'
 ·show wayS (cvs rn) t.ah t.rt _ (topI (cvs rn) (ud' es e).f1) = _
  rw [hr.top hi.wf e0.2,ec]
  exact wc.wayS' g hi hr L S hc lc0 _ aa'
 ·rw [ri,spec_l08Place.f]
  have:=wq' (j:=j) (q:=q') p' [] (us.length + 1) gc' e5 (by rw [e4] at lenC;simp at lenC ⊢;omega)
  rw [List.nil_append,← e4] at this
  rw [List.length_nil] at this
  refine Eq.trans this (congrArg some aa')
 ·exact ⟨aa',gc'⟩
 ·rw [ri,hdnS]
  exact hupS
 ·show inR m rn.length
  rw [hr.l];exact (T.tops m h).i
 show _ = RI.mk y _ _ n b
 rw [ri,hr.l]
end
end Go.Proofs.YtnffimpoekjkpaaGreat.QFnExactSolve
