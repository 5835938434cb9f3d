/- The program's solver: round, run. -/
import Derived.Test.YtnffimpoekjkpaaZFnExactRoundsx34
namespace Go.Proofs.Ytnffimpoekjkpaa.QFnExactRounds
open Go.RowKit Go.Proofs.YtnffimpoekjkpaaW.PrintWords Go.Proofs.YtnffimpoekjkpaaW.PrintLast Go.Proofs.YtnffimpoekjkpaaW.PrintMore
attribute [local go_sem] max2_int min2_int max_two min_two max_three min_three max_four min_four
set_option linter.unusedVariables false
set_option linter.unusedSimpArgs false
theorem freshF_len {nd : List S60} : ∀ (k : Nat) (i : Int) (lb ah bk : List Int),(freshF nd k i lb ah bk).1.length = lb.length ∧ (freshF nd k i lb ah bk).2.1.length = ah.length ∧ (freshF nd k i lb ah bk).2.2.length = bk.length
 | 0,_,_,_,_=>⟨rfl,rfl,rfl⟩
 | k + 1,i,lb,ah,bk=>by
  rw [freshF]
  split
  ·have h:=freshF_len (nd:=nd) k (i + 1) (if isTopB (rd_T60 nd i) = true ∧ (rd_T60 nd i).f3 = -1 then lb.set i.toNat 1 else lb) (ah.set i.toNat (-1)) (bk.set i.toNat (-1))
   rw [List.length_set,List.length_set] at h
   refine ⟨h.1.trans ?_,h.2⟩
   split
   ·rw [List.length_set]
   rfl
  exact ⟨rfl,rfl,rfl⟩
theorem freshI_len (nd : List S60) : (freshI nd).1.length = nd.length ∧ (freshI nd).2.1.length = nd.length ∧ (freshI nd).2.2.length = nd.length:=by
 have h:=freshF_len (nd:=nd) (nd.length + 1) 0 (List.replicate nd.length 0) (List.replicate nd.length 0) (List.replicate nd.length 0)
 rw [List.length_replicate] at h
 exact h
/-- What holds between two rounds, as far as the walk asks. -/
structure Gd (N : Int) (es : List S51) (s : SI) : Prop where
 w : WFn s.nd
 o : EOk es s.nd.length
 y : EOk es s.y.length
 n : N = s.y.length
 nn : N ≤ s.nd.length
 sz : s.nd.length ≤ 1000000
 r : 0 ≤ s.rn ∧ s.rn ≤ 1000000
def lab (s : SI) (lb ah bk : List Int) : SI:={ s with lb:=lb,ah:=ah,bk:=bk,rn:=s.rn + 1 }
/-- All rings that are tops with z 0 opened, one after the other. -/
inductive OpenR (N : Int) (es : List S51) (lb : List Int) (n0 : Nat) : Nat → List S60 → List S60 → Prop
 | done {nd : List S60} (hl : nd.length = n0) (hw : WFn nd) (h : firstF nd lb 0 (nd.length + 1) N = -1) : OpenR N es lb n0 1 nd nd
 | more {k : Nat} {nd nd' : List S60} {r : Int} (hl : nd.length = n0) (hw : WFn nd) (h : firstF nd lb 0 (nd.length + 1) N = r) (hr : r ≠ -1) (hU : UOk es nd r) (rest : OpenR N es lb n0 k (unfoldI es nd r) nd') : OpenR N es lb n0 (k + 1) nd nd'
def ChgR (N : Int) (es : List S51) (s1 : SI) (b : Bool) (s' : SI) : Prop:=WFn (chgZ N es s1) ∧ (chgR N es s1 ≠ -1 → UOk es (chgZ N es s1) (chgR N es s1)) ∧ b = (changeI N es s1).1 ∧ s' = (changeI N es s1).2
structure FoldR (es : List S51) (s1 : SI) (e a b : Int) (xs ws mem lk : List Int) (i : Int) (k : Nat) : Prop where
 hk : k ≤ 1000
 hx : wayF s1.ah k a = some xs
 hw : wayF s1.ah k b = some ws
 hi : idxF xs ws (xs.length + 1) 0 = some i
 hxs : ∀ m ∈ xs,inR m s1.nd.length ∧ inR m s1.bk.length
 hws : ∀ m ∈ ws,inR m s1.nd.length ∧ inR m s1.bk.length
 hlx : xs.length ≤ 1000
 hlw : ws.length ≤ 1000
 hu : upF s1.bk ws (rd xs i) (ws.length + 1) 0 (dnF s1.bk xs (xs.length + 1) (i - 1) [rd xs i] []).1 ((dnF s1.bk xs (xs.length + 1) (i - 1) [rd xs i] []).2 ++ [e]) = some (mem,lk)
 hmb : ∀ m ∈ mem,inR m s1.nd.length
def foldI (s1 : SI) (mem lk : List Int) (j : Int) : SI:={ s1 with nd:=inF s1.nd.length mem s1.nd ++ [⟨mem,lk,-1,(rd_T60 s1.nd j).f3,(rd_T60 s1.nd j).f4,0,false⟩] }
structure AugR (N : Int) (es : List S51) (s1 : SI) (e a b : Int) (nd1 nd2 nd3 : List S60) (k ko : Nat) : Prop where
 h0 : 0 < s1.nd.length
 h1 : flipF s1.ah s1.bk k a e s1.nd = some nd1
 h2 : flipF s1.ah s1.bk k b e nd1 = some nd2
 h3 : OpenR N es s1.lb s1.nd.length ko nd2 nd3
def RoundR (N : Int) (es : List S51) (s : SI) (b : Bool) (s' : SI) : Prop :=
 Gd N es s ∧ ∃ (k : Nat) (e a c : Int) (lb ah bk : List Int),growF s.y s.nd es k (freshI s.nd).1 (freshI s.nd).2.1 (freshI s.nd).2.2 = some ((e,a,c),lb,ah,bk) ∧
  ((e = -1 ∧ ChgR N es (lab s lb ah bk) b s') ∨
   (inR e es.length ∧ ∃ (kr : Nat) (ra rc : Int),rootF ah kr a = some ra ∧ rootF ah kr c = some rc ∧ b = false ∧
    ((ra = rc ∧ ∃ (a' c' : Int) (xs ws mem lk : List Int) (i : Int) (kf : Nat),((topI s.nd (rd_T51 es e).f0 = a ∧ a' = a ∧ c' = c) ∨ (topI s.nd (rd_T51 es e).f0 ≠ a ∧ a' = c ∧ c' = a)) ∧ FoldR es (lab s lb ah bk) e a' c' xs ws mem lk i kf ∧ s' = foldI (lab s lb ah bk) mem lk (rd xs i)) ∨
    (ra ≠ rc ∧ ∃ (nd1 nd2 nd3 : List S60) (kf ko : Nat),AugR N es (lab s lb ah bk) e a c nd1 nd2 nd3 kf ko ∧ s' = { lab s lb ah bk with nd:=nd3 }))))
set_option maxHeartbeats 8000000 in
set_option maxRecDepth 100000 in
theorem round_calls {w0 W : World} {g : Nat} {N : Int} {Ae : Option Addr} {ce : Nat} {es : List (S51)} {s s' : SI} {b : Bool} (hI : IsSol w0 W g N Ae ce es s) (h : RoundR N es s b s') :
  Calls Try.prog 24 #[.pointer (some ⟨g,0,none⟩)] W fun e w'=>e = .returned (.bool b) ∧ IsSol w0 w' g N Ae ce es s':=by
 obtain ⟨col,vy,vn,vl,va,vb,hS⟩:=hI
 have hu47:=Try.underlying47
 have hu60:=Try.underlying60
 have hu51:=Try.underlying51
 have hu29:=Try.underlying29
 have HS:=qy.mk hS
 clear hS
 obtain ⟨G,k,e,a,c,lb,ah,bk,hg,h⟩:=h
 have HG:=qy.mk G
 have HGR:=qy.mk hg
 have hc7:=HS.out.cells.2.2.2.2.2.2.2
 have hf7:=HS.out.frz.2.2.2.2.2
 have hw1 : wrap64 (s.rn + 1) = s.rn + 1:=w64 (by have:=G.r;omega) (by have:=G.r;omega)
 have HS1:=qy.mk (HS.out.fr (s.rn + 1))
 clear G hg
 go_enter Try.func24,Try.ntmps24
 go_upto_region 2 with fail
 clear hc7 hf7 HS hw1
 generalize W.setCell _ _ = w1 at HS1 ⊢
 go_upto_region 3 with (first|(go_at_call 31;refine (fresh_calls HS1.out HG.out.sz).mono ?_;rintro r w2 ⟨rfl,col2,vl2,va2,vb2,hs⟩;have HS2:=qy.mk hs;clear hs HS1))
 go_upto_region 4 with (first|(go_at_call 32;refine (grow_calls HS2.out HG.out.w HG.out.o HG.out.y (freshI_len s.nd) k _ _ _ _ HGR.out).mono ?_;rintro r w3 ⟨rfl,hl,hs⟩;have HL:=qy.mk hl;have HS3 : qy (Sol w0 w3 g N Ae ce es col2 vy vn vl2 va2 vb2 (lab s lb ah bk)):=⟨hs⟩;clear hs hl HS2 HGR))
 rcases h with ⟨rfl,hC⟩|⟨hE,kr,ra,rc,hra,hrc,rfl,h⟩
 ·have HC:=qy.mk hC
  clear hC
  have cb1 : ((-1 : Int) == -1) = true:=by decide
  go_wp2_with (first|(go_at_call 33;refine (change_calls HS3.out HG.out.w HG.out.o HG.out.y HG.out.n HG.out.nn HL.out.1 HG.out.sz HC.out.1 HC.out.2.1).mono ?_;rintro r w4 ⟨rfl,hs⟩;have HS4:=qy.mk hs;clear hs))
  go_ret
  obtain ⟨-,-,rfl,rfl⟩:=HC.out
  exact ⟨rfl,_,_,_,_,_,_,HS4.out⟩
 have HE:=qy.mk hE
 have cb1 : (e == -1) = false:=by have:=hE.1;simp;omega
 have HRA : qy (rootF (lab s lb ah bk).ah kr a = some ra):=⟨hra⟩
 have HRC : qy (rootF (lab s lb ah bk).ah kr c = some rc):=⟨hrc⟩
 clear hra hrc
 rcases h with ⟨rfl,a',c',xs,ws,mem,lk,i,kf,hsw,hF,rfl⟩|⟨hne,nd1,nd2,nd3,kf,ko,hA,rfl⟩
 ·have HF:=qy.mk hF
  have cb2 : (ra == ra) = true:=by simp
  have HTP : qy (topF (lab s lb ah bk).nd (s.nd.length + 1) (rd_T51 es e).f0 = some (topI s.nd (rd_T51 es e).f0)):=⟨top_is HG.out.w (HG.out.o e HE.out).1⟩
  have hc:=HS3.out.cells
  obtain ⟨pE,qE⟩:=hE
  obtain ⟨adE,eAE,he0,he1,he2,he3,he4⟩:=at_T51 (Kd.C_below HS3.out.he HS3.out.hb) e pE qE
  subst eAE
  replace pE:=eq_true pE
  replace qE:=eq_true qE
  clear hF
  rcases hsw with ⟨ht,rfl,rfl⟩|⟨ht,rfl,rfl⟩
  ·have cb3 : (topI s.nd (rd_T51 es e).f0 != a') = false:=by simpa using ht
   clear ht
   go_wp2_with (first|(go_at_call 34;(with_reducible refine (root_calls HS3.out _ _ _ HRA.out).mono ?_);rintro e_ w2 ⟨rfl,h2⟩;replace h2:=h2.symm;subst h2)|(go_at_call 34;(with_reducible refine (root_calls HS3.out _ _ _ HRC.out).mono ?_);rintro e_ w2 ⟨rfl,h2⟩;replace h2:=h2.symm;subst h2)|(go_at_call 35;(with_reducible refine (top_calls HS3.out _ _ _ HTP.out).mono ?_);rintro e_ w2 ⟨rfl,h2⟩;replace h2:=h2.symm;subst h2)|(go_at_call 36;refine (fold_calls HS3.out e _ _ i kf HF.out.hk xs ws mem lk HF.out.hx HF.out.hw HF.out.hi HF.out.hxs HF.out.hws HF.out.hlx HF.out.hlw HF.out.hu HG.out.sz HF.out.hmb).mono ?_;rintro r w4 ⟨rfl,col4,vn4,hs⟩;have HS4:=qy.mk hs;clear hs))
   go_ret
   exact ⟨rfl,_,_,_,_,_,_,HS4.out⟩
  have cb3 : (topI s.nd (rd_T51 es e).f0 != c') = true:=by simpa using ht
  clear ht
  go_wp2_with (first|(go_at_call 34;(with_reducible refine (root_calls HS3.out _ _ _ HRA.out).mono ?_);rintro e_ w2 ⟨rfl,h2⟩;replace h2:=h2.symm;subst h2)|(go_at_call 34;(with_reducible refine (root_calls HS3.out _ _ _ HRC.out).mono ?_);rintro e_ w2 ⟨rfl,h2⟩;replace h2:=h2.symm;subst h2)|(go_at_call 35;(with_reducible refine (top_calls HS3.out _ _ _ HTP.out).mono ?_);rintro e_ w2 ⟨rfl,h2⟩;replace h2:=h2.symm;subst h2)|(go_at_call 36;refine (fold_calls HS3.out e _ _ i kf HF.out.hk xs ws mem lk HF.out.hx HF.out.hw HF.out.hi HF.out.hxs HF.out.hws HF.out.hlx HF.out.hlw HF.out.hu HG.out.sz HF.out.hmb).mono ?_;rintro r w4 ⟨rfl,col4,vn4,hs⟩;have HS4:=qy.mk hs;clear hs))
  go_ret
  exact ⟨rfl,_,_,_,_,_,_,HS4.out⟩
 have HA:=qy.mk hA
 have cb2 : (ra == rc) = false:=by simpa using hne
 clear hA hne
 go_upto_region 12 with (first|(go_at_call 34;(with_reducible refine (root_calls HS3.out _ _ _ HRA.out).mono ?_);rintro e_ w2 ⟨rfl,h2⟩;replace h2:=h2.symm;subst h2)|(go_at_call 34;(with_reducible refine (root_calls HS3.out _ _ _ HRC.out).mono ?_);rintro e_ w2 ⟨rfl,h2⟩;replace h2:=h2.symm;subst h2)|(go_at_call 37;refine (flip_calls HS3.out kf _ _ nd1 HA.out.h0 HA.out.h1).mono ?_;rintro r w4 ⟨rfl,hl1,hs⟩;have HS4:=qy.mk hs;have HL1 : qy (nd1.length = s.nd.length):=⟨hl1⟩;clear hs hl1))
 go_upto_region 13 with (first|(go_at_call 37;refine (flip_calls HS4.out kf _ _ nd2 (by show 0 < nd1.length;rw [HL1.out];exact HA.out.h0) HA.out.h2).mono ?_;rintro r w5 ⟨rfl,hl2,hs⟩;have HS5 : qy (Sol w0 w5 g N Ae ce es col2 vy vn vl2 va2 vb2 { lab s lb ah bk with nd:=nd2 }):=⟨hs⟩;have HL2 : qy (nd2.length = s.nd.length):=⟨(show nd2.length = nd1.length from hl2).trans HL1.out⟩;clear hs hl2))
 have HO:=qy.mk HA.out.h3
 clear HS3 HS4
 go_wp2_with fail
 go_loopg [] ko (fun kq w'=>∃ nd : List S60,qy (OpenR N es lb s.nd.length kq nd nd3) ∧ qy (Sol w0 w' g N Ae ce es col2 vy vn vl2 va2 vb2 { lab s lb ah bk with nd:=nd }))
 case atStart=>exact ⟨nd2,HO,HS5⟩
 clear HO HS5
 obtain ⟨nd,HO,HS5⟩:=hrel
 have h:=HO.out
 clear HO
 cases h with
 | done hl hw hr =>
  have HW:=qy.mk (And.intro hl (And.intro hw hr))
  clear hl hw hr
  go_wp2_with (first|(go_at_call 38;refine (unfoldFirst_calls HS5.out HW.out.2.1 (by have:=HG.out.o;rw [← HW.out.1] at this;exact this) (by have h1:=HG.out.n;have h2:=HG.out.nn;have h3:=HW.out.1;show 0 ≤ N ∧ N ≤ (nd3.length : Int);omega) (by have h1:=HL.out.1;have h2:=HW.out.1;show lb.length = nd3.length;omega) (by have h1:=HG.out.sz;have h2:=HW.out.1;show nd3.length ≤ 1000000;omega) 0 (-1) HW.out.2.2 (fun h=>absurd rfl h)).mono ?_;rintro r w6 (⟨-,rfl,h2⟩|⟨h,-⟩);(replace h2:=h2.symm;subst h2);rotate_left;exact absurd rfl h))
  go_ret
  exact ⟨rfl,_,_,_,_,_,_,HS5.out⟩
 | @more kk _ _ r_ hl hw hr hr1 hU rest =>
  have HW:=qy.mk (And.intro hl (And.intro hw (And.intro hr (And.intro hr1 hU))))
  have HO:=qy.mk rest
  clear hl hw hr hr1 hU rest
  go_wp2_with (first|(go_at_call 38;refine (unfoldFirst_calls HS5.out HW.out.2.1 (by have:=HG.out.o;rw [← HW.out.1] at this;exact this) (by have h1:=HG.out.n;have h2:=HG.out.nn;have h3:=HW.out.1;show 0 ≤ N ∧ N ≤ (nd.length : Int);omega) (by have h1:=HL.out.1;have h2:=HW.out.1;show lb.length = nd.length;omega) (by have h1:=HG.out.sz;have h2:=HW.out.1;show nd.length ≤ 1000000;omega) 0 r_ HW.out.2.2.1 (fun _=>HW.out.2.2.2.2)).mono ?_;rintro r w6 (⟨h,-⟩|⟨-,rfl,hs⟩);exact absurd h HW.out.2.2.2.1;have HS6:=qy.mk hs;clear hs))
  go_roundg kk
  case measure=>omega
  case rel=>exact ⟨_,HO,HS6⟩
inductive RunR (N : Int) (es : List S51) : Nat → SI → SI → Prop
 | last {s s' : SI} (h : RoundR N es s true s') : RunR N es 1 s s'
 | more {k : Nat} {s s1 s' : SI} (h : RoundR N es s false s1) (rest : RunR N es k s1 s') : RunR N es (k + 1) s s'
set_option maxHeartbeats 8000000 in
set_option maxRecDepth 100000 in
theorem run_calls {w0 W : World} {g : Nat} {N : Int} {Ae : Option Addr} {ce : Nat} {es : List (S51)} {s s' : SI} {k : Nat} (hI : IsSol w0 W g N Ae ce es s) (h : RunR N es k s s') :
  Calls Try.prog 15 #[.pointer (some ⟨g,0,none⟩)] W fun e w'=>e = .returned (.tuple #[]) ∧ IsSol w0 w' g N Ae ce es s':=by
 have HI:=qy.mk hI
 have HR:=qy.mk h
 clear hI h
 go_enter Try.func15,Try.ntmps15
 go_wp2_with fail
 go_loopg [] k (fun kq w'=>∃ s : SI,qy (RunR N es kq s s') ∧ qy (IsSol w0 w' g N Ae ce es s))
 case atStart=>exact ⟨s,HR,HI⟩
 clear HR HI
 obtain ⟨s1,HR,HI⟩:=hrel
 have h:=HR.out
 clear HR
 cases h with
 | last h =>
  have H:=qy.mk h
  clear h
  go_wp2_with (first|(go_at_call 24;refine (round_calls HI.out H.out).mono ?_;rintro r w2 ⟨rfl,hs⟩;have HI2:=qy.mk hs;clear hs))
  go_end0
  exact ⟨rfl,HI2.out⟩
 | @more kk _ s2 _ h rest =>
  have H:=qy.mk h
  have HR:=qy.mk rest
  clear h rest
  go_wp2_with (first|(go_at_call 24;refine (round_calls HI.out H.out).mono ?_;rintro r w2 ⟨rfl,hs⟩;have HI2:=qy.mk hs;clear hs))
  go_roundg kk
  case measure=>omega
  case rel=>exact ⟨_,HR,HI2⟩
end Go.Proofs.Ytnffimpoekjkpaa.QFnExactRounds
