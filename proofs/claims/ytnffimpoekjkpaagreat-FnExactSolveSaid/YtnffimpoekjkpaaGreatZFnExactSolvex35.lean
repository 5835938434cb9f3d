import Derived.Test.YtnffimpoekjkpaaGreatZFnExactSolvex34
set_option linter.all false
namespace Go.Proofs.YtnffimpoekjkpaaGreat.QFnExactSolve
open Go.RowKit Go.Proofs.YtnffimpoekjkpaaGreatW.PrintWords Go.Proofs.YtnffimpoekjkpaaGreatW.PrintLast Go.Proofs.YtnffimpoekjkpaaGreatW.PrintMore
set_option maxHeartbeats 8000000
set_option maxRecDepth 100000
attribute [local go_sem] Od' Pd' Xd' Yd' Jd' Kd' Qd' Rd'
theorem Jk' {nd : List S89} : ∀ (k : Nat) (i : Int) (lb ah bk : List Int),(Uf' nd k i lb ah bk).1.length = lb.length ∧ (Uf' nd k i lb ah bk).2.1.length = ah.length ∧ (Uf' nd k i lb ah bk).2.2.length = bk.length
 | 0,_,_,_,_=>⟨rfl,rfl,rfl⟩
 | k + 1,i,lb,ah,bk=>by
  rw [Uf']
  split
  ·have h:=Jk' (nd:=nd) k (i + 1) (if Dd' (td' nd i) = true ∧ (td' nd i).f3 = -1 then lb.set i.toNat 1 else lb) (ah.set i.toNat (-1)) (bk.set i.toNat (-1))
   rw [List.length_set,List.length_set] at h
   refine ⟨h.1.trans ?_,h.2⟩
   split
   ·rw [List.length_set]
   rfl
  exact ⟨rfl,rfl,rfl⟩
theorem Mh' (nd : List S89) : (Ge' nd).1.length = nd.length ∧ (Ge' nd).2.1.length = nd.length ∧ (Ge' nd).2.2.length = nd.length:=by
 have h:=Jk' (nd:=nd) (nd.length + 1) 0 (List.replicate nd.length 0) (List.replicate nd.length 0) (List.replicate nd.length 0)
 rw [List.length_replicate] at h
 exact h
structure Gd (N : Int) (es : List S73) (s : SI) : Prop where
 w : WFn s.nd
 o : EOk es s.nd.length
 y : EOk es s.y.length
 n : N = s.y.length
 nn : N ≤ s.nd.length
 sz : s.nd.length ≤ 1000000
 r : 0 ≤ s.rn ∧ s.rn ≤ 1000000
def lab (s : SI) (lb ah bk : List Int) : SI:={ s with lb:=lb,ah:=ah,bk:=bk,rn:=s.rn + 1 }
inductive Oj' (N : Int) (es : List S73) (lb : List Int) (n0 : Nat) : Nat → List S89 → List S89 → Prop
 | done {nd : List S89} (hl : nd.length = n0) (hw : WFn nd) (h : Zd' nd lb 0 (nd.length + 1) N = -1) : Oj' N es lb n0 1 nd nd
 | more {k : Nat} {nd nd' : List S89} {r : Int} (hl : nd.length = n0) (hw : WFn nd) (h : Zd' nd lb 0 (nd.length + 1) N = r) (hr : r ≠ -1) (hU : UOk es nd r) (rest : Oj' N es lb n0 k (Ed' es nd r) nd') : Oj' N es lb n0 (k + 1) nd nd'
def ChgR (N : Int) (es : List S73) (s1 : SI) (b : Bool) (s' : SI) : Prop:=WFn (Eg' N es s1) ∧ (hh' N es s1 ≠ -1 → UOk es (Eg' N es s1) (hh' N es s1)) ∧ b = (tf' N es s1).1 ∧ s' = (tf' N es s1).2
structure FoldR (es : List S73) (s1 : SI) (e a b : Int) (xs ws mem lk : List Int) (i : Int) (k : Nat) : Prop where
 hk : k ≤ 1000
 hx : wayF s1.ah k a = some xs
 hw : wayF s1.ah k b = some ws
 hi : ih' xs ws (xs.length + 1) 0 = some i
 hxs : ∀ m ∈ xs,inR m s1.nd.length ∧ inR m s1.bk.length
 hws : ∀ m ∈ ws,inR m s1.nd.length ∧ inR m s1.bk.length
 hlx : xs.length ≤ 1000
 hlw : ws.length ≤ 1000
 hu : upF s1.bk ws (rd xs i) (ws.length + 1) 0 (dnF s1.bk xs (xs.length + 1) (i - 1) [rd xs i] []).1 ((dnF s1.bk xs (xs.length + 1) (i - 1) [rd xs i] []).2 ++ [e]) = some (mem,lk)
 hmb : ∀ m ∈ mem,inR m s1.nd.length
def foldI (s1 : SI) (mem lk : List Int) (j : Int) : SI:={ s1 with nd:=inF s1.nd.length mem s1.nd ++ [⟨mem,lk,-1,(td' s1.nd j).f3,(td' s1.nd j).f4,0,false⟩] }
structure AugR (N : Int) (es : List S73) (s1 : SI) (e a b : Int) (nd1 nd2 nd3 : List S89) (k ko : Nat) : Prop where
 h0 : 0 < s1.nd.length
 h1 : sh' s1.ah s1.bk k a e s1.nd = some nd1
 h2 : sh' s1.ah s1.bk k b e nd1 = some nd2
 h3 : Oj' N es s1.lb s1.nd.length ko nd2 nd3
def Kk' (N : Int) (es : List S73) (s : SI) (b : Bool) (s' : SI) : Prop :=
 Gd N es s ∧ ∃ (k : Nat) (e a c : Int) (lb ah bk : List Int),Lh' s.y s.nd es k (Ge' s.nd).1 (Ge' s.nd).2.1 (Ge' s.nd).2.2 = some ((e,a,c),lb,ah,bk) ∧
  ((e = -1 ∧ ChgR N es (lab s lb ah bk) b s') ∨
   (inR e es.length ∧ ∃ (kr : Nat) (ra rc : Int),rootF ah kr a = some ra ∧ rootF ah kr c = some rc ∧ b = false ∧
    ((ra = rc ∧ ∃ (a' c' : Int) (xs ws mem lk : List Int) (i : Int) (kf : Nat),((topI s.nd (ud' es e).f0 = a ∧ a' = a ∧ c' = c) ∨ (topI s.nd (ud' es e).f0 ≠ a ∧ a' = c ∧ c' = a)) ∧ FoldR es (lab s lb ah bk) e a' c' xs ws mem lk i kf ∧ s' = foldI (lab s lb ah bk) mem lk (rd xs i)) ∨
    (ra ≠ rc ∧ ∃ (nd1 nd2 nd3 : List S89) (kf ko : Nat),AugR N es (lab s lb ah bk) e a c nd1 nd2 nd3 kf ko ∧ s' = { lab s lb ah bk with nd:=nd3 }))))
theorem Wj' {w0 W : World} {g : Nat} {N : Int} {Ae : Option Addr} {ce : Nat} {es : List (S73)} {s s' : SI} {b : Bool} (hI : Mj' w0 W g N Ae ce es s) (h : Kk' N es s b s') :
  Calls Tryz.prog 47 #[.pointer (some ⟨g,0,none⟩)] W fun e w'=>e = .returned (.bool b) ∧ Mj' w0 w' g N Ae ce es s':=by
 obtain ⟨col,vy,vn,vl,va,vb,hS⟩:=hI
 have hu87:=Tryz.underlying87
 have hu89:=Tryz.underlying89
 have hu73:=Tryz.underlying73
 have hu35:=Tryz.underlying35
 have HS:=qz.mk hS
 clear hS
 obtain ⟨G,k,e,a,c,lb,ah,bk,hg,h⟩:=h
 have HG:=qz.mk G
 have HGR:=qz.mk hg
 have hc7:=HS.o.cells.2.2.2.2.2.2.2
 have hf7:=HS.o.frz.2.2.2.2.2
 have hw1 : wrap64 (s.rn + 1) = s.rn + 1:=w64 (by have:=G.r;omega) (by have:=G.r;omega)
 have HS1:=qz.mk (HS.o.fr (s.rn + 1))
 clear G hg
 go_enter Tryz.func47,Tryz.ntmps47
 go_upto_region 2 with fail
 clear hc7 hf7 HS hw1
 generalize W.setCell _ _ = w1 at HS1 ⊢
 go_upto_region 3 with (first|(go_at_call 63;refine (Ln' HS1.o HG.o.sz).mono ?_;rintro r w2 ⟨rfl,col2,vl2,va2,vb2,hs⟩;have HS2:=qz.mk hs;clear hs HS1))
 go_upto_region 4 with (first|(go_at_call 64;refine (Go' HS2.o HG.o.w HG.o.o HG.o.y (Mh' s.nd) k _ _ _ _ HGR.o).mono ?_;rintro r w3 ⟨rfl,hl,hs⟩;have HL:=qz.mk hl;have HS3 : qz (Sol w0 w3 g N Ae ce es col2 vy vn vl2 va2 vb2 (lab s lb ah bk)):=⟨hs⟩;clear hs hl HS2 HGR))
 rcases h with ⟨rfl,hC⟩|⟨hE,kr,ra,rc,hra,hrc,rfl,h⟩
 ·have HC:=qz.mk hC
  clear hC
  have cb1 : ((-1 : Int) == -1) = true:=by decide
  go_wp2_with (first|(go_at_call 65;refine (Cm' HS3.o HG.o.w HG.o.o HG.o.y HG.o.n HG.o.nn HL.o.1 HG.o.sz HC.o.1 HC.o.2.1).mono ?_;rintro r w4 ⟨rfl,hs⟩;have HS4:=qz.mk hs;clear hs))
  go_ret
  obtain ⟨-,-,rfl,rfl⟩:=HC.o
  exact ⟨rfl,_,_,_,_,_,_,HS4.o⟩
 have HE:=qz.mk hE
 have cb1 : (e == -1) = false:=by have:=hE.1;simp;omega
 have HRA : qz (rootF (lab s lb ah bk).ah kr a = some ra):=⟨hra⟩
 have HRC : qz (rootF (lab s lb ah bk).ah kr c = some rc):=⟨hrc⟩
 clear hra hrc
 rcases h with ⟨rfl,a',c',xs,ws,mem,lk,i,kf,hsw,hF,rfl⟩|⟨hne,nd1,nd2,nd3,kf,ko,hA,rfl⟩
 ·have HF:=qz.mk hF
  have cb2 : (ra == ra) = true:=by simp
  have HTP : qz (Qf' (lab s lb ah bk).nd (s.nd.length + 1) (ud' es e).f0 = some (topI s.nd (ud' es e).f0)):=⟨xh' HG.o.w (HG.o.o e HE.o).1⟩
  have hc:=HS3.o.cells
  obtain ⟨pE,qE⟩:=hE
  obtain ⟨adE,eAE,he0,he1,he2,he3,he4⟩:=of' (Kd.C_below HS3.o.he HS3.o.hb) e pE qE
  subst eAE
  replace pE:=eq_true pE
  replace qE:=eq_true qE
  clear hF
  rcases hsw with ⟨ht,rfl,rfl⟩|⟨ht,rfl,rfl⟩
  ·have cb3 : (topI s.nd (ud' es e).f0 != a') = false:=by simpa using ht
   clear ht
   go_wp2_with (first|(go_at_call 66;(with_reducible refine (wg' HS3.o _ _ _ HRA.o).mono ?_);rintro e_ w2 ⟨rfl,h2⟩;replace h2:=h2.symm;subst h2)|(go_at_call 66;(with_reducible refine (wg' HS3.o _ _ _ HRC.o).mono ?_);rintro e_ w2 ⟨rfl,h2⟩;replace h2:=h2.symm;subst h2)|(go_at_call 67;(with_reducible refine (ng' HS3.o _ _ _ HTP.o).mono ?_);rintro e_ w2 ⟨rfl,h2⟩;replace h2:=h2.symm;subst h2)|(go_at_call 68;refine (Ik' HS3.o e _ _ i kf HF.o.hk xs ws mem lk HF.o.hx HF.o.hw HF.o.hi HF.o.hxs HF.o.hws HF.o.hlx HF.o.hlw HF.o.hu HG.o.sz HF.o.hmb).mono ?_;rintro r w4 ⟨rfl,col4,vn4,hs⟩;have HS4:=qz.mk hs;clear hs))
   go_ret
   exact ⟨rfl,_,_,_,_,_,_,HS4.o⟩
  have cb3 : (topI s.nd (ud' es e).f0 != c') = true:=by simpa using ht
  clear ht
  go_wp2_with (first|(go_at_call 66;(with_reducible refine (wg' HS3.o _ _ _ HRA.o).mono ?_);rintro e_ w2 ⟨rfl,h2⟩;replace h2:=h2.symm;subst h2)|(go_at_call 66;(with_reducible refine (wg' HS3.o _ _ _ HRC.o).mono ?_);rintro e_ w2 ⟨rfl,h2⟩;replace h2:=h2.symm;subst h2)|(go_at_call 67;(with_reducible refine (ng' HS3.o _ _ _ HTP.o).mono ?_);rintro e_ w2 ⟨rfl,h2⟩;replace h2:=h2.symm;subst h2)|(go_at_call 68;refine (Ik' HS3.o e _ _ i kf HF.o.hk xs ws mem lk HF.o.hx HF.o.hw HF.o.hi HF.o.hxs HF.o.hws HF.o.hlx HF.o.hlw HF.o.hu HG.o.sz HF.o.hmb).mono ?_;rintro r w4 ⟨rfl,col4,vn4,hs⟩;have HS4:=qz.mk hs;clear hs))
  go_ret
  exact ⟨rfl,_,_,_,_,_,_,HS4.o⟩
 have HA:=qz.mk hA
 have cb2 : (ra == rc) = false:=by simpa using hne
 clear hA hne
 go_upto_region 12 with (first|(go_at_call 66;(with_reducible refine (wg' HS3.o _ _ _ HRA.o).mono ?_);rintro e_ w2 ⟨rfl,h2⟩;replace h2:=h2.symm;subst h2)|(go_at_call 66;(with_reducible refine (wg' HS3.o _ _ _ HRC.o).mono ?_);rintro e_ w2 ⟨rfl,h2⟩;replace h2:=h2.symm;subst h2)|(go_at_call 69;refine (Gk' HS3.o kf _ _ nd1 HA.o.h0 HA.o.h1).mono ?_;rintro r w4 ⟨rfl,hl1,hs⟩;have HS4:=qz.mk hs;have HL1 : qz (nd1.length = s.nd.length):=⟨hl1⟩;clear hs hl1))
 go_upto_region 13 with (first|(go_at_call 69;refine (Gk' HS4.o kf _ _ nd2 (by show 0 < nd1.length;rw [HL1.o];exact HA.o.h0) HA.o.h2).mono ?_;rintro r w5 ⟨rfl,hl2,hs⟩;have HS5 : qz (Sol w0 w5 g N Ae ce es col2 vy vn vl2 va2 vb2 { lab s lb ah bk with nd:=nd2 }):=⟨hs⟩;have HL2 : qz (nd2.length = s.nd.length):=⟨(show nd2.length = nd1.length from hl2).trans HL1.o⟩;clear hs hl2))
 have HO:=qz.mk HA.o.h3
 clear HS3 HS4
 go_wp2_with fail
 go_loopg [] ko (fun kq w'=>∃ nd : List S89,qz (Oj' N es lb s.nd.length kq nd nd3) ∧ qz (Sol w0 w' g N Ae ce es col2 vy vn vl2 va2 vb2 { lab s lb ah bk with nd:=nd }))
 case atStart=>exact ⟨nd2,HO,HS5⟩
 clear HO HS5
 obtain ⟨nd,HO,HS5⟩:=hrel
 have h:=HO.o
 clear HO
 cases h with
 | done hl hw hr =>
  have HW:=qz.mk (And.intro hl (And.intro hw hr))
  clear hl hw hr
  go_wp2_with (first|(go_at_call 70;refine (Dg' HS5.o HW.o.2.1 Oc' (by have h1:=HG.o.n;have h2:=HG.o.nn;have h3:=HW.o.1;show 0 ≤ N ∧ N ≤ (nd3.length : Int);omega) (by have h1:=HL.o.1;have h2:=HW.o.1;show lb.length = nd3.length;omega) (by have h1:=HG.o.sz;have h2:=HW.o.1;show nd3.length ≤ 1000000;omega) 0 (-1) HW.o.2.2 (fun h=>absurd rfl h)).mono ?_;rintro r w6 (⟨-,rfl,h2⟩|⟨h,-⟩);(replace h2:=h2.symm;subst h2);rotate_left;exact absurd rfl h))
  go_ret
  exact ⟨rfl,_,_,_,_,_,_,HS5.o⟩
 | @more kk _ _ r_ hl hw hr hr1 hU rest =>
  have HW:=qz.mk (And.intro hl (And.intro hw (And.intro hr (And.intro hr1 hU))))
  have HO:=qz.mk rest
  clear hl hw hr hr1 hU rest
  go_wp2_with (first|(go_at_call 70;refine (Dg' HS5.o HW.o.2.1 Oc' (by have h1:=HG.o.n;have h2:=HG.o.nn;have h3:=HW.o.1;show 0 ≤ N ∧ N ≤ (nd.length : Int);omega) (by have h1:=HL.o.1;have h2:=HW.o.1;show lb.length = nd.length;omega) (by have h1:=HG.o.sz;have h2:=HW.o.1;show nd.length ≤ 1000000;omega) 0 r_ HW.o.2.2.1 (fun _=>HW.o.2.2.2.2)).mono ?_;rintro r w6 (⟨h,-⟩|⟨-,rfl,hs⟩);exact absurd h HW.o.2.2.2.1;have HS6:=qz.mk hs;clear hs))
  go_roundg kk
  case measure=>omega
  case rel=>exact ⟨_,HO,HS6⟩
inductive Oi' (N : Int) (es : List S73) : Nat → SI → SI → Prop
 | last {s s' : SI} (h : Kk' N es s true s') : Oi' N es 1 s s'
 | more {k : Nat} {s s1 s' : SI} (h : Kk' N es s false s1) (rest : Oi' N es k s1 s') : Oi' N es (k + 1) s s'
theorem gp' {w0 W : World} {g : Nat} {N : Int} {Ae : Option Addr} {ce : Nat} {es : List (S73)} {s s' : SI} {k : Nat} (hI : Mj' w0 W g N Ae ce es s) (h : Oi' N es k s s') :
  Calls Tryz.prog 25 #[.pointer (some ⟨g,0,none⟩)] W fun e w'=>e = .returned (.tuple #[]) ∧ Mj' w0 w' g N Ae ce es s':=by
 have HI:=qz.mk hI
 have HR:=qz.mk h
 clear hI h
 go_enter Tryz.func25,Tryz.ntmps25
 go_wp2_with fail
 go_loopg [] k (fun kq w'=>∃ s : SI,qz (Oi' N es kq s s') ∧ qz (Mj' w0 w' g N Ae ce es s))
 case atStart=>exact ⟨s,HR,HI⟩
 clear HR HI
 obtain ⟨s1,HR,HI⟩:=hrel
 have h:=HR.o
 clear HR
 cases h with
 | last h =>
  have H:=qz.mk h
  clear h
  go_wp2_with (first|(go_at_call 47;refine (Wj' HI.o H.o).mono ?_;rintro r w2 ⟨rfl,hs⟩;have HI2:=qz.mk hs;clear hs))
  go_end0
  exact ⟨rfl,HI2.o⟩
 | @more kk _ s2 _ h rest =>
  have H:=qz.mk h
  have HR:=qz.mk rest
  clear h rest
  go_wp2_with (first|(go_at_call 47;refine (Wj' HI.o H.o).mono ?_;rintro r w2 ⟨rfl,hs⟩;have HI2:=qz.mk hs;clear hs))
  go_roundg kk
  case measure=>omega
  case rel=>exact ⟨_,HR,HI2⟩
end Go.Proofs.YtnffimpoekjkpaaGreat.QFnExactSolve
