import Derived.Test.YtnffimpoekjkpaaGreatZFnExactSolvex41g
set_option linter.all false
namespace Go.Proofs.YtnffimpoekjkpaaGreat.QFnExactSolve
open Go.RowKit Go.Proofs.YtnffimpoekjkpaaGreatW.PrintWords Go.Proofs.YtnffimpoekjkpaaGreatW.PrintLast Go.Proofs.YtnffimpoekjkpaaGreatW.PrintMore
theorem Ui' {d n : Int} (h : 0 ≤ d) : Ne' d n = min d n:=by
 unfold Ne'
 rw [if_neg aa']
 split <;> omega
section
variable {N most : Int} {es : List S73} {D : Int} {y : List Int} {nd nd' nd2 : List S89} {rn : List S77} {mts : List S56} {lb ah bk : List Int} {rk : Int → Nat} {K : Nat} {t : TI} {r a j : Int}
theorem Xl' (h : ∀ i,inR i y.length → topI nd2 i = topI nd i) : ∀ (k : Nat) (i d : Int),0 ≤ i → stY nd2 y lb k i d = stY nd y lb k i d
 | 0,i,d,_=>rfl
 | k + 1,i,d,h0=>by
  rw [stY,stY]
  by_cases c : i < (y.length : Int)
  ·rw [if_pos c,if_pos c,h i ⟨h0,c⟩,Xl' h k (i + 1) _ aa']
  rw [if_neg c,if_neg c]
theorem ki' (hy : ∀ v,inR v y.length → 0 ≤ rd y v) : ∀ (k : Nat) (i d : Int),0 ≤ i → (y.length : Int) < i + k → (d = -1 ∨ 0 ≤ d) →
  (stY nd y lb k i d = -1 ∧ d = -1 ∧ ∀ u,i ≤ u → u < y.length → rd lb (topI nd u) ≠ 1) ∨
  (0 ≤ stY nd y lb k i d ∧ (∀ u,i ≤ u → u < y.length → rd lb (topI nd u) = 1 → stY nd y lb k i d ≤ rd y u) ∧ (d ≠ -1 → stY nd y lb k i d ≤ d) ∧ ((d ≠ -1 ∧ stY nd y lb k i d = d) ∨ ∃ u,i ≤ u ∧ u < y.length ∧ rd lb (topI nd u) = 1 ∧ stY nd y lb k i d = rd y u))
 | 0,i,d,h0,hk,hd=>by
  rw [stY]
  rcases hd with rfl|hd
  ·exact .inl ⟨rfl,rfl,fun u h1 h2=>by omega⟩
  exact .inr ⟨hd,fun u h1 h2=>by omega,fun _=>Int.le_refl _,.inl ⟨aa',rfl⟩⟩
 | k + 1,i,d,h0,hk,hd=>by
  rw [stY]
  by_cases c : i < (y.length : Int)
  ·rw [if_pos c]
   by_cases e : rd lb (topI nd i) = 1
   ·rw [if_pos e]
    have yi:=hy i ⟨h0,c⟩
    have hL : 0 ≤ Ne' d (rd y i) ∧ Ne' d (rd y i) ≤ rd y i ∧ (d ≠ -1 → Ne' d (rd y i) ≤ d) ∧ (Ne' d (rd y i) = rd y i ∨ (d ≠ -1 ∧ Ne' d (rd y i) = d)):=by
     unfold Ne'
     rcases hd with rfl|hd
     ·rw [if_pos aa'];exact ⟨yi,Int.le_refl _,fun h=>absurd rfl h,.inl rfl⟩
     rw [if_neg aa']
     split
     ·exact ⟨yi,Int.le_refl _,fun _=>by omega,.inl rfl⟩
     exact ⟨hd,aa',fun _=>Int.le_refl _,.inr ⟨aa',rfl⟩⟩
    rcases ki' hy k (i + 1) (Ne' d (rd y i)) aa' aa' (.inr hL.1) with ⟨_,h2,_⟩|⟨h1,h2,h3,h4⟩
    ·omega
    refine .inr ⟨h1,fun u u1 u2 u3=>?_,fun hd2=>?_,?_⟩
    ·by_cases q : u = i
     ·rw [q];have:=h3 aa';omega
     exact h2 u aa' u2 u3
    ·have:=h3 aa';have:=hL.2.2.1 hd2;omega
    rcases h4 with ⟨p,q⟩|⟨u,u1,u2,u3,u4⟩
    ·rcases hL.2.2.2 with w|⟨w0,w⟩
     ·exact .inr ⟨i,Int.le_refl _,c,e,by rw [q,w]⟩
     exact .inl ⟨w0,by rw [q,w]⟩
    exact .inr ⟨u,aa',u2,u3,u4⟩
   rw [if_neg e]
   rcases ki' hy k (i + 1) d aa' aa' hd with ⟨h1,h2,h3⟩|⟨h1,h2,h3,h4⟩
   ·refine .inl ⟨h1,h2,fun u u1 u2=>?_⟩
    by_cases q : u = i
    ·rw [q];exact e
    exact h3 u aa' u2
   refine .inr ⟨h1,fun u u1 u2 u3=>?_,h3,h4.imp_right fun ⟨u,u1,u2⟩=>⟨u,aa',u2⟩⟩
   by_cases q : u = i
   ·rw [q] at u3;exact absurd u3 e
   exact h2 u aa' u2 u3
  rw [if_neg c]
  rcases hd with rfl|hd
  ·exact .inl ⟨rfl,rfl,fun u h1 h2=>by omega⟩
  exact .inr ⟨hd,fun u h1 h2=>by omega,fun _=>Int.le_refl _,.inl ⟨aa',rfl⟩⟩
def edA (y : List Int) (nd : List S89) (lb : List Int) (x : S73) (d : Int) : Int :=
 if topI nd x.f0 = topI nd x.f1 then d
 else if rd lb (topI nd x.f0) = 1 ∧ rd lb (topI nd x.f1) = 1 then min d (slE y nd x / 2)
 else if rd lb (topI nd x.f0) = 1 ∧ rd lb (topI nd x.f1) = 0 ∨ rd lb (topI nd x.f0) = 0 ∧ rd lb (topI nd x.f1) = 1 then min d (slE y nd x)
 else d
theorem half {n : Int} (h : 0 ≤ n) (h2 : n ≤ 4000000000000000000) : wrap64 (n.tdiv 2) = n / 2:=by
 rw [Int.tdiv_eq_ediv_of_nonneg h]
 exact w64 aa' aa'
theorem Inv.sl_le (g : Gph N most es) (hi : Inv N most es D y nd) {e : Int} (he : inR e es.length) : slE y nd (ud' es e) ≤ 4000000000000000000:=by
 have x:=g.e e he
 have hy:=hi.eoy g e he
 have y0:=(hi.yok g) _ hy.1
 have y1:=(hi.yok g) _ hy.2
 have z:=ao' (hi.vok g).z (by have:=hi.sz;omega) (a:=(ud' es e).f0) (b:=(ud' es e).f1)
 have s:=yj' x
 unfold slE
 omega
theorem Cp' (g : Gph N most es) (hi : Inv N most es D y nd) {e : Int} (he : inR e es.length) (d : Int) : edD y nd lb (ud' es e) d = edA y nd lb (ud' es e) d:=by
 unfold edD edA
 rw [hi.slackI g he,half (hi.sl e he) (hi.sl_le g he)]
theorem edS_eq (g : Gph N most es) (hi : Inv N most es D y nd) (hr : pe' es nd rn) (hdm : ∀ i,inR i nd.length → rd lb i = 0 ∨ rd lb i = 1 ∨ rd lb i = 2) {e : Int} (he : inR e es.length) {d : Int} (hd : 0 ≤ d) : edS N y (cvs rn) lb (ud' es e) d = edA y nd lb (ud' es e) d:=by
 have hin:=hi.edge g he
 have sS : slackS N y (cvs rn) (ud' es e) = slE y nd (ud' es e):=by
  rw [zj' (g.e e he) (hi.yok g) hi.yl (hr.vok (hi.vok g))]
  unfold slE
  rw [hr.zsum hi.wf hin.1 hin.2]
 unfold edS edA
 rw [hr.top hi.wf hin.1,hr.top hi.wf hin.2,sS,half (hi.sl e he) (hi.sl_le g he),Ui' hd,Ui' hd]
 have d0:=hdm _ (Nd' hi.wf hin.1)
 have d1:=hdm _ (Nd' hi.wf hin.2)
 by_cases c : topI nd (ud' es e).f0 = topI nd (ud' es e).f1
 ·rw [if_pos c,if_pos c]
 rw [if_neg c,if_neg c]
 rcases d0 with h|h|h <;> rcases d1 with k|k|k <;> simp [h,k]
theorem Dp' (g : Gph N most es) (hi : Inv N most es D y nd) {e : Int} (he : inR e es.length) {d : Int} (hd : 0 ≤ d) : 0 ≤ edA y nd lb (ud' es e) d:=by
 have:=hi.sl e he
 unfold edA
 split
 ·exact hd
 split
 ·omega
 split
 ·omega
 exact hd
theorem Tm' (g : Gph N most es) (hi : Inv N most es D y nd) (hr : pe' es nd rn) (hdm : ∀ i,inR i nd.length → rd lb i = 0 ∨ rd lb i = 1 ∨ rd lb i = 2) : ∀ (k : Nat) (i d : Int),0 ≤ i → 0 ≤ d → vj' N y (cvs rn) lb es k i d = stE y nd lb es k i d ∧ 0 ≤ stE y nd lb es k i d
 | 0,i,d,h0,hd=>⟨rfl,hd⟩
 | k + 1,i,d,h0,hd=>by
  rw [vj',stE]
  by_cases c : i < (es.length : Int)
  ·rw [if_pos c,if_pos c,edS_eq g hi hr hdm ⟨h0,c⟩ hd,Cp' g hi ⟨h0,c⟩]
   exact Tm' g hi hr hdm k (i + 1) _ aa' (Dp' g hi ⟨h0,c⟩ hd)
  rw [if_neg c,if_neg c];exact ⟨rfl,hd⟩
theorem Um' (g : Gph N most es) (hi : Inv N most es D y nd) (hr : pe' es nd rn) : ∀ (k : Nat) (i d : Int),0 ≤ i → 0 ≤ d → Pi' rn lb k i d = stN nd lb k i d ∧ 0 ≤ stN nd lb k i d
 | 0,i,d,h0,hd=>⟨rfl,hd⟩
 | k + 1,i,d,h0,hd=>by
  rw [Pi',stN,hr.l]
  by_cases c : i < (nd.length : Int)
  ·have hn : inR i nd.length:=⟨h0,c⟩
   have z:=hi.zz i hn
   have zb : (td' nd i).f5 ≤ 4000000000000000000:=by have:=(hi.vok g).z i hn;omega
   rw [if_pos c,if_pos c,si' hi hr hn,(hr.n i hn).zz,Ui' hd,half z.1 zb]
   refine Um' g hi hr k (i + 1) _ aa' ?_
   split
   ·omega
   exact hd
  rw [if_neg c,if_neg c];exact ⟨rfl,hd⟩
theorem step_eq (g : Gph N most es) (hi : Inv N most es D y nd) (hr : pe' es nd rn) (hdm : ∀ i,inR i nd.length → rd lb i = 0 ∨ rd lb i = 1 ∨ rd lb i = 2) (n : Int) (b : Bool) :
  stYI ⟨y,rn,mts,n,b⟩ lb = stY nd y lb (y.length + 1) 0 (-1) ∧ (hf' N es ⟨y,rn,mts,n,b⟩ lb).1 = Hf' N y nd lb es:=by
 have e1 : stYI ⟨y,rn,mts,n,b⟩ lb = stY nd y lb (y.length + 1) 0 (-1):=Xl' (y:=y) (fun i h=>hr.top hi.wf (hi.vtx h.1 (by have:=hi.yl;have:=h.2;omega))) (y.length + 1) 0 (-1) (Int.le_refl 0)
 refine ⟨e1,?_⟩
 unfold hf' Hf'
 rw [e1]
 rcases ki' (nd:=nd) (lb:=lb) (fun v hv=>(hi.yy v hv).1) (y.length + 1) 0 (-1) (Int.le_refl 0) aa' (.inl rfl) with ⟨h1,_⟩|⟨h1,_⟩
 ·rw [h1];rfl
 rw [if_neg aa',if_neg aa']
 show Pi' rn lb (rn.length + 1) N (vj' N y (cvs rn) lb es (es.length + 1) 0 _) = _
 have E:=Tm' g hi hr hdm (es.length + 1) 0 _ (Int.le_refl 0) h1
 rw [E.1,hr.l]
 exact (Um' g hi hr (nd.length + 1) N _ g.n0 E.2).1
end
def sg (x : Int) : Int:=if x = 1 then -1 else if x = 2 then 1 else 0
section
variable {N most : Int} {es : List S73} {D : Int} {y : List Int} {nd nd' nd2 : List S89} {rn : List S77} {mts : List S56} {lb ah bk : List Int} {rk : Int → Nat} {K : Nat} {t : TI} {r a j d : Int}
theorem Sj' : ∀ (k : Nat) (i l : Int) (y : List Int),0 ≤ i → (∀ j,inR j y.length → topI nd2 j = topI nd j) → Qi' nd2 lb d k i y = (chY nd lb d k i y l).1
 | 0,i,l,y,h0,h=>rfl
 | k + 1,i,l,y,h0,h=>by
  rw [Qi',chY]
  by_cases c : i < (y.length : Int)
  ·rw [if_pos c,if_pos c,h i ⟨h0,c⟩]
   by_cases e : rd lb (topI nd i) = 1
   ·rw [if_pos e,if_pos e]
    exact Sj' k (i + 1) _ _ aa' Bc'
   rw [if_neg e,if_neg e]
   by_cases f : rd lb (topI nd i) = 2
   ·rw [if_pos f,if_pos f]
    exact Sj' k (i + 1) _ _ aa' Bc'
   rw [if_neg f,if_neg f]
   exact Sj' k (i + 1) _ _ aa' h
  rw [if_neg c,if_neg c]
theorem Vm' (hd : 0 ≤ d ∧ d ≤ 1000000000) : ∀ (k : Nat) (i l : Int) (y : List Int),0 ≤ i → (y.length : Int) < i + k → (∀ j,i ≤ j → j < y.length → 0 ≤ rd y j ∧ rd y j ≤ 1000000000) →
  (chY nd lb d k i y l).1.length = y.length ∧ (∀ j,inR j y.length → rd (chY nd lb d k i y l).1 j = if i ≤ j then rd y j + sg (rd lb (topI nd j)) * d else rd y j) ∧ (chY nd lb d k i y l).2 = stY nd (chY nd lb d k i y l).1 lb k i l
 | 0,i,l,y,h0,hk,hy=>⟨rfl,fun j hj=>by rw [if_neg (by have:=hj.2;omega)];rfl,rfl⟩
 | k + 1,i,l,y,h0,hk,hy=>by
  have hy2:=hy
  rw [chY]
  by_cases c : i < (y.length : Int)
  ·have yi:=hy2 i (Int.le_refl _) c
   have hset : ∀ (x : Int),(∀ j,i + 1 ≤ j → j < ((y.set i.toNat x).length : Int) → 0 ≤ rd (y.set i.toNat x) j ∧ rd (y.set i.toNat x) j ≤ 1000000000):=fun x j h1 h2=>by
    rw [List.length_set] at h2
    rw [he' h0 c aa',if_neg aa']
    exact hy2 j aa' h2
   have key : ∀ (x l' : Int),x = rd y i + sg (rd lb (topI nd i)) * d → l' = (if rd lb (topI nd i) = 1 then Ne' l x else l) →
     (chY nd lb d k (i + 1) (y.set i.toNat x) l').1.length = y.length ∧ (∀ j,inR j y.length → rd (chY nd lb d k (i + 1) (y.set i.toNat x) l').1 j = if i ≤ j then rd y j + sg (rd lb (topI nd j)) * d else rd y j) ∧ (chY nd lb d k (i + 1) (y.set i.toNat x) l').2 = stY nd (chY nd lb d k (i + 1) (y.set i.toNat x) l').1 lb (k + 1) i l:=fun x l' hx hl'=>by
    obtain ⟨e1,e2,e3⟩:=Vm' hd k (i + 1) l' (y.set i.toNat x) aa' (by rw [List.length_set];omega) (hset x)
    rw [List.length_set] at e1 e2
    have e2i : rd (chY nd lb d k (i + 1) (y.set i.toNat x) l').1 i = x:=by
     rw [e2 i ⟨h0,c⟩,if_neg aa',he' h0 c h0,if_pos rfl]
    refine ⟨e1,fun j hj=>?_,?_⟩
    ·rw [e2 j hj,he' h0 c hj.1]
     by_cases q : j = i
     ·rw [if_neg aa',if_pos q,q,if_pos (Int.le_refl _)];exact hx
     rw [if_neg q]
     by_cases q2 : i + 1 ≤ j
     ·rw [if_pos q2,if_pos aa']
     rw [if_neg q2,if_neg aa']
    rw [stY,e1,if_pos c,e2i,← hl']
    exact e3
   rw [if_pos c]
   by_cases e : rd lb (topI nd i) = 1
   ·rw [if_pos e,w64 aa' aa']
    exact key _ _ (by unfold sg;rw [if_pos e];omega) (by rw [if_pos e])
   rw [if_neg e]
   by_cases f : rd lb (topI nd i) = 2
   ·rw [if_pos f,w64 aa' aa']
    exact key _ _ (by unfold sg;rw [if_neg e,if_pos f];omega) (by rw [if_neg e])
   rw [if_neg f]
   have hs : y.set i.toNat (rd y i) = y:=by
    refine Jm' (by rw [List.length_set]) fun j hj=>?_
    rw [List.length_set] at hj
    rw [he' h0 c hj.1]
    split
    ·rename_i q;rw [q]
    rfl
   have:=key (rd y i) l (by unfold sg;rw [if_neg e,if_neg f];omega) (by rw [if_neg e])
   rw [hs] at this
   exact this
  rw [if_neg c]
  refine ⟨rfl,fun j hj=>by rw [if_neg (by have:=hj.2;omega)],?_⟩
  rw [stY,if_neg c]
theorem Ep' (hd : 0 ≤ d ∧ d ≤ 1000000000) : ∀ (k : Nat) (i : Int) (nd : List S89),0 ≤ i → (nd.length : Int) < i + k → (∀ j,i ≤ j → j < nd.length → 0 ≤ (td' nd j).f5 ∧ (td' nd j).f5 ≤ 1000000000) →
  (chZ lb d k i nd).length = nd.length ∧ ∀ j,inR j nd.length → td' (chZ lb d k i nd) j = { td' nd j with f5:=if i ≤ j ∧ Dd' (td' nd j) = true then (td' nd j).f5 - 2 * (sg (rd lb j) * d) else (td' nd j).f5 }
 | 0,i,nd,h0,hk,hz=>⟨rfl,fun j hj=>by rw [if_neg (fun q=>by have:=hj.2;have:=q.1;omega)];rfl⟩
 | k + 1,i,nd,h0,hk,hz=>by
  rw [chZ]
  by_cases c : i < (nd.length : Int)
  ·have zi:=hz i (Int.le_refl _) c
   have key : ∀ (x : Int),x = (if Dd' (td' nd i) = true then (td' nd i).f5 - 2 * (sg (rd lb i) * d) else (td' nd i).f5) →
     (chZ lb d k (i + 1) (zAt nd i x)).length = nd.length ∧ ∀ j,inR j nd.length → td' (chZ lb d k (i + 1) (zAt nd i x)) j = { td' nd j with f5:=if i ≤ j ∧ Dd' (td' nd j) = true then (td' nd j).f5 - 2 * (sg (rd lb j) * d) else (td' nd j).f5 }:=fun x hx=>by
    have hl : (zAt nd i x).length = nd.length:=by rw [zAt,List.length_set]
    have hr : ∀ {j : Int},0 ≤ j → td' (zAt nd i x) j = if j = i then { td' nd i with f5:=x } else td' nd j:=fun {j} h=>by rw [zAt];exact Lg' _ h0 c h
    obtain ⟨e1,e2⟩:=Ep' hd k (i + 1) (zAt nd i x) aa' Cb' fun j h1 h2=>by
     rw [hl] at h2
     rw [hr aa',if_neg aa']
     exact hz j aa' h2
    rw [hl] at e1 e2
    refine ⟨e1,fun j hj=>?_⟩
    rw [e2 j hj,hr hj.1]
    by_cases q : j = i
    ·subst q
     rw [if_pos rfl,if_neg (fun z=>by have:=z.1;omega)]
     rw [hx]
     by_cases w : Dd' (td' nd j) = true
     ·rw [if_pos w,if_pos ⟨Int.le_refl _,w⟩]
     rw [if_neg w,if_neg (fun z=>w z.2)]
    rw [if_neg q]
    by_cases w : Dd' (td' nd j) = true
    ·by_cases q2 : i + 1 ≤ j
     ·rw [if_pos ⟨q2,w⟩,if_pos ⟨aa',w⟩]
     rw [if_neg (fun z=>q2 z.1),if_neg (fun z=>by have:=z.1;omega)]
    rw [if_neg (fun z=>w z.2),if_neg (fun z=>w z.2)]
   have same : zAt nd i (td' nd i).f5 = nd:=by
    rw [zAt]
    have hlt : i.toNat < nd.length:=by omega
    have e : (td' nd i) = nd[i.toNat]:=by simp [td',hlt]
    rw [e]
    exact List.set_getElem_self hlt
   rw [if_pos c]
   by_cases w : Dd' (td' nd i) = true
   ·by_cases e : rd lb i = 1
    ·rw [if_pos ⟨w,e⟩,w64 (i:=2 * d) aa' aa',w64 aa' aa']
     exact key _ (by rw [if_pos w];unfold sg;rw [if_pos e];omega)
    rw [if_neg (fun z=>e z.2)]
    by_cases f : rd lb i = 2
    ·rw [if_pos ⟨w,f⟩,w64 (i:=2 * d) aa' aa',w64 aa' aa']
     exact key _ (by rw [if_pos w];unfold sg;rw [if_neg e,if_pos f];omega)
    rw [if_neg (fun z=>f z.2)]
    have:=key (td' nd i).f5 (by rw [if_pos w];unfold sg;rw [if_neg e,if_neg f];omega)
    rw [same] at this
    exact this
   rw [if_neg (fun z=>w z.1),if_neg (fun z=>w z.1)]
   have:=key (td' nd i).f5 (by rw [if_neg w])
   rw [same] at this
   exact this
  rw [if_neg c]
  refine ⟨rfl,fun j hj=>by rw [if_neg (fun q=>by have:=hj.2;have:=q.1;omega)]⟩
end
section
variable {N most : Int} {es : List S73} {D : Int} {y : List Int} {nd nd' nd2 : List S89} {rn : List S77} {mts : List S56} {lb ah bk : List Int} {rk : Int → Nat} {K : Nat} {t : TI} {r a j d : Int}
theorem zAt_rel (h : pe' es nd rn) {i : Int} (hi : inR i nd.length) (z : Int) : pe' es (zAt nd i z) (Vf' rn i z):=by
 have hl : (zAt nd i z).length = nd.length:=by rw [zAt,List.length_set]
 refine ⟨by rw [hl,Vf',List.length_set,h.l],fun j hj=>?_⟩
 rw [hl] at hj
 have X:=h.n i hi
 rw [zAt,Vf',Lg' _ hi.1 hi.2 hj.1,tk' _ hi.1 (by rw [h.l];exact hi.2) hj.1]
 by_cases c : j = i
 ·rw [if_pos c,if_pos c]
  exact ⟨X.mem,X.ll,X.lk,rfl,X.up,X.op⟩
 rw [if_neg c,if_neg c]
 exact h.n j hj
theorem Tj' : ∀ (k : Nat) (i : Int) (nd : List S89) (rn : List S77),0 ≤ i → pe' es nd rn → (∀ j,inR j nd.length → (td' nd j).f2 = -1 ∨ 0 ≤ (td' nd j).f2) → pe' es (chZ lb d k i nd) (tg' lb d k i rn)
 | 0,i,nd,rn,h0,h,hw=>h
 | k + 1,i,nd,rn,h0,h,hw=>by
  rw [chZ,tg',h.l]
  by_cases c : i < (nd.length : Int)
  ·have hi : inR i nd.length:=⟨h0,c⟩
   have X:=h.n i hi
   have e : Ce' (wd' rn i) = Dd' (td' nd i):=by
    unfold Ce' Dd'
    rw [X.up,X.op]
    rcases hw i hi with q|q
    ·rw [q];cases (td' nd i).f6 <;> rfl
    rw [decide_eq_false (show ¬(td' nd i).f2 < 0 by omega),decide_eq_false (show ¬(td' nd i).f2 = -1 by omega)]
    cases (td' nd i).f6 <;> rfl
   have st : ∀ z,pe' es (chZ lb d k (i + 1) (zAt nd i z)) (tg' lb d k (i + 1) (Vf' rn i z)):=fun z=>by
    refine Tj' k (i + 1) _ _ aa' (zAt_rel h hi z) fun j hj=>?_
    rw [zAt,List.length_set] at hj
    rw [zAt,Lg' _ h0 c hj.1]
    split
    ·exact hw i hi
    exact hw j hj
   rw [if_pos c,if_pos c,e,X.zz]
   by_cases w : Dd' (td' nd i) = true
   ·rw [if_pos w]
    by_cases p : rd lb i = 1
    ·rw [if_pos ⟨w,p⟩,if_pos p];exact st _
    rw [if_neg (fun z=>p z.2),if_neg p]
    by_cases q : rd lb i = 2
    ·rw [if_pos ⟨w,q⟩,if_pos q];exact st _
    rw [if_neg (fun z=>q z.2),if_neg q];exact Tj' k (i + 1) _ _ aa' h hw
   rw [if_neg (fun z=>w z.1),if_neg (fun z=>w z.1),if_neg w]
   exact Tj' k (i + 1) _ _ aa' h hw
  rw [if_neg c,if_neg c];exact h
theorem xq' (hw : WFn nd) (hl : nd'.length = nd.length) (hup : up60 nd nd') (hz : ∀ i,inR i nd.length → (td' nd' i).f5 = (td' nd i).f5 + (if Dd' (td' nd i) = true ∧ N ≤ i then -(2 * (sg (rd lb i) * d)) else 0)) (hv : ∀ i,0 ≤ i → i < N → ∀ u,inR u nd.length → Ad' nd i u = true → u = i) {u v : Int} (hu : inR u nd.length) (hv2 : inR v nd.length) (hne : u ≠ v) (hnt : (td' nd (topI nd u)).f6 = false) :
  Qe' nd' u v = Qe' nd u v + if topI nd u = topI nd v then -(2 * (sg (rd lb (topI nd u)) * d)) else 0:=by
 have tI:=Nd' hw hu
 have step : ∀ i,inR i nd.length → zOf nd' u v i = zOf nd u v i + (if i = topI nd u ∧ topI nd u = topI nd v then -(2 * (sg (rd lb (topI nd u)) * d)) else 0):=fun i hi=>by
  unfold zOf
  have h1:=(mf' hup hw).2.2 i (by have:=hi.1;omega)
  rw [h1 u hu,h1 v hv2,hz i hi]
  by_cases c : Ad' nd i u = true ∧ Ad' nd i v = true
  ·rw [if_pos c,if_pos c]
   by_cases q : (td' nd i).f2 = -1
   ·have e1:=(we' hw hi q hu).1 c.1
    have e2:=(we' hw hi q hv2).1 c.2
    have ht : Top nd i:=⟨hi,q,by rw [← e1];exact hnt⟩
    have hN : N ≤ i:=by
     apply Decidable.byContradiction
     intro z
     exact hne ((hv i hi.1 aa' u hu c.1).trans (hv i hi.1 aa' v hv2 c.2).symm)
    rw [if_pos (show Dd' (td' nd i) = true ∧ N ≤ i from ⟨(Be' hi).2 ht,hN⟩),if_pos ⟨e1.symm,e1.trans e2.symm⟩,e1]
   rw [if_neg (show ¬(Dd' (td' nd i) = true ∧ N ≤ i) from fun z=>q ((Be' hi).1 z.1).u),if_neg (show ¬(i = topI nd u ∧ topI nd u = topI nd v) from fun z=>q (by rw [z.1];exact qq' hw hu))]
  rw [if_neg c,if_neg c,if_neg]
  ·rfl
  rintro ⟨z1,z2⟩
  apply c
  rw [z1]
  exact ⟨Gi' hw hu,by rw [z2];exact Gi' hw hv2⟩
 unfold Qe'
 rw [hl,Nf' (f:=zOf nd' u v) (g:=fun i=>zOf nd u v i + (if i = topI nd u ∧ topI nd u = topI nd v then -(2 * (sg (rd lb (topI nd u)) * d)) else 0)) fun i h0 h1=>step i ⟨h0,h1⟩,Dm']
 congr 1
 by_cases c : topI nd u = topI nd v
 ·rw [if_pos c]
  have:=jk' (f:=fun i=>if i = topI nd u ∧ topI nd u = topI nd v then -(2 * (sg (rd lb (topI nd u)) * d)) else 0) (g:=fun _=>0) (a:=topI nd u) (k:=nd.length) tI.1 tI.2 fun i _ _ h=>if_neg fun z=>h z.1
  rw [this,qg' (fun _ _ _=>rfl)]
  simp only [c,and_self,↓reduceIte]
  omega
 rw [if_neg c]
 exact qg' fun i _ _=>if_neg fun z=>c z.2
end
section
variable {N most : Int} {es : List S73} {D : Int} {y : List Int} {nd nd' nd2 : List S89} {rn : List S77} {mts : List S56} {lb ah bk : List Int} {rk : Int → Nat} {K : Nat} {t : TI} {r a j d : Int}
theorem edA_le (d : Int) (x : S73) : edA y nd lb x d ≤ d:=by
 unfold edA
 split
 ·omega
 split
 ·omega
 split <;> omega
theorem Wm' (g : Gph N most es) (hi : Inv N most es D y nd) : ∀ (k : Nat) (i d : Int),0 ≤ i → (es.length : Int) < i + k → 0 ≤ d →
  stE y nd lb es k i d ≤ d ∧ (∀ e,i ≤ e → e < es.length → stE y nd lb es k i d ≤ edA y nd lb (ud' es e) (stE y nd lb es k i d)) ∧ (stE y nd lb es k i d = d ∨ ∃ e,i ≤ e ∧ e < es.length ∧ topI nd (ud' es e).f0 ≠ topI nd (ud' es e).f1 ∧ ((rd lb (topI nd (ud' es e).f0) = 1 ∧ rd lb (topI nd (ud' es e).f1) = 1 ∧ stE y nd lb es k i d = slE y nd (ud' es e) / 2) ∨ ((rd lb (topI nd (ud' es e).f0) = 1 ∧ rd lb (topI nd (ud' es e).f1) = 0 ∨ rd lb (topI nd (ud' es e).f0) = 0 ∧ rd lb (topI nd (ud' es e).f1) = 1) ∧ stE y nd lb es k i d = slE y nd (ud' es e))))
 | 0,i,d,h0,hk,hd=>⟨Int.le_refl _,fun e h1 h2=>by omega,.inl rfl⟩
 | k + 1,i,d,h0,hk,hd=>by
  rw [stE]
  by_cases c : i < (es.length : Int)
  ·have he : inR i es.length:=⟨h0,c⟩
   have nn:=Dp' (lb:=lb) g hi he hd
   have le:=edA_le (y:=y) (nd:=nd) (lb:=lb) d (ud' es i)
   rw [if_pos c,Cp' g hi he]
   obtain ⟨h1,h2,h3⟩:=Wm' g hi k (i + 1) (edA y nd lb (ud' es i) d) aa' aa' nn
   generalize stE y nd lb es k (i + 1) (edA y nd lb (ud' es i) d) = z at h1 h2 h3 ⊢
   refine ⟨aa',fun e e1 e2=>?_,?_⟩
   ·by_cases q : e = i
    ·subst q
     revert h1
     unfold edA
     split
     ·intro _;omega
     split
     ·intro _;omega
     split
     ·intro _;omega
     intro _;omega
    exact h2 e aa' e2
   rcases h3 with h|⟨e,e1,e2,e3⟩
   ·rw [h]
    unfold edA
    by_cases a1 : topI nd (ud' es i).f0 = topI nd (ud' es i).f1
    ·rw [if_pos a1];exact .inl rfl
    rw [if_neg a1]
    by_cases a2 : rd lb (topI nd (ud' es i).f0) = 1 ∧ rd lb (topI nd (ud' es i).f1) = 1
    ·rw [if_pos a2]
     by_cases a3 : d ≤ slE y nd (ud' es i) / 2
     ·exact .inl aa'
     exact .inr ⟨i,Int.le_refl _,c,a1,.inl ⟨a2.1,a2.2,aa'⟩⟩
    rw [if_neg a2]
    by_cases a4 : rd lb (topI nd (ud' es i).f0) = 1 ∧ rd lb (topI nd (ud' es i).f1) = 0 ∨ rd lb (topI nd (ud' es i).f0) = 0 ∧ rd lb (topI nd (ud' es i).f1) = 1
    ·rw [if_pos a4]
     by_cases a3 : d ≤ slE y nd (ud' es i)
     ·exact .inl aa'
     exact .inr ⟨i,Int.le_refl _,c,a1,.inr ⟨a4,aa'⟩⟩
    rw [if_neg a4];exact .inl rfl
   exact .inr ⟨e,aa',e2,e3⟩
  rw [if_neg c]
  exact ⟨Int.le_refl _,fun e h1 h2=>by omega,.inl rfl⟩
theorem vk' (g : Gph N most es) (hi : Inv N most es D y nd) : ∀ (k : Nat) (i d : Int),0 ≤ i → (nd.length : Int) < i + k → 0 ≤ d →
  stN nd lb k i d ≤ d ∧ (∀ n,i ≤ n → n < nd.length → Dd' (td' nd n) = true → rd lb n = 2 → 2 * stN nd lb k i d ≤ (td' nd n).f5) ∧ (stN nd lb k i d = d ∨ ∃ n,i ≤ n ∧ n < nd.length ∧ Dd' (td' nd n) = true ∧ rd lb n = 2 ∧ 2 * stN nd lb k i d = (td' nd n).f5)
 | 0,i,d,h0,hk,hd=>⟨Int.le_refl _,fun e h1 h2=>by omega,.inl rfl⟩
 | k + 1,i,d,h0,hk,hd=>by
  rw [stN]
  by_cases c : i < (nd.length : Int)
  ·have hn : inR i nd.length:=⟨h0,c⟩
   have z:=hi.zz i hn
   have zb : (td' nd i).f5 ≤ 4000000000000000000:=by have:=(hi.vok g).z i hn;omega
   rw [if_pos c,half z.1 zb]
   by_cases w : Dd' (td' nd i) = true ∧ rd lb i = 2
   ·rw [if_pos w]
    obtain ⟨h1,h2,h3⟩:=vk' g hi k (i + 1) (min d ((td' nd i).f5 / 2)) aa' aa' aa'
    generalize stN nd lb k (i + 1) (min d ((td' nd i).f5 / 2)) = s at h1 h2 h3 ⊢
    refine ⟨aa',fun n n1 n2 n3 n4=>?_,?_⟩
    ·by_cases q : n = i
     ·subst q;omega
     exact h2 n aa' n2 n3 n4
    rcases h3 with h|⟨n,n1,n2⟩
    ·by_cases q : d ≤ (td' nd i).f5 / 2
     ·exact .inl aa'
     exact .inr ⟨i,Int.le_refl _,c,w.1,w.2,aa'⟩
    exact .inr ⟨n,aa',n2⟩
   rw [if_neg w]
   obtain ⟨h1,h2,h3⟩:=vk' g hi k (i + 1) d aa' aa' hd
   refine ⟨h1,fun n n1 n2 n3 n4=>?_,h3.imp_right fun ⟨n,n1,n2⟩=>⟨n,aa',n2⟩⟩
   by_cases q : n = i
   ·subst q;exact absurd ⟨n3,n4⟩ w
   exact h2 n aa' n2 n3 n4
  rw [if_neg c]
  exact ⟨Int.le_refl _,fun e h1 h2=>by omega,.inl rfl⟩
end
structure Ee' (N : Int) (y y' : List Int) (nd nd' : List S89) (lb : List Int) (d : Int) : Prop where
 yl : y'.length = y.length
 y : ∀ v,inR v y.length → rd y' v = rd y v + sg (rd lb (topI nd v)) * d
 l : nd'.length = nd.length
 n : ∀ i,inR i nd.length → td' nd' i = { td' nd i with f5:=if N ≤ i ∧ Dd' (td' nd i) = true then (td' nd i).f5 - 2 * (sg (rd lb i) * d) else (td' nd i).f5 }
section
variable {N most : Int} {es : List S73} {D : Int} {y y' : List Int} {nd nd' nd2 : List S89} {rn : List S77} {mts : List S56} {lb ah bk : List Int} {rk : Int → Nat} {K : Nat} {t : TI} {r a j d : Int}
theorem chg_is (g : Gph N most es) (hi : Inv N most es D y nd) (hd : 0 ≤ d ∧ d ≤ 1000000000) (l : Int) : Ee' N y (chY nd lb d (y.length + 1) 0 y l).1 nd (chZ lb d (nd.length + 1) N nd) lb d:=by
 obtain ⟨a1,a2,-⟩:=Vm' (nd:=nd) (lb:=lb) hd (y.length + 1) 0 l y (Int.le_refl 0) aa' fun j h0 h1=>by
  have:=hi.yok g j ⟨h0,h1⟩
  omega
 obtain ⟨b1,b2⟩:=Ep' (lb:=lb) hd (nd.length + 1) N nd g.n0 Ba' fun j h0 h1=>by
  have:=(hi.vok g).z j ⟨Ba',h1⟩
  omega
 exact ⟨a1,fun v hv=>by rw [a2 v hv,if_pos hv.1],b1,b2⟩
theorem Ee'.up (O : Ee' N y y' nd nd' lb d) : up60 nd nd':=⟨O.l,fun j hj=>by rw [O.n j hj]⟩
theorem Ee'.sl (g : Gph N most es) (hi : Inv N most es D y nd) (O : Ee' N y y' nd nd' lb d) {e : Int} (he : inR e es.length) :
  slE y' nd' (ud' es e) = slE y nd (ud' es e) + if topI nd (ud' es e).f0 = topI nd (ud' es e).f1 then 0 else (sg (rd lb (topI nd (ud' es e).f0)) + sg (rd lb (topI nd (ud' es e).f1))) * d:=by
 have x:=g.e e he
 have hin:=hi.edge g he
 have hy:=hi.eoy g e he
 have z:=xq' (N:=N) (lb:=lb) (d:=d) hi.wf O.l O.up (fun i hn=>by
  rw [O.n i hn]
  by_cases c : Dd' (td' nd i) = true ∧ N ≤ i
  ·rw [if_pos c]
   show (if N ≤ i ∧ Dd' (td' nd i) = true then _ else _) = _
   rw [if_pos ⟨c.2,c.1⟩]
   omega
  ·rw [if_neg c]
   show (if N ≤ i ∧ Dd' (td' nd i) = true then _ else _) = _
   rw [if_neg (fun q=>c ⟨q.2,q.1⟩)]
   omega) (fun i h0 h1 u hu h=>by
  have hn:=hi.vtx h0 h1
  apply Decidable.byContradiction
  intro hne
  have : ∀ v,inR v nd.length → Ad' nd i v = true → v = i:=by
   refine af' hi.wf fun v hv ih hh=>?_
   rw [Sd' hi.wf aa' hv] at hh
   by_cases c : v = i
   ·exact c
   exfalso
   rw [if_neg c] at hh
   by_cases q : (td' nd v).f2 = -1
   ·rw [q,ge' i aa'] at hh;cases hh
   have:=ih q ((te' hi.wf hv).resolve_left q) hh
   have:=(hi.par v hv q).1
   omega
  exact hne (this u hu h)) hin.1 hin.2 (by have:=x.ab;omega) (hi.top_a g he).o
 unfold slE
 rw [z,O.y _ hy.1,O.y _ hy.2]
 by_cases c : topI nd (ud' es e).f0 = topI nd (ud' es e).f1
 ·rw [if_pos c,if_pos c,c];omega
 rw [if_neg c,if_neg c,Int.add_mul];omega
theorem Lab.mates (g : Gph N most es) (hi : Inv N most es D y nd) (L : Lab es y nd lb ah bk rk K) {i : Int} (ht : Top nd i) (hm : (td' nd i).f3 ≠ -1) : sg (rd lb i) + sg (rd lb (mt nd es i)) = 0:=by
 have q:=hi.mt_ok g ht hm
 have half : ∀ {i : Int},Top nd i → (td' nd i).f3 ≠ -1 → rd lb i ≠ 0 → sg (rd lb i) + sg (rd lb (mt nd es i)) = 0:=fun {i} h1 h2 h3=>by
  rcases L.dom i h1.i with k|k|k
  ·exact absurd k h3
  ·rcases L.ev i h1.i k with ⟨z,_⟩|⟨_,_,z,_⟩
   ·exact absurd z h2
   rw [k,z];rfl
  rw [k,(L.od i h1.i k).2.2.2.2.2.2.2];rfl
 by_cases c : rd lb i = 0
 ·by_cases e : rd lb (mt nd es i) = 0
  ·rw [c,e];rfl
  have:=half q.1 (by rw [q.2.2.1];exact hm) e
  rw [q.2.2.2] at this
  omega
 exact half ht hm c
theorem Ee'.inv (g : Gph N most es) (hi : Inv N most es D y nd) (L : Lab es y nd lb ah bk rk K) (O : Ee' N y y' nd nd' lb d) (hd : 0 ≤ d) (hD : D + d ≤ most) (hY : ∀ u,inR u y.length → rd lb (topI nd u) = 1 → d ≤ rd y u)
  (hE : ∀ e,inR e es.length → topI nd (ud' es e).f0 ≠ topI nd (ud' es e).f1 → 0 ≤ slE y nd (ud' es e) + (sg (rd lb (topI nd (ud' es e).f0)) + sg (rd lb (topI nd (ud' es e).f1))) * d)
  (hZ : ∀ i,inR i nd.length → N ≤ i → Dd' (td' nd i) = true → rd lb i = 2 → 2 * d ≤ (td' nd i).f5) : Inv N most es (D + d) y' nd':=by
 obtain ⟨w1,w2,w3⟩:=mf' O.up hi.wf
 have hvt : ∀ {i : Int},0 ≤ i → i < N → inR i nd.length:=fun a b=>hi.vtx a b
 have F : ∀ {i : Int},inR i nd.length → (td' nd' i).f0 = (td' nd i).f0 ∧ (td' nd' i).f1 = (td' nd i).f1 ∧ (td' nd' i).f2 = (td' nd i).f2 ∧ (td' nd' i).f3 = (td' nd i).f3 ∧ (td' nd' i).f4 = (td' nd i).f4 ∧ (td' nd' i).f6 = (td' nd i).f6:=fun hn=>by rw [O.n _ hn];exact ⟨rfl,rfl,rfl,rfl,rfl,rfl⟩
 have tops : ∀ {i},Top nd' i → Top nd i:=fun {i} h=>by
  have hn : inR i nd.length:=by rw [← O.l];exact h.i
  have f:=F hn
  exact ⟨hn,f.2.2.1.symm.trans h.u,f.2.2.2.2.2.symm.trans h.o⟩
 have sgv : ∀ x,sg x = -1 ∨ sg x = 0 ∨ sg x = 1:=fun x=>by unfold sg;split;exact .inl rfl;split;exact .inr (.inr rfl);exact .inr (.inl rfl)
 refine ⟨by rw [O.yl];exact hi.yl,by rw [O.l];exact hi.nn,by rw [O.l];exact hi.sz,w1,fun i h0 h1=>?_,fun i hn ho=>?_,fun m hn hu=>?_,fun i h0 h1 ho=>?_,fun i h hm=>?_,fun i h hm=>?_,fun i hn=>?_,fun v hv=>?_,⟨by have:=hi.dd;omega,hD⟩,fun e he=>?_,fun u v hu hv e=>?_⟩
 ·have f:=F (hvt h0 h1)
  have z : (td' nd' i).f5 = (td' nd i).f5:=by rw [O.n i (hvt h0 h1)];exact if_neg fun q=>by have:=q.1;omega
  rw [f.1,f.2.2.2.2.1,f.2.2.2.2.2,z]
  exact hi.ver i h0 h1
 ·rw [O.l] at hn
  have f:=F hn
  rw [f.2.2.1]
  exact hi.opn i hn (f.2.2.2.2.2.symm.trans ho)
 ·rw [O.l] at hn
  have f:=F hn
  rw [f.2.2.1] at hu ⊢
  have f2:=F ((te' hi.wf hn).resolve_left hu)
  rw [f2.1,f2.2.2.2.2.2]
  exact hi.par m hn hu
 ·rw [O.l] at h1
  have hin : inR i nd.length:=⟨Ba',h1⟩
  have f:=F hin
  have Q:=hi.ring i h0 h1 (f.2.2.2.2.2.symm.trans ho)
  refine ⟨by rw [f.1];exact Q.odd,yc',zc',by rw [f.1];exact Q.nod,?_,?_⟩
  ·rw [f.1]
   intro m hm
   have q:=Q.mem m hm
   exact ⟨ec',(F q.1).2.2.1.trans q.2⟩
  rw [f.1,f.2.1]
  intro k hk
  obtain ⟨k1,k2,k3⟩:=Q.lnk k hk
  have e:=hi.edge g k1
  have hL : (0 : Int) < (td' nd i).f0.length:=by have:=Q.three;omega
  have q2:=Le' (x:=k + 1) hL
  have m1:=Q.mem _ (Vd' _ _ hk.1 hk.2)
  have m2:=Q.mem _ (Vd' _ _ q2.1 q2.2)
  have tm : ∀ {m v : Int},inR m nd.length ∧ (td' nd m).f2 = i → inR v nd.length → Ad' nd m v = true → topI nd v = topI nd i:=fun {m v} q hv h=>by
   rw [Yg' hi.wf q.1 hv h,Ae' hi.wf q.1,q.2,if_neg (by have:=hin.1;omega)]
  refine ⟨k1,?_,?_⟩
  ·rw [O.sl g hi k1,k2,if_pos]
   ·rfl
   rcases k3 with ⟨x,z⟩|⟨x,z⟩
   ·rw [tm m1 e.1 x,tm m2 e.2 z]
   rw [tm m2 e.1 z,tm m1 e.2 x]
  unfold yg' at k3 ⊢
  have n1 : rd (td' nd i).f0 k ≠ -1:=by have:=m1.1.1;omega
  have n2 : rd (td' nd i).f0 ((k + 1) % (td' nd i).f0.length) ≠ -1:=by have:=m2.1.1;omega
  rw [w3 _ n1 _ e.1,w3 _ n1 _ e.2,w3 _ n2 _ e.1,w3 _ n2 _ e.2]
  exact k3
 ·have ht:=tops h
  rw [(F ht.i).2.2.2.1] at hm
  have p:=hi.pair g ht hm
  have q:=hi.mt_ok g ht hm
  have e:=hi.edge g p.ei
  have Lm:=L.mates g hi ht hm
  have P : gf' es y' nd' nd' (td' nd i).f3 i (mt nd es i):=by
   refine ⟨p.ei,?_,p.ne,by rw [w2 _ e.1,w2 _ e.2];exact p.j,(F ht.i).2.2.2.1,(F q.1.i).2.2.2.1.trans q.2.2.1⟩
   rw [O.sl g hi p.ei,p.sl]
   split
   ·rfl
   rcases p.j with ⟨x,z⟩|⟨x,z⟩ <;> rw [x,z]
   ·rw [Lm,Int.zero_mul];rfl
   rw [Int.add_comm (sg _),Lm,Int.zero_mul];rfl
  exact P.self_ok
 ·have ht:=tops h
  have f:=F ht.i
  rw [f.2.2.2.1] at hm
  have G:=hi.free i ht hm
  have hin:=hvt G.v.1 G.v.2
  refine ⟨by rw [f.2.2.2.2.1];exact G.v,?_,fun q hq k=>?_,?_⟩
  ·rw [f.2.2.2.2.1,w3 _ dc' _ hin];exact G.h
  ·rw [O.l] at hq
   rw [f.2.2.2.2.1] at k ⊢
   rw [w3 _ (by have:=hq.1;omega) _ hin] at k
   rw [(F hq).2.2.2.2.1]
   exact G.b q hq k
  rw [f.2.2.2.2.1,O.y _ ⟨G.v.1,by have:=hi.yl;have:=G.v.2;omega⟩,(we' hi.wf ht.i ht.u hin).1 G.h,L.free i ht hm,G.yv]
  show most - D + -1 * d = _
  omega
 ·rw [O.l] at hn
  have z:=hi.zz i hn
  have f5 : (td' nd' i).f5 = if N ≤ i ∧ Dd' (td' nd i) = true then (td' nd i).f5 - 2 * (sg (rd lb i) * d) else (td' nd i).f5:=by rw [O.n i hn]
  rw [f5]
  by_cases c : N ≤ i ∧ Dd' (td' nd i) = true
  ·rw [if_pos c]
   have hz:=hZ i hn c.1 c.2
   rcases L.dom i hn with k|k|k
   ·rw [k,show sg 0 = 0 from rfl];omega
   ·rw [k,show sg 1 = -1 from rfl];omega
   rw [k,show sg 2 = 1 from rfl];have:=hz k;omega
  rw [if_neg c];omega
 ·rw [O.yl] at hv
  have z:=hi.yy v hv
  rw [O.y v hv]
  have hy:=hY v hv
  have hn:=Nd' hi.wf (hvt hv.1 zb')
  rcases L.dom _ hn with k|k|k
  ·rw [k,show sg 0 = 0 from rfl];omega
  ·rw [k,show sg 1 = -1 from rfl];have:=hy k;omega
  rw [k,show sg 2 = 1 from rfl];omega
 ·rw [O.sl g hi he]
  by_cases c : topI nd (ud' es e).f0 = topI nd (ud' es e).f1
  ·rw [if_pos c];have:=hi.sl e he;omega
  rw [if_neg c];exact hE e he c
 rw [O.yl] at hu hv
 have a1 : inR u nd.length:=hvt hu.1 cc'
 have b1 : inR v nd.length:=hvt hv.1 zb'
 rw [w2 u a1,w2 v b1] at e
 have:=hi.pa u v hu hv e
 rw [O.y u hu,O.y v hv,e]
 omega
end
def eh' (mts : List S56) : Prop:=∀ l ∈ mts,(⟨l.f1,l.f0⟩ : S56) ∉ mts
section
variable {N most : Int} {es : List S73} {D : Int} {y y' : List Int} {nd nd' nd2 : List S89} {rn rn' : List S77} {mts : List S56} {lb ah bk : List Int} {rk : Int → Nat} {K : Nat} {t : TI} {r a j d : Int}
theorem go' {P : S56 → Prop} (h1 : ∀ l ∈ mts,P l) (h2 : ∀ l m,P l → P m → l.f0 = m.f1 → l.f1 = m.f0 → False) : eh' mts:=fun l hl q=>h2 l _ (h1 l hl) (h1 _ q) rfl rfl
theorem Mo' (g : Gph N most es) (hi : Inv N most es D y nd) (hr : pe' es nd rn) (hm : ff' es nd mts) (hv : eh' mts) (L : Lab es y nd lb ah bk rk K) (S : Fg' es nd lb ah bk t) {e a c : Int} {ws us : List Int} (he : inR e es.length)
  (ea : topI nd (ud' es e).f0 = a) (ec : topI nd (ud' es e).f1 = c) (la : rd lb a = 1) (lc : rd lb c = 1) (wa : Way ah a ws) (wc : Way ah c us) (hrt : rd t.rt a ≠ rd t.rt c) :
  eh' (ahF lb t.ah us (ahF lb t.ah ws (wlF (cvs rn) us (wlF (cvs rn) ws mts) ++ [⟨(ud' es e).f0,(ud' es e).f1⟩]))):=by
 have ha : inR a nd.length:=ea ▸ (hi.top_a g he).i
 have hc : inR c nd.length:=ec ▸ (hi.top_b g he).i
 have la0 : rd lb a ≠ 0:=by rw [la];decide
 have lc0 : rd lb c ≠ 0:=by rw [lc];decide
 have hac : a ≠ c:=fun z=>hrt (by rw [z])
 have MA:=wa.mem g hi L ha la0
 have MC:=wc.mem g hi L hc lc0
 have sA:=wa.shape g hi L ha la0
 have sC:=wc.shape g hi L hc lc0
 have aw : a ∈ ws:=by obtain ⟨l',q⟩:=wa.head;rw [q];exact List.mem_cons_self
 have cu : c ∈ us:=by obtain ⟨l',q⟩:=wc.head;rw [q];exact List.mem_cons_self
 have dis : ∀ m,m ∈ ws → m ∈ us → False:=fun m h1 h2=>hrt ((wa.root g hi L S ha la0 m h1).symm.trans (wc.root g hi L S hc lc0 m h2))
 have tv : ∀ x ∈ mts,topI (cvs rn) x.f0 = topI nd x.f0 ∧ topI (cvs rn) x.f1 = topI nd x.f1:=fun x hx=>by
  have:=hm.in g hi.nn x hx
  exact ⟨hr.top hi.wf this.1,hr.top hi.wf this.2⟩
 have LKo : ∀ b,b ∈ ws ∨ b ∈ us → rd lb b = 2 → topI nd (xd' t.ah b).f0 = rd ah b ∧ topI nd (xd' t.ah b).f1 = b ∧ rd lb (rd ah b) = 1 ∧ ((b ∈ ws ∧ rd ah b ∈ ws) ∨ (b ∈ us ∧ rd ah b ∈ us)):=fun b hb h2=>by
  have hin : inR b nd.length:=hb.elim (fun h=>(MA b h).1) fun h=>(MC b h).1
  have O:=L.od b hin h2
  have na : rd ah b ≠ -1:=by have:=O.1.1;omega
  have q:=S.lk b hin (by rw [h2];decide) na
  exact ⟨q.2.2.1,q.2.2.2,O.2.1,hb.elim (fun h=>.inl ⟨h,(sA b h).1 na⟩) fun h=>.inr ⟨h,(sC b h).1 na⟩⟩
 refine go' (P:=fun x=>(x ∈ mts ∧ topI nd x.f0 ∉ ws ∧ topI nd x.f0 ∉ us ∧ topI nd x.f1 ∉ ws ∧ topI nd x.f1 ∉ us) ∨ (topI nd x.f0 = a ∧ topI nd x.f1 = c) ∨ (rd lb (topI nd x.f1) = 2 ∧ rd lb (topI nd x.f0) = 1 ∧ ((topI nd x.f0 ∈ ws ∧ topI nd x.f1 ∈ ws) ∨ (topI nd x.f0 ∈ us ∧ topI nd x.f1 ∈ us)))) (fun x hx=>?_) fun x z hx hz e1 e2=>?_
 ·rw [Uh',Uh',List.mem_append,List.mem_singleton,zg',zg',or_assoc] at hx
  rcases hx with (⟨⟨h1,h2⟩,h3⟩|h)|⟨n,n1,n2,n3⟩|⟨n,n1,n2,n3⟩
  ·have tvx:=tv x h1
   exact .inl ⟨h1,fun q=>(h2 _ q).1 tvx.1,fun q=>(h3 _ q).1 tvx.1,fun q=>(h2 _ q).2 tvx.2,fun q=>(h3 _ q).2 tvx.2⟩
  ·rw [h];exact .inr (.inl ⟨ea,ec⟩)
  ·obtain ⟨k1,k2,k3,k4⟩:=LKo n (.inl n1) n2
   rw [n3,k1,k2]
   exact .inr (.inr ⟨n2,k3,k4.imp (fun h=>⟨h.2,h.1⟩) fun h=>⟨h.2,h.1⟩⟩)
  obtain ⟨k1,k2,k3,k4⟩:=LKo n (.inr n1) n2
  rw [n3,k1,k2]
  exact .inr (.inr ⟨n2,k3,k4.imp (fun h=>⟨h.2,h.1⟩) fun h=>⟨h.2,h.1⟩⟩)
 rw [e1,e2] at hx
 rcases hx with ⟨h1,h2,h3,h4,h5⟩|⟨h1,h2⟩|⟨h1,h2,h3⟩ <;> rcases hz with ⟨k1,k2,k3,k4,k5⟩|⟨k1,k2⟩|⟨k1,k2,k3⟩
 ·refine hv z k1 ?_
  have : (⟨z.f1,z.f0⟩ : S56) = x:=by cases x;simp only at e1 e2;rw [e1,e2]
  rw [this];exact h1
 ·rw [k1] at h4;exact h4 aw
 ·rcases k3 with k3|k3
  ·exact h4 k3.1
  exact h5 k3.1
 ·rw [h2] at k3;exact k3 cu
 ·exact hac (k1.symm.trans h2)
 ·rcases k3 with k3|k3
  ·rw [h2] at k3;exact dis _ k3.1 cu
  rw [h1] at k3;exact dis _ aw k3.2
 ·rcases h3 with h3|h3
  ·exact k2 h3.2
  exact k3 h3.2
 ·rcases h3 with h3|h3
  ·rw [k2] at h3;exact dis _ h3.1 cu
  rw [k1] at h3;exact dis _ aw h3.2
 omega
theorem Fp' {ring : List Int} (hv : eh' mts) : eh' (Zf' nd ring mts):=fun l hl q=>hv l (kh'.1 hl).1 (kh'.1 q).1
theorem Fj' (g : Gph N most es) (hi : Inv N most es D y nd) (hr : pe' es nd rn) (hm : ff' es nd mts) (hv : eh' mts) (hb : ag' nd rn) (ht : Top nd r) (hN : N ≤ r) (hz : (td' nd r).f5 = 0) (n : Int) (b : Bool) : eh' (nf' ⟨y,rn,mts,n,b⟩ r).mt:=by
 have R:=hi.ring r hN ht.i.2 ht.o
 obtain ⟨hv1,hv2⟩:=hi.hold_v g ht
 have hin:=hi.vtx hv1.1 hv1.2
 obtain ⟨a,ha,hh,hat⟩:=hi.place ht.i R hin hv2 aa'
 have O:=Bh' (es:=es) ht R ha hat
 generalize hnd : Ed' es nd r = nd' at O
 have X:=hr.n r ht.i
 have eb:=xl' g hi hr hm hb ht
 have hL : (0 : Int) < (td' nd r).f0.length:=by have:=R.three;omega
 have eat : atS ⟨y,rn,mts,n,b⟩ r = a:=by
  show atF (cvs rn) (xe' rn mts r) (wd' rn r).f0 0 0 = a
  rw [eb,X.mem,← hat]
  exact ui' fun m hm=>hr.has hi.wf (by have:=(R.mem m hm).1.1;omega) hin
 have ME : (nf' ⟨y,rn,mts,n,b⟩ r).mt = linkF (wd' rn r).f1 a (td' nd r).f0.length ((td' nd r).f0.length + 1) 1 mts:=by
  show linkF (wd' rn r).f1 (atS ⟨y,rn,mts,n,b⟩ r) (wd' rn r).f0.length ((wd' rn r).f0.length + 1) 1 mts = _
  rw [eat,X.mem]
 have LK : ∀ k : Int,1 ≤ k → k % 2 = 1 → k < (td' nd r).f0.length → ie' es (rd (td' nd r).f1 ((a + k) % (td' nd r).f0.length)) (xd' (wd' rn r).f1 ((a + k) % (td' nd r).f0.length)):=fun k _ _ _=>X.lk _ (by rw [R.lkl];exact Le' hL)
 have tm : ∀ {k : Int},topI nd (rd (td' nd r).f0 ((a + k) % (td' nd r).f0.length)) = r:=fun {k}=>by
  have:=R.at_in (a:=a) (i:=k)
  rw [Ae' hi.wf this.1,(R.mem _ this.2).2,if_neg dc']
  exact Xe' hi.wf ht.i ht.u
 have inj : ∀ u v : Int,0 ≤ u → u < (td' nd r).f0.length → 0 ≤ v → v < (td' nd r).f0.length → rd (td' nd r).f0 ((a + u) % (td' nd r).f0.length) = rd (td' nd r).f0 ((a + v) % (td' nd r).f0.length) → u = v:=fun u v u0 u1 v0 v1 h=>hg' hL ⟨u0,u1⟩ ⟨v0,v1⟩ (fg' R.nod (Le' hL) (Le' hL) h)
 rw [ME]
 refine go' (P:=fun x=>(x ∈ mts ∧ topI nd x.f0 ≠ topI nd x.f1) ∨ (topI nd x.f0 = r ∧ topI nd x.f1 = r ∧ ∃ i : Int,1 ≤ i ∧ i % 2 = 1 ∧ i + 1 < (td' nd r).f0.length ∧ ((topI nd' x.f0 = rd (td' nd r).f0 ((a + i) % (td' nd r).f0.length) ∧ topI nd' x.f1 = rd (td' nd r).f0 ((a + (i + 1)) % (td' nd r).f0.length)) ∨ (topI nd' x.f0 = rd (td' nd r).f0 ((a + (i + 1)) % (td' nd r).f0.length) ∧ topI nd' x.f1 = rd (td' nd r).f0 ((a + i) % (td' nd r).f0.length))) ∧ x = xd' (wd' rn r).f1 ((a + i) % (td' nd r).f0.length))) (fun x hx=>?_) fun x z hx hz e1 e2=>?_
 ·rcases (Dj' aa').1 hx with h|⟨k,k1,k2,k3,rfl⟩
  ·obtain ⟨e,-,-,q,-,-⟩:=hm.a x h
   exact .inl ⟨h,q⟩
  obtain ⟨q,P⟩:=O.pair_k g hi ht hN hz R ha hh k1 aa' k2
  have lk:=LK k k1 aa' k2
  have J:=yg'.or lk P.j
  have hx2:=lk.vtx g P.ei
  have c0:=O.coarse hi ht R ha _ (hi.vtx hx2.1.1 hx2.1.2)
  have c1:=O.coarse hi ht R ha _ (hi.vtx hx2.2.1.1 hx2.2.1.2)
  refine .inr ⟨?_,?_,k,k1,aa',q,J,rfl⟩
  ·rw [← c0]
   rcases J with ⟨u,v⟩|⟨u,v⟩ <;> rw [u,tm]
  rw [← c1]
  rcases J with ⟨u,v⟩|⟨u,v⟩ <;> rw [v,tm]
 rw [e1,e2] at hx
 rcases hx with ⟨h1,h2⟩|⟨h1,h2,i,i1,i2,i3,i4,i5⟩ <;> rcases hz with ⟨k1,k2⟩|⟨k1,k2,k,k3,k4,k5,k6,k7⟩
 ·refine hv z k1 ?_
  have : (⟨z.f1,z.f0⟩ : S56) = x:=by cases x;simp only at e1 e2;rw [e1,e2]
  rw [this];exact h1
 ·exact h2 (k2.trans k1.symm)
 ·exact k2 (h2.trans h1.symm)
 have e : i = k:=by
  rcases i4 with ⟨u,v⟩|⟨u,v⟩ <;> rcases k6 with ⟨p,q⟩|⟨p,q⟩
  ·have:=inj _ _ aa' aa' aa' aa' (u.symm.trans q);omega
  ·have:=inj _ _ aa' aa' aa' aa' (u.symm.trans q);omega
  ·have:=inj _ _ aa' aa' aa' aa' (v.symm.trans p);omega
  have:=inj _ _ aa' aa' aa' aa' (v.symm.trans p);omega
 subst e
 have xz : x = z:=i5.trans k7.symm
 have lk:=LK i i1 i2 aa'
 obtain ⟨_,P⟩:=O.pair_k g hi ht hN hz R ha hh i1 i2 aa'
 have:=(lk.vtx g P.ei).2.2
 rw [← i5,e1,e2] at this
 rw [xz] at e1
 exact this e1.symm
end
structure ChgF (N : Int) (es : List S73) (y y' : List Int) (nd nd1 nd' : List S89) (lb : List Int) (d : Int) : Prop where
 d0 : 0 ≤ d
 ch : Ee' N y y' nd nd1 lb d
 att : (∃ e,inR e es.length ∧ topI nd (ud' es e).f0 ≠ topI nd (ud' es e).f1 ∧ ((rd lb (topI nd (ud' es e).f0) = 1 ∧ rd lb (topI nd (ud' es e).f1) = 1 ∧ d = slE y nd (ud' es e) / 2) ∨ ((rd lb (topI nd (ud' es e).f0) = 1 ∧ rd lb (topI nd (ud' es e).f1) = 0 ∨ rd lb (topI nd (ud' es e).f0) = 0 ∧ rd lb (topI nd (ud' es e).f1) = 1) ∧ d = slE y nd (ud' es e)))) ∨
  ∃ r,Top nd r ∧ N ≤ r ∧ rd lb r = 2 ∧ 2 * d = (td' nd r).f5
 op : (nd' = nd1 ∧ ∀ r,N ≤ r → Top nd1 r → rd lb r = 2 → (td' nd1 r).f5 ≠ 0) ∨ ∃ r a,N ≤ r ∧ Top nd1 r ∧ rd lb r = 2 ∧ (td' nd1 r).f5 = 0 ∧ inR a (td' nd1 r).f0.length ∧ Ad' nd1 (rd (td' nd1 r).f0 a) (ue' nd1 es r) = true ∧ se' nd1 nd' r a
section
variable {N most : Int} {es : List S73} {D : Int} {y y' : List Int} {nd nd' nd2 : List S89} {rn rn' : List S77} {mts : List S56} {lb ah bk : List Int} {rk : Int → Nat} {K : Nat} {t : TI} {r a j d : Int}
theorem Vi' (h : pe' es nd rn) {lb lb2 : List Int} {label : Int} (hl : label = 0 ∨ lb2 = lb) : ∀ (k : Nat) (i : Int),0 ≤ i → Zd' (cvs rn) lb2 label k i = Zd' nd lb label k i
 | 0,i,_=>rfl
 | k + 1,i,h0=>by
  rw [Zd',Zd',Hd',h.l]
  by_cases c : i < (nd.length : Int)
  ·have X:=h.n i ⟨h0,c⟩
   have e : (Dd' (td' (cvs rn) i) = true ∧ (td' (cvs rn) i).f5 = 0 ∧ (label = 0 ∨ rd lb2 i = label)) ↔ (Dd' (td' nd i) = true ∧ (td' nd i).f5 = 0 ∧ (label = 0 ∨ rd lb i = label)):=by
    have e1 : Dd' (td' (cvs rn) i) = Dd' (td' nd i):=by
     rw [Ef']
     show (decide ((wd' rn i).f4 = -1) && !(wd' rn i).f5) = _
     rw [X.up,X.op]
     rfl
    have e2 : (td' (cvs rn) i).f5 = (td' nd i).f5:=by rw [Ef'];exact X.zz
    rw [e1,e2]
    rcases hl with rfl|rfl
    ·simp
    rfl
   rw [if_pos c,if_pos c,Vi' h hl k (i + 1) aa']
   by_cases q : Dd' (td' nd i) = true ∧ (td' nd i).f5 = 0 ∧ (label = 0 ∨ rd lb i = label)
   ·rw [if_pos q,if_pos (e.2 q)]
   rw [if_neg q,if_neg (fun z=>q (e.1 z))]
  rw [if_neg c,if_neg c]
theorem th' {lb : List Int} {label : Int} : ∀ (k : Nat) (i : Int),0 ≤ i → (nd.length : Int) < i + k → (Zd' nd lb label k i = -1 ∧ ∀ j,i ≤ j → j < nd.length → Dd' (td' nd j) = true → (td' nd j).f5 = 0 → (label = 0 ∨ rd lb j = label) → False) ∨ (i ≤ Zd' nd lb label k i ∧ inR (Zd' nd lb label k i) nd.length ∧ Dd' (td' nd (Zd' nd lb label k i)) = true ∧ (td' nd (Zd' nd lb label k i)).f5 = 0 ∧ (label = 0 ∨ rd lb (Zd' nd lb label k i) = label))
 | 0,i,h0,hk=>.inl ⟨rfl,fun j h1 h2=>by omega⟩
 | k + 1,i,h0,hk=>by
  rw [Zd']
  by_cases c : i < (nd.length : Int)
  ·rw [if_pos c]
   by_cases q : Dd' (td' nd i) = true ∧ (td' nd i).f5 = 0 ∧ (label = 0 ∨ rd lb i = label)
   ·rw [if_pos q]
    exact .inr ⟨Int.le_refl _,⟨h0,c⟩,q⟩
   rw [if_neg q]
   rcases th' k (i + 1) aa' aa' with ⟨h1,h2⟩|⟨h1,h2⟩
   ·refine .inl ⟨h1,fun j j1 j2 j3 j4 j5=>?_⟩
    by_cases e : j = i
    ·subst e;exact q ⟨j3,j4,j5⟩
    exact h2 j aa' j2 j3 j4 j5
   exact .inr ⟨aa',h2⟩
  rw [if_neg c]
  exact .inl ⟨rfl,fun j h1 h2=>by omega⟩
theorem Ee'.tops (O : Ee' N y y' nd nd' lb d) {i : Int} : Top nd' i ↔ Top nd i:=by
 constructor
 ·intro h
  have hn : inR i nd.length:=by rw [← O.l];exact h.i
  have e:=O.n i hn
  exact ⟨hn,by have:=h.u;rw [e] at this;exact this,by have:=h.o;rw [e] at this;exact this⟩
 intro h
 have e:=O.n i h.i
 exact ⟨by rw [O.l];exact h.i,by rw [e];exact h.u,by rw [e];exact h.o⟩
theorem Ee'.mrel (g : Gph N most es) (hi : Inv N most es D y nd) (O : Ee' N y y' nd nd' lb d) (hm : ff' es nd mts) : ff' es nd' mts:=by
 obtain ⟨w1,w2,w3⟩:=mf' O.up hi.wf
 refine ⟨fun l hl=>?_,fun t ht hq=>?_⟩
 ·obtain ⟨e,he,hk,h1,h2,h3⟩:=hm.a l hl
  have hin:=hm.in g hi.nn l hl
  refine ⟨e,he,hk,?_,?_,?_⟩
  ·rw [w2 _ hin.1,w2 _ hin.2];exact h1
  ·rw [w2 _ hin.1,O.n _ (Nd' hi.wf hin.1)];exact h2
  rw [w2 _ hin.2,O.n _ (Nd' hi.wf hin.2)];exact h3
 have ht2:=O.tops.1 ht
 rw [O.n t ht2.i] at hq ⊢
 exact hm.b t ht2 hq
theorem Ee'.brel (hi : Inv N most es D y nd) (O : Ee' N y y' nd nd' lb d) (h2 : ∀ i,(wd' rn' i).f2 = (wd' rn i).f2) (hb : ag' nd rn) : ag' nd' rn':=by
 obtain ⟨w1,w2,w3⟩:=mf' O.up hi.wf
 intro t ht h3 i hin h
 have ht2:=O.tops.1 ht
 rw [O.l] at hin
 rw [O.n t ht2.i] at h3 h ⊢
 have F:=hi.free t ht2 h3
 have v:=hi.vtx F.v.1 F.v.2
 have h' : Ad' nd' i (td' nd t).f4 = true:=h
 rw [w3 i (by have:=hin.1;omega) _ v] at h'
 rw [h2]
 exact hb t ht2 h3 i hin h'
theorem io' {nd : List S77} {i z : Int} (j : Int) : (wd' (Vf' nd i z) j).f2 = (wd' nd j).f2:=by
 unfold Vf' wd'
 simp only [List.getD_eq_getElem?_getD,List.getElem?_set]
 by_cases c : i.toNat = j.toNat
 ·rw [if_pos c]
  split
  ·rw [c];rfl
  rename_i h
  rw [List.getElem?_eq_none aa']
 rw [if_neg c]
theorem jo' : ∀ (k : Nat) (i : Int) (rn : List S77) (j : Int),(wd' (tg' lb d k i rn) j).f2 = (wd' rn j).f2
 | 0,i,rn,j=>rfl
 | k + 1,i,rn,j=>by
  rw [tg']
  split
  ·rw [jo']
   split
   ·split
    ·exact io' j
    split
    ·exact io' j
    rfl
   rfl
  rfl
theorem Gp' {i z : Int} (h0 : 0 ≤ i) (h1 : i < (nd.length : Int)) : up60 nd (zAt nd i z):=⟨by rw [zAt,List.length_set],fun j hj=>by
 rw [zAt,Lg' _ h0 h1 hj.1]
 split
 ·rename_i c;rw [c]
 rfl⟩
theorem Hp' : ∀ (k : Nat) (i : Int) (nd : List S89),0 ≤ i → up60 nd (chZ lb d k i nd)
 | 0,i,nd,h0=>up60.refl nd
 | k + 1,i,nd,h0=>by
  rw [chZ]
  by_cases c : i < (nd.length : Int)
  ·rw [if_pos c]
   refine up60.trans ?_ (Hp' k (i + 1) _ aa')
   split
   ·exact Gp' h0 c
   split
   ·exact Gp' h0 c
   exact up60.refl nd
  rw [if_neg c]
  exact up60.refl nd
theorem Ip' (g : Gph N most es) (hi : Inv N most es D y nd) (L : Lab es y nd lb ah bk rk K) (S : Fg' es nd lb ah bk t) {i : Int} (hn : inR i nd.length) (h : rd lb i ≠ 0) : ∃ f,Top nd f ∧ rd lb f = 1 ∧ (td' nd f).f3 = -1:=by
 obtain ⟨r1,r2,r3⟩:=S.rr i hn h
 refine ⟨_,L.top _ r1 (by rw [r2];decide),r2,?_⟩
 rcases L.ev _ r1 r2 with ⟨z,_⟩|⟨z1,z2,_⟩
 ·exact z
 rw [r3] at z2
 have:=(hi.mt_ok g (L.top _ r1 (by rw [r2];decide)) z1).1.i.1
 omega
theorem Mn' (g : Gph N most es) (hi : Inv N most es D y nd) (hr : pe' es nd rn) (hm : ff' es nd mts) (hd : mts.Nodup) (hb : ag' nd rn) (hv : eh' mts) (L : Lab es y nd lb ah bk rk K) (S : Fg' es nd lb ah bk t) (n1 n : Int) :
  ∃ (bd : Bool) (D' : Int) (y' : List Int) (nd' : List S89) (rn' : List S77) (mts' : List S56),ChgR N es ⟨y,nd,lb,ah,bk,n1⟩ bd ⟨y',nd',lb,ah,bk,n1⟩ ∧ AdjS N es ⟨y,rn,mts,n,false⟩ lb ⟨y',rn',mts',n,bd⟩ ∧
   Inv N most es D' y' nd' ∧ pe' es nd' rn' ∧ ff' es nd' mts' ∧ mts'.Nodup ∧ ag' nd' rn' ∧ eh' mts' ∧ (bd = false → ∃ d nd1,ChgF N es y y' nd nd1 nd' lb d ∧ Inv N most es D' y' nd1):=by
 have hy : ∀ v,inR v y.length → 0 ≤ rd y v:=fun v hv=>(hi.yy v hv).1
 obtain ⟨E1,E2⟩:=step_eq (mts:=mts) g hi hr L.dom n false
 rcases ki' (nd:=nd) (lb:=lb) hy (y.length + 1) 0 (-1) (Int.le_refl 0) aa' (.inl rfl) with ⟨h1,_,h3⟩|⟨h1,h2,_,h4⟩
 ·have hs : Hf' N y nd lb es = -1:=by
   unfold Hf'
   rw [h1,if_pos aa']
  have no1 : ∀ i,inR i nd.length → rd lb i ≠ 1:=fun i hn h=>by
   obtain ⟨v,v0,v1,v2⟩:=hi.top_vtx (L.top i hn mb')
   exact h3 v v0 (by have:=hi.yl;omega) (by rw [v2];exact h)
  have no2 : ∀ i,inR i nd.length → rd lb i ≠ 2:=fun i hn h=>no1 _ (L.od i hn h).1 (L.od i hn h).2.1
  have up : up60 nd (Eg' N es ⟨y,nd,lb,ah,bk,n1⟩):=Hp' _ _ _ g.n0
  have hR : hh' N es ⟨y,nd,lb,ah,bk,n1⟩ = -1:=by
   rcases th' (nd:=Eg' N es ⟨y,nd,lb,ah,bk,n1⟩) (lb:=lb) (label:=2) (nd.length + 1) N g.n0 (by rw [up.1];have:=g.n0;omega) with ⟨z,_⟩|⟨_,z1,_,_,z2⟩
   ·exact z
   rw [up.1] at z1
   exact absurd (z2.resolve_left ba') (no2 _ z1)
  have eI : tf' N es ⟨y,nd,lb,ah,bk,n1⟩ = (true,⟨y,nd,lb,ah,bk,n1⟩):=by
   unfold tf'
   exact if_pos (by show Hf' N y nd lb es < 0;omega)
  have eS : vf' N es ⟨y,rn,mts,n,false⟩ lb = ⟨y,rn,mts,n,true⟩:=by
   unfold vf'
   rw [if_pos (by rw [E2];omega)]
  refine ⟨true,D,y,nd,rn,mts,⟨(mf' up hi.wf).1,fun h=>absurd hR h,Qa',Qa'⟩,⟨fun h=>by rw [E2] at h;omega,fun h=>by rw [E2] at h;omega,eS.symm⟩,hi,hr,hm,hd,hb,hv,fun h=>by cases h⟩
 obtain ⟨Y0,hY0⟩ : ∃ Y0,stY nd y lb (y.length + 1) 0 (-1) = Y0:=⟨_,rfl⟩
 rw [hY0] at h1 h2 h4 E1
 obtain ⟨u0,u1,u2,u3,u4⟩:=h4.resolve_left fun h=>h.1 rfl
 have hs : Hf' N y nd lb es = stN nd lb (nd.length + 1) N (stE y nd lb es (es.length + 1) 0 Y0):=by
  unfold Hf'
  rw [hY0,if_neg aa']
 have EE:=Tm' g hi hr L.dom (es.length + 1) 0 Y0 (Int.le_refl 0) h1
 obtain ⟨s1,s2,s3⟩:=Wm' (lb:=lb) g hi (es.length + 1) 0 Y0 (Int.le_refl 0) aa' h1
 obtain ⟨dE,hdE⟩ : ∃ dE,stE y nd lb es (es.length + 1) 0 Y0 = dE:=⟨_,rfl⟩
 rw [hdE] at hs EE s1 s2 s3
 have EN:=Um' (lb:=lb) g hi hr (nd.length + 1) N dE g.n0 EE.2
 obtain ⟨t1,t2,t3⟩:=vk' (lb:=lb) g hi (nd.length + 1) N dE g.n0 Ba' EE.2
 rw [← hs] at EN t1 t2 t3
 obtain ⟨d,hdd⟩ : ∃ d,Hf' N y nd lb es = d:=⟨_,rfl⟩
 rw [hdd] at EN t1 t2 t3 E2
 have d0 : 0 ≤ d:=EN.2
 have hu0 : inR u0 nd.length:=hi.vtx u1 (by have:=hi.yl;omega)
 obtain ⟨f,f1,f2,f3⟩:=Ip' g hi L S (Nd' hi.wf hu0) (by rw [u3];decide)
 have F:=hi.free f f1 f3
 have bY : Y0 ≤ most - D:=by
  have:=h2 (td' nd f).f4 F.v.1 (by have:=hi.yl;have:=F.v.2;omega) (by rw [(we' hi.wf f1.i f1.u (hi.vtx F.v.1 F.v.2)).1 F.h];exact f2)
  rw [F.yv] at this
  exact this
 have dd:=hi.dd
 have gm:=g.m
 have O:=chg_is (lb:=lb) g hi (d:=d) ⟨d0,aa'⟩ (-1)
 have sgv : ∀ x,x = 0 ∨ x = 1 ∨ x = 2 → sg x = if x = 1 then -1 else if x = 2 then 1 else 0:=fun x _=>rfl
 have I1:=O.inv g hi L d0 aa' (fun u hu hl=>by have:=h2 u hu.1 hu.2 hl;omega) (fun e he hne=>by
  have q:=s2 e he.1 he.2
  have hin:=hi.edge g he
  have a1:=L.dom _ (Nd' hi.wf hin.1)
  have a2:=L.dom _ (Nd' hi.wf hin.2)
  have sl0:=hi.sl e he
  unfold edA at q
  rw [if_neg hne] at q
  rcases a1 with h|h|h <;> rcases a2 with k|k|k <;> rw [h,k] at q ⊢ <;> simp [sg] at q ⊢ <;> omega) (fun i hn hN ht hl=>t2 i hN hn.2 ht hl)
 obtain ⟨c1,c2,c3⟩:=Vm' (nd:=nd) (lb:=lb) (d:=d) ⟨d0,aa'⟩ (y.length + 1) 0 (-1) y (Int.le_refl 0) aa' fun j h0 h1=>by have:=hi.yok g j ⟨h0,h1⟩;omega
 have hR1 : pe' es (chZ lb d (nd.length + 1) N nd) (tg' lb d (rn.length + 1) N rn):=by
  rw [hr.l]
  exact Tj' (nd.length + 1) N nd rn g.n0 hr fun j hj=>(te' hi.wf hj).imp_right fun h=>h.1
 have hM1:=O.mrel g hi hm
 have hB1 : ag' (chZ lb d (nd.length + 1) N nd) (tg' lb d (rn.length + 1) N rn):=O.brel hi (fun i=>jo' _ _ _ _) hb
 have eYS : Qi' (cvs rn) lb d (y.length + 1) 0 y = (chY nd lb d (y.length + 1) 0 y (-1)).1:=Sj' _ _ _ _ (Int.le_refl 0) fun j hj=>hr.top hi.wf (hi.vtx hj.1 (by have:=hi.yl;have:=hj.2;omega))
 have eZ : Eg' N es ⟨y,nd,lb,ah,bk,n1⟩ = chZ lb d (nd.length + 1) N nd:=by
  unfold Eg'
  show chZ lb (Hf' N y nd lb es) _ N nd = _
  rw [hdd]
 have eY : qj' N es ⟨y,nd,lb,ah,bk,n1⟩ = chY nd lb d (y.length + 1) 0 y (-1):=by
  unfold qj'
  show chY nd lb (Hf' N y nd lb es) _ 0 y (-1) = _
  rw [hdd]
 have eC : ji' N es ⟨y,rn,mts,n,false⟩ lb = ⟨(chY nd lb d (y.length + 1) 0 y (-1)).1,tg' lb d (rn.length + 1) N rn,mts,n,false⟩:=by
  unfold ji'
  show RI.mk (Qi' (cvs rn) lb (hf' N es ⟨y,rn,mts,n,false⟩ lb).1 (y.length + 1) 0 y) (tg' lb (hf' N es ⟨y,rn,mts,n,false⟩ lb).1 (rn.length + 1) N rn) mts n false = _
  rw [E2,eYS]
 have e2 : (hf' N es ⟨y,rn,mts,n,false⟩ lb).2 = Y0:=by
  unfold hf'
  rw [E1,if_neg aa']
 generalize hnd1 : chZ lb d (nd.length + 1) N nd = nd1 at O I1 hR1 hM1 hB1 eZ
 generalize hrn1 : tg' lb d (rn.length + 1) N rn = rn1 at hR1 hB1 eC
 generalize hyy : chY nd lb d (y.length + 1) 0 y (-1) = yl at O I1 c1 c2 c3 eY eC
 have l1 : nd1.length = nd.length:=O.l
 have hy2 : yl.2 = Y0 - d:=by
  rw [c3]
  rcases ki' (nd:=nd) (lb:=lb) (y:=yl.1) (fun v hv=>(I1.yy v hv).1) (y.length + 1) 0 (-1) (Int.le_refl 0) (by rw [c1];omega) (.inl rfl) with ⟨_,_,z⟩|⟨z1,z2,_,z4⟩
  ·exact absurd u3 (z u0 u1 (by rw [c1];exact u2))
  obtain ⟨w,w1,w2,w3,w4⟩:=z4.resolve_left fun h=>h.1 rfl
  have q1:=z2 u0 u1 (by rw [c1];exact u2) u3
  rw [c1] at w2
  rw [O.y u0 ⟨u1,u2⟩,u3,show sg 1 = -1 from rfl] at q1
  rw [O.y w ⟨w1,w2⟩,w3,show sg 1 = -1 from rfl] at w4
  have q2:=h2 w w1 w2 w3
  omega
 have fS:=th' (nd:=nd1) (lb:=lb) (label:=2) (nd.length + 1) N g.n0 Ba'
 have eR : hh' N es ⟨y,nd,lb,ah,bk,n1⟩ = Zd' nd1 lb 2 (nd.length + 1) N:=by
  unfold hh'
  rw [eZ]
 have eF : Hh' N es ⟨y,rn,mts,n,false⟩ lb = Zd' nd1 lb 2 (nd.length + 1) N:=by
  unfold Hh'
  rw [eC]
  show Zd' (cvs rn1) lb 2 (rn.length + 1) N = _
  rw [hr.l]
  exact Vi' hR1 (.inr rfl) _ _ g.n0
 generalize Zd' nd1 lb 2 (nd.length + 1) N = q at fS eR eF
 have hp : 0 < rn.length:=by rw [hr.l];have:=hu0.2;have:=hu0.1;omega
 have OB : q ≠ -1 → _:=fun h =>
  have z:=fS.resolve_left fun z=>h z.1
  Ej' g I1 hR1 hM1 hd hB1 ((Be' z.2.1).1 z.2.2.1) z.1 z.2.2.2.1 n false
 have hUI : hh' N es ⟨y,nd,lb,ah,bk,n1⟩ ≠ -1 → UOk es (Eg' N es ⟨y,nd,lb,ah,bk,n1⟩) (hh' N es ⟨y,nd,lb,ah,bk,n1⟩):=fun h=>by
  rw [eR] at h
  rw [eR,eZ]
  exact (OB h).1
 have hUS : Hh' N es ⟨y,rn,mts,n,false⟩ lb ≠ -1 → Ei' (ji' N es ⟨y,rn,mts,n,false⟩ lb) (Hh' N es ⟨y,rn,mts,n,false⟩ lb):=fun h=>by
  rw [eF] at h
  rw [eF,eC]
  exact (OB h).2.1
 have hw1 : WFn (Eg' N es ⟨y,nd,lb,ah,bk,n1⟩):=by rw [eZ];exact I1.wf
 have ns : ¬Hf' N y nd lb es < 0:=by rw [hdd];omega
 have ns2 : ¬(hf' N es ⟨y,rn,mts,n,false⟩ lb).1 < 0:=by rw [E2];omega
 by_cases c : Y0 = d
 ·have eI : tf' N es ⟨y,nd,lb,ah,bk,n1⟩ = (true,⟨yl.1,nd1,lb,ah,bk,n1⟩):=by
   unfold tf'
   rw [if_neg ns,if_pos (by rw [eY,hy2];omega),eY,eZ]
  have eS : vf' N es ⟨y,rn,mts,n,false⟩ lb = ⟨yl.1,rn1,mts,n,true⟩:=by
   unfold vf'
   rw [if_neg ns2,if_pos (by rw [E2,e2];exact c),eC]
  exact ⟨true,_,_,_,_,_,⟨hw1,hUI,Qa',Qa'⟩,⟨fun _=>hp,fun _=>hUS,eS.symm⟩,I1,hR1,hM1,hd,hB1,hv,fun h=>by cases h⟩
 have att : (∃ e,inR e es.length ∧ topI nd (ud' es e).f0 ≠ topI nd (ud' es e).f1 ∧ ((rd lb (topI nd (ud' es e).f0) = 1 ∧ rd lb (topI nd (ud' es e).f1) = 1 ∧ d = slE y nd (ud' es e) / 2) ∨ ((rd lb (topI nd (ud' es e).f0) = 1 ∧ rd lb (topI nd (ud' es e).f1) = 0 ∨ rd lb (topI nd (ud' es e).f0) = 0 ∧ rd lb (topI nd (ud' es e).f1) = 1) ∧ d = slE y nd (ud' es e)))) ∨ ∃ r,Top nd r ∧ N ≤ r ∧ rd lb r = 2 ∧ 2 * d = (td' nd r).f5:=by
  rcases t3 with h|⟨m,m1,m2,m3,m4,m5⟩
  ·rcases s3 with k|⟨e,e1,e2,e3,e4⟩
   ·omega
   rw [← h] at e4
   exact .inl ⟨e,⟨e1,e2⟩,e3,e4⟩
  exact .inr ⟨m,(Be' ⟨Ba',m2⟩).1 m3,m1,m4,m5⟩
 by_cases z : q = -1
 ·have eI : tf' N es ⟨y,nd,lb,ah,bk,n1⟩ = (false,⟨yl.1,nd1,lb,ah,bk,n1⟩):=by
   unfold tf'
   rw [if_neg ns,if_neg (by rw [eY,hy2];omega),if_pos (by rw [eR];exact z),eY,eZ]
  have eS : vf' N es ⟨y,rn,mts,n,false⟩ lb = ⟨yl.1,rn1,mts,n,false⟩:=by
   unfold vf'
   rw [if_neg ns2,if_neg (by rw [E2,e2];exact c),if_pos (by rw [eF];exact z),eC]
  refine ⟨false,_,_,_,_,_,⟨hw1,hUI,Qa',Qa'⟩,⟨fun _=>hp,fun _=>hUS,eS.symm⟩,I1,hR1,hM1,hd,hB1,hv,fun _=>⟨d,nd1,⟨d0,O,att,.inl ⟨rfl,fun r r1 r2 r3 r4=>?_⟩⟩,I1⟩⟩
  rcases fS with ⟨_,w⟩|⟨w,_⟩
  ·exact w r r1 r2.i.2 ((Be' r2.i).2 r2) r4 (.inr r3)
  have:=g.n0;omega
 have zz:=fS.resolve_left fun w=>z w.1
 obtain ⟨-,-,a,rn2,mts2,b1,b2,b3,b4,b5,b6,b7,b8,b9⟩:=OB z
 have ht:=(Be' zz.2.1).1 zz.2.2.1
 have R:=I1.ring q zz.1 ht.i.2 ht.o
 obtain ⟨hvv,hv2⟩:=I1.hold_v g ht
 obtain ⟨a2,ha2,hh2,hat2⟩:=I1.place ht.i R (I1.vtx hvv.1 hvv.2) hv2 aa'
 have O2:=Bh' (es:=es) ht R ha2 hat2
 have hv2':=Fj' g I1 hR1 hM1 hv hB1 ht zz.1 zz.2.2.2.1 n false
 rw [b1] at hv2'
 have eI : tf' N es ⟨y,nd,lb,ah,bk,n1⟩ = (false,⟨yl.1,Ed' es nd1 q,lb,ah,bk,n1⟩):=by
  unfold tf'
  rw [if_neg ns,if_neg (by rw [eY,hy2];omega),if_neg (by rw [eR];exact z),eY,eZ,eR]
 have eS : vf' N es ⟨y,rn,mts,n,false⟩ lb = ⟨yl.1,rn2,mts2,n,false⟩:=by
  unfold vf'
  rw [if_neg ns2,if_neg (by rw [E2,e2];exact c),if_neg (by rw [eF];exact z),eC,eF]
  exact b1
 exact ⟨false,_,_,_,_,_,⟨hw1,hUI,Qa',Qa'⟩,⟨fun _=>hp,fun _=>hUS,eS.symm⟩,b4,b5,b6,b7,b8,hv2',fun _=>⟨d,nd1,⟨d0,O,att,.inr ⟨q,a2,zz.1,ht,zz.2.2.2.2.resolve_left ba',zz.2.2.2.1,ha2,hh2,O2⟩⟩,I1⟩⟩
end
def cnt (p : Int → Bool) : Nat → Nat
 | 0=>0
 | n + 1=>cnt p n + if p n = true then 1 else 0
theorem Ji' {p q : Int → Bool} : ∀ {n : Nat},(∀ i : Int,0 ≤ i → i < n → p i = true → q i = true) → cnt p n ≤ cnt q n
 | 0,_=>Nat.le_refl _
 | n + 1,h=>by
  have ih:=Ji' (p:=p) (q:=q) (n:=n) fun i h0 h1=>h i h0 aa'
  have hn:=h n aa' aa'
  rw [cnt,cnt]
  by_cases c : p n = true
  ·rw [if_pos c,if_pos (hn c)];omega
  rw [if_neg c];omega
theorem fh' {p q : Int → Bool} {j : Int} : ∀ {n : Nat},(∀ i : Int,0 ≤ i → i < n → p i = true → q i = true) → 0 ≤ j → j < n → q j = true → p j = false → cnt p n < cnt q n
 | 0,_,h0,h1,_,_=>by omega
 | n + 1,h,h0,h1,hq,hp=>by
  have hn:=h n aa' aa'
  rw [cnt,cnt]
  by_cases e : j = n
  ·subst e
   have ih:=Ji' (p:=p) (q:=q) (n:=n) fun i h0 h1=>h i h0 aa'
   rw [if_neg (by rw [hp];decide),if_pos hq]
   omega
  have ih:=fh' (p:=p) (q:=q) (n:=n) (fun i h0 h1=>h i h0 aa') h0 aa' hq hp
  by_cases c : p n = true
  ·rw [if_pos c,if_pos (hn c)];omega
  rw [if_neg c];omega
theorem Xk' {p : Int → Bool} : ∀ {n : Nat},cnt p n ≤ n
 | 0=>Nat.le_refl _
 | n + 1=>by
  have:=Xk' (p:=p) (n:=n)
  rw [cnt]
  split <;> omega
def alv (nd : List S89) (i : Int) : Bool:=!(td' nd i).f6
def Exq (nd : List S89) (v : Int) : Prop:=(td' nd (topI nd v)).f3 = -1 ∧ (td' nd (topI nd v)).f4 = v
section
variable {N most : Int} {es : List S73} {D : Int} {y y' : List Int} {nd nd' nd2 : List S89} {rn rn' : List S77} {mts : List S56} {lb ah bk : List Int} {rk : Int → Nat} {K : Nat} {t : TI} {r a j d : Int}
theorem Yk' (hi : Inv N most es D y nd) {i v : Int} (ht : Top nd i) (h3 : (td' nd i).f3 = -1) (h4 : (td' nd i).f4 = v) : Exq nd v:=by
 subst h4
 have F:=hi.free i ht h3
 have e:=(we' hi.wf ht.i ht.u (hi.vtx F.v.1 F.v.2)).1 F.h
 exact ⟨by rw [e];exact h3,by rw [e]⟩
theorem Xm' (hi : Inv N most es D y nd) (hi' : Inv N most es D y nd') (ht : Top nd r)
  (hf : ∀ i,Top nd' i → (td' nd' i).f3 = -1 → ((Top nd i ∧ i ≠ r ∧ (td' nd i).f3 = -1) ∨ (i = rd (td' nd r).f0 a ∧ (td' nd r).f3 = -1 ∧ (td' nd i).f4 = (td' nd r).f4)) ∧ (td' nd' i).f4 = (td' nd i).f4) {v : Int} (h0 : 0 ≤ v) (h1 : v < N) (h : Exq nd' v) : Exq nd v:=by
 obtain ⟨q,q4⟩:=hf _ (hi'.top_v h0 h1) h.1
 have h2:=h.2
 rw [q4] at h2
 rcases q with ⟨a1,a2,a3⟩|⟨a1,a2,a3⟩
 ·exact Yk' hi a1 a3 h2
 exact Yk' hi ht a2 (a3.symm.trans h2)
theorem Zk' (g : Gph N most es) (lb : List Int) (n : Int) : ∀ (m : Nat) (nd : List S89) (rn : List S77) (mts : List S56),cnt (alv nd) nd.length < m → Inv N most es D y nd → pe' es nd rn → ff' es nd mts → mts.Nodup → ag' nd rn → eh' mts →
  ∃ k ks nd' rn' mts',Oj' N es lb nd.length k nd nd' ∧ ch' N rn.length ks ⟨y,rn,mts,n,false⟩ ⟨y,rn',mts',n,false⟩ ∧ nd'.length = nd.length ∧ Inv N most es D y nd' ∧ pe' es nd' rn' ∧ ff' es nd' mts' ∧ mts'.Nodup ∧ ag' nd' rn' ∧ eh' mts' ∧ ∀ v,0 ≤ v → v < N → Exq nd' v → Exq nd v
 | 0,nd,rn,mts,hc,_,_,_,_,_,_=>absurd hc aa'
 | m + 1,nd,rn,mts,hc,hi,hr,hm,hd,hb,hv=>by
  have fS:=th' (nd:=nd) (lb:=lb) (label:=0) (nd.length + 1) N g.n0 Ba'
  have eF : Zd' (cvs rn) [] 0 (rn.length + 1) N = Zd' nd lb 0 (nd.length + 1) N:=by
   rw [hr.l]
   exact Vi' hr (.inl rfl) _ _ g.n0
  by_cases z : Zd' nd lb 0 (nd.length + 1) N = -1
  ·exact ⟨1,1,nd,rn,mts,.done rfl hi.wf z,.done rfl (hr.wf hi.wf) (eF.trans z),rfl,hi,hr,hm,hd,hb,hv,fun v _ _ h=>h⟩
  have zz:=fS.resolve_left fun w=>z w.1
  obtain ⟨q,hq⟩ : ∃ q,Zd' nd lb 0 (nd.length + 1) N = q:=⟨_,rfl⟩
  rw [hq] at zz z eF
  have ht:=(Be' zz.2.1).1 zz.2.2.1
  obtain ⟨U1,U2,a,rn2,mts2,b1,b2,b3,b4,b5,b6,b7,b8,b9⟩:=Ej' g hi hr hm hd hb ht zz.1 zz.2.2.2.1 n false
  have R:=hi.ring q zz.1 ht.i.2 ht.o
  have hv2:=Fj' g hi hr hm hv hb ht zz.1 zz.2.2.2.1 n false
  rw [b1] at hv2
  have lt : cnt (alv (Ed' es nd q)) (Ed' es nd q).length < m:=by
   rw [b3.l]
   have : cnt (alv (Ed' es nd q)) nd.length < cnt (alv nd) nd.length:=by
    refine fh' (j:=q) (fun i h0 h1 h=>?_) ht.i.1 ht.i.2 ?_ ?_
    ·have hn : inR i nd.length:=⟨h0,h1⟩
     by_cases c : i = q
     ·subst c
      unfold alv at h
      rw [b3.rr] at h
      cases h
     have f:=(b3.f hi ht R b2 hn).2.2.2.2.1 c
     unfold alv at h ⊢
     rw [f] at h
     exact h
    ·unfold alv
     rw [ht.o]
     rfl
    unfold alv
    rw [b3.rr]
    rfl
   omega
  obtain ⟨k,ks,nd3,rn3,mts3,c1,c2,c3,c4,c5,c6,c7,c8,c10,c9⟩:=Zk' g lb n m _ rn2 mts2 lt b4 b5 b6 b7 b8 hv2
  rw [b3.l] at c1 c3
  rw [b5.l,b3.l,← hr.l] at c2
  refine ⟨k + 1,ks + 1,nd3,rn3,mts3,.more rfl hi.wf hq z U1 c1,.more rfl (hr.wf hi.wf) eF z U2 (by rw [b1];exact c2),c3,c4,c5,c6,c7,c8,c10,fun v h0 h1 h=>Xm' hi b4 ht b9 h0 h1 (c9 v h0 h1 h)⟩
end
structure StR (N most : Int) (es : List S73) (D : Int) (y : List Int) (nd : List S89) (rn : List S77) (mts : List S56) : Prop where
 inv : Inv N most es D y nd
 rel : pe' es nd rn
 mrel : ff' es nd mts
 nod : mts.Nodup
 brel : ag' nd rn
 nrev : eh' mts
theorem Wi' {N : Int} {es : List S73} (hE : ∀ i,inR i es.length → xj' N (ud' es i)) : ∀ (k : Nat) (i m : Int),0 ≤ i → (es.length : Int) < i + k → 0 ≤ m → m ≤ 4515050 → m ≤ Xg' es k i m ∧ Xg' es k i m ≤ 4515050 ∧ ∀ j,i ≤ j → j < es.length → scE (ud' es j) ≤ Xg' es k i m
 | 0,i,m,h0,hk,hm,hm2=>⟨Int.le_refl _,hm2,fun j h1 h2=>by omega⟩
 | k + 1,i,m,h0,hk,hm,hm2=>by
  rw [Xg']
  by_cases c : i < (es.length : Int)
  ·rw [if_pos c,np' (hE i ⟨h0,c⟩)]
   have s:=yj' (hE i ⟨h0,c⟩)
   obtain ⟨a1,a2,a3⟩:=Wi' hE k (i + 1) (max m (scE (ud' es i))) aa' aa' aa' aa'
   refine ⟨aa',a2,fun j h1 h2=>?_⟩
   by_cases e : j = i
   ·subst e;omega
   exact a3 j aa' h2
  rw [if_neg c]
  exact ⟨Int.le_refl _,hm2,fun j h1 h2=>by omega⟩
theorem yq' {n : Nat} {i : Int} (hi : inR i n) : td' ((List.range n).map fun (v : Nat)=>Pe' (v : Int)) i = Pe' i:=by
 have h : i.toNat < n:=by have:=hi.1;have:=hi.2;omega
 unfold td'
 rw [List.getD_eq_getElem?_getD,List.getElem?_map,List.getElem?_range h]
 show Pe' ((i.toNat : Nat) : Int) = _
 rw [Int.toNat_of_nonneg hi.1]
theorem zq' {n : Nat} {i : Int} (hi : inR i n) : wd' ((List.range n).map fun (v : Nat)=>Pf' (v : Int)) i = Pf' i:=by
 have h : i.toNat < n:=by have:=hi.1;have:=hi.2;omega
 unfold wd'
 rw [List.getD_eq_getElem?_getD,List.getElem?_map,List.getElem?_range h]
 show Pf' ((i.toNat : Nat) : Int) = _
 rw [Int.toNat_of_nonneg hi.1]
theorem gph_of {N : Int} {es : List S73} (h0 : 0 ≤ N) (h9 : N ≤ 9) (hE : ∀ i,inR i es.length → xj' N (ud' es i)) : Gph N (kg' es) es:=by
 have h:=Wi' hE (es.length + 1) 0 0 (Int.le_refl 0) aa' (Int.le_refl 0) aa'
 exact ⟨h0,h9,⟨h.1,h.2.1⟩,hE⟩
theorem Nn' {N : Int} {es : List S73} (g : Gph N (kg' es) es) : StR N (kg' es) es 0 (List.replicate N.toNat (kg' es)) ((List.range N.toNat).map fun (v : Nat)=>Pe' (v : Int)) ((List.range N.toNat).map fun (v : Nat)=>Pf' (v : Int)) []:=by
 have h0:=g.n0
 have h9:=g.n9
 have hm:=g.m
 have hsc : ∀ e,inR e es.length → scE (ud' es e) ≤ kg' es:=fun e he=>(Wi' g.e (es.length + 1) 0 0 (Int.le_refl 0) aa' (Int.le_refl 0) aa').2.2 e he.1 he.2
 generalize kg' es = most at g hm hsc ⊢
 have hl : ((List.range N.toNat).map fun (v : Nat)=>Pe' (v : Int)).length = N.toNat:=by rw [List.length_map,List.length_range]
 have hR : ∀ {i : Int},inR i ((List.range N.toNat).map fun (v : Nat)=>Pe' (v : Int)).length → td' ((List.range N.toNat).map fun (v : Nat)=>Pe' (v : Int)) i = Pe' i:=fun h=>yq' (by rw [hl] at h;exact h)
 have hS : ∀ {i : Int},inR i ((List.range N.toNat).map fun (v : Nat)=>Pe' (v : Int)).length → wd' ((List.range N.toNat).map fun (v : Nat)=>Pf' (v : Int)) i = Pf' i:=fun h=>zq' (by rw [hl] at h;exact h)
 have hrl : ((List.range N.toNat).map fun (v : Nat)=>Pf' (v : Int)).length = N.toNat:=by rw [List.length_map,List.length_range]
 generalize ((List.range N.toNat).map fun (v : Nat)=>Pe' (v : Int)) = nd at hl hR hS ⊢
 generalize ((List.range N.toNat).map fun (v : Nat)=>Pf' (v : Int)) = rn at hrl hS ⊢
 have hy : (List.replicate N.toNat most).length = N.toNat:=List.length_replicate
 have hw : WFn nd:=fun i hi=>.inl (by rw [hR hi];rfl)
 have hvt : ∀ {i : Int},0 ≤ i → i < N → inR i nd.length:=fun a b=>⟨a,Cb'⟩
 have hlt : ∀ {i : Int},inR i nd.length → i < N:=fun h=>by have:=h.2;rw [hl] at this;omega
 have htop : ∀ {i : Int},inR i nd.length → topI nd i = i:=fun h=>Xe' hw h (by rw [hR h];rfl)
 have hhas : ∀ {i v : Int},inR i nd.length → inR v nd.length → Ad' nd i v = true → v = i:=fun {i v} h k q=>by
  rw [Sd' hw Sa' k] at q
  split at q
  ·assumption
  rw [hR k] at q
  have q2 : Ad' nd i (-1) = true:=q
  rw [ge' i Sa'] at q2
  cases q2
 have hz : ZOk nd:=fun i h=>by rw [hR h];exact ⟨Int.le_refl 0,by show (0 : Int) ≤ 10000000;omega⟩
 have yv : ∀ {v : Int},inR v nd.length → rd (List.replicate N.toNat most) v = most:=fun h=>Om' (by rw [hl] at h;exact h)
 refine ⟨⟨by rw [hy];omega,Cb',Cb',hw,fun i a b=>?_,fun i h k=>?_,fun m h k=>?_,fun i a b=>?_,fun t ht h=>?_,fun t ht h=>?_,fun i h=>?_,fun v h=>?_,⟨Int.le_refl 0,hm.1⟩,fun e he=>?_,fun u v hu hv e=>?_⟩,⟨by rw [hrl,hl],fun i h=>?_⟩,⟨fun l h=>absurd h List.not_mem_nil,fun t ht h=>?_⟩,List.nodup_nil,fun t ht h3 i hn h=>?_,fun l hl=>absurd hl List.not_mem_nil⟩
 ·rw [hR (hvt a b)];exact ⟨rfl,rfl,rfl,rfl⟩
 ·rw [hR h] at k;cases k
 ·rw [hR h] at k;exact absurd rfl k
 ·rw [hl] at b;omega
 ·rw [hR ht.i] at h;exact absurd rfl h
 ·have q:=hR ht.i
  refine ⟨by rw [q];exact ⟨ht.i.1,hlt ht.i⟩,by rw [q];exact pg' hw ht.i,fun i hn h=>?_,by rw [q];show rd _ t = _;rw [yv ht.i];omega⟩
  rw [q] at h ⊢
  rw [hR hn]
  exact (hhas hn ht.i h).symm
 ·rw [hR h];exact ⟨Int.le_refl 0,rfl,Ac'⟩
 ·rw [hy] at h
  rw [yv (by rw [hl];exact h)]
  omega
 ·have x:=g.e e he
  have:=x.a;have:=x.ab;have:=x.b
  unfold slE
  rw [yv (hvt aa' aa'),yv (hvt aa' aa')]
  have:=(ao' hz Cb' (a:=(ud' es e).f0) (b:=(ud' es e).f1)).1
  have:=hsc e he
  omega
 ·rw [hy] at hu hv
  rw [htop (by rw [hl];exact hu),htop (by rw [hl];exact hv)] at e
  rw [e]
 ·rw [hR h,hS h]
  exact ⟨rfl,rfl,fun k hk=>absurd hk.2 (by have:=hk.1;show ¬k < (([] : List Int).length : Int);simp;omega),rfl,rfl,rfl⟩
 ·rw [hR ht.i] at h;exact absurd rfl h
 rw [hR ht.i] at h ⊢
 rw [hS hn]
 exact (hhas hn ht.i h).symm
inductive Prg (N most : Int) (es : List S73) (D D' : Int) (y y' : List Int) (nd nd' : List S89) : Prop
 | fold {lb ah bk : List Int} {rk : Int → Nat} {K : Nat} {mem lk : List Int} {j : Int} (hy : y' = y) (hl : nd'.length = nd.length + 1) (L : Lab es y nd lb ah bk rk K) (T : Th' es y nd mem lk j) (O : De' nd nd' mem lk j) (hj : rd lb j = 1) (hrk : ∀ m ∈ mem,rk j ≤ rk m)
 | aug (hl : nd'.length = nd.length) (h1 : ∀ v,0 ≤ v → v < N → Exq nd' v → Exq nd v) (h2 : ∃ v,(0 ≤ v ∧ v < N) ∧ Exq nd v ∧ ¬Exq nd' v)
 | chg {lb ah bk : List Int} {rk : Int → Nat} {K : Nat} {d : Int} {nd1 : List S89} (L : Lab es y nd lb ah bk rk K) (hno : ∀ i,inR i es.length → ¬mg' y nd lb (ud' es i)) (C : ChgF N es y y' nd nd1 nd' lb d) (I1 : Inv N most es D' y' nd1)
section
variable {N most : Int} {es : List S73} {D : Int} {y y' : List Int} {nd nd' nd2 : List S89} {rn rn' : List S77} {mts : List S56} {lb ah bk : List Int} {rk : Int → Nat} {K : Nat} {t : TI} {r a j d : Int}
theorem Way.rk_le (g : Gph N most es) (hi : Inv N most es D y nd) (L : Lab es y nd lb ah bk rk K) {j : Int} {q : List Int} {n : Int} {l : List Int} (w : Way ah n l) : ∀ {p : List Int},l = p ++ j :: q → inR n nd.length → rd lb n ≠ 0 → ∀ x ∈ p,rk j ≤ rk x:=by
 induction w with
 | last h =>
  intro p e hn hl x hx
  cases p with
  | nil=>cases hx
  | cons x0 p=>have:=congrArg List.length e;simp at this <;> omega
 | @more n l h w ih =>
  intro p e hn hl x hx
  cases p with
  | nil=>cases hx
  | cons x0 p =>
   have e1:=List.cons.inj e
   have q2:=L.ahead g hi hn hl h
   rcases List.mem_cons.1 hx with rfl|hx
   ·rw [← e1.1]
    exact ((Way.more h w).mem g hi L hn hl j (by rw [e];simp)).2.2.1
   exact ih e1.2 q2.1 q2.2.1 x hx
theorem Se'.rel (h : Se' nd nd') (hr : pe' es nd rn) : pe' es nd' rn:=⟨by rw [hr.l,h.l],fun i hn=>by
 rw [h.l] at hn
 obtain ⟨f,e⟩:=h.n i hn
 have X:=hr.n i hn
 rw [e]
 exact ⟨X.mem,X.ll,X.lk,X.zz,X.up,X.op⟩⟩
theorem Se'.brel (hi : Inv N most es D y nd) (h : Se' nd nd') (hf : ∀ i,Top nd i → (td' nd' i).f3 = -1 → (td' nd i).f3 = -1) (hb : ag' nd rn) : ag' nd' rn:=by
 intro i ht h3 k hk hh
 have ht2:=h.top.1 ht
 have h32:=hf i ht2 h3
 have F:=hi.free i ht2 h32
 rw [h.l] at hk
 rw [(h.f ht2.i).2.2.2.1] at hh ⊢
 rw [h.has hi.wf (by have:=hk.1;omega) (hi.vtx F.v.1 F.v.2)] at hh
 exact hb i ht2 h32 k hk hh
theorem Se'.exq (hi : Inv N most es D y nd) (h : Se' nd nd') (hf : ∀ i,Top nd i → (td' nd' i).f3 = -1 → (td' nd i).f3 = -1) {v : Int} (h0 : 0 ≤ v) (h1 : v < N) (q : Exq nd' v) : Exq nd v:=by
 have hv:=hi.vtx h0 h1
 unfold Exq at q
 rw [h.topI hi.wf hv] at q
 have ht:=hi.top_v h0 h1
 rw [(h.f ht.i).2.2.2.1] at q
 exact ⟨hf _ ht q.1,q.2⟩
theorem No' (g : Gph N most es) (St : StR N most es D y nd rn mts) (hsz : nd.length < 100000) (l0 a0 b0 : List Int) (n : Int) (hn : 0 ≤ n ∧ n ≤ 100000) :
  ∃ (bd : Bool) (D' : Int) (y' : List Int) (nd' : List S89) (lb ah bk : List Int) (rn' : List S77) (mts' : List S56),Kk' N es ⟨y,nd,l0,a0,b0,n⟩ bd ⟨y',nd',lb,ah,bk,n + 1⟩ ∧ Im' N es ⟨y,rn,mts,n + 1,false⟩ ⟨y',rn',mts',n + 1,bd⟩ ∧ StR N most es D' y' nd' rn' mts' ∧ (bd = false → Prg N most es D D' y y' nd nd'):=by
 obtain ⟨hi,hr,hm,hd,hb,hv⟩:=St
 have F0:=sp' g hi
 have S0:=tp' g hi hr hm
 have hcl : (Ge' nd).1.count 0 < nd.length + 1:=by
  have:=List.count_le_length (a:=(0 : Int)) (l:=(Ge' nd).1)
  have:=(Mh' nd).1
  omega
 obtain ⟨e,a,c,lb,ah,bk,t,rk,K,G1,G2,L,S,G3⟩:=Wk' g hi hr hm (nd.length + 1) _ _ _ _ _ _ F0 S0 hcl
 have GI : Gd N es ⟨y,nd,l0,a0,b0,n⟩:=⟨hi.wf,hi.eok g,hi.eoy g,hi.yl,hi.nn,by have:=hi.sz;show nd.length ≤ 1000000;omega,by show 0 ≤ n ∧ n ≤ 1000000;omega⟩
 have GS : GdS N es ⟨y,rn,mts,n + 1,false⟩:=⟨hr.wf hi.wf,by show EOk es rn.length;rw [hr.l];exact hi.eok g,hi.eoy g,hi.yl,by show N ≤ rn.length;rw [hr.l];exact hi.nn,by show rn.length ≤ 1000000;rw [hr.l];have:=hi.sz;omega,by show ∀ x ∈ mts,inR x.f0 rn.length ∧ inR x.f1 rn.length;rw [hr.l];exact hm.in g hi.nn,by have:=hm.len g hd;show mts.length ≤ 1000;omega⟩
 rcases G3 with ⟨rfl,hno⟩|⟨he,hg,la,lc,ea,ec⟩
 ·obtain ⟨bd,D',y',nd',rn',mts',c1,c2,c3,c4,c5,c6,c7,c9,c8⟩:=Mn' g hi hr hm hd hb hv L S (n + 1) (n + 1)
  exact ⟨bd,D',y',nd',lb,ah,bk,rn',mts',⟨GI,nd.length + 1,-1,a,c,lb,ah,bk,G1,.inl ⟨rfl,c1⟩⟩,⟨GS,nd.length + 1,t,-1,G2,.inl ⟨aa',by rw [S.tl];exact c2⟩⟩,⟨c3,c4,c5,c6,c7,c9⟩,fun h=>by
   obtain ⟨d,nd1,C,I1⟩:=c8 h
   exact .chg L hno C I1⟩
 have hin:=hi.edge g he
 have hain : inR a nd.length:=by rw [ea];exact Nd' hi.wf hin.1
 have hcin : inR c nd.length:=by rw [ec];exact Nd' hi.wf hin.2
 have la0 : rd lb a ≠ 0:=by rw [la];decide
 have lc0 : rd lb c ≠ 0:=by rw [lc];decide
 have hac : a ≠ c:=fun z=>hg.1 (ea.symm.trans (z.trans ec))
 obtain ⟨ws,wa⟩:=Rm' g hi L (rk a + 1) a aa' hain la0
 obtain ⟨us,wc⟩:=Rm' g hi L (rk c + 1) c aa' hcin lc0
 have lw:=wa.len g hi L hain la0
 have lu:=wc.len g hi L hcin lc0
 have r1:=wa.rootF g hi L S hain la0 10 aa'
 have r2:=wc.rootF g hi L S hcin lc0 10 aa'
 have t1 : topI (cvs rn) (ud' es e).f0 = a:=(hr.top hi.wf hin.1).trans ea.symm
 have t2 : topI (cvs rn) (ud' es e).f1 = c:=(hr.top hi.wf hin.2).trans ec.symm
 by_cases hrt : rd t.rt a = rd t.rt c
 ·obtain ⟨mem,lk,j,i,k,nd',f1,f2,⟨kk,lkS,kw,rn',mts',f3,f4,f5,f6,f7⟩,f8,f9,f10,f11,p,q,p',q',e1,e2,e3⟩:=Bp' g hi hr hm hd hb L S he hg.2.1 ea.symm ec.symm hac la lc wa wc hrt hsz (n + 1) (n + 1) false
  have hv2 : eh' mts':=by
   have:=congrArg RI.mt f3.e
   have e : mts' = Zf' (cvs rn) mem mts:=this
   rw [e];exact Fp' hv
  refine ⟨false,D,y,nd',lb,ah,bk,rn',mts',⟨GI,nd.length + 1,e,a,c,lb,ah,bk,G1,.inr ⟨he,10,_,_,r1,r2,rfl,.inl ⟨hrt,a,c,ws,us,mem,lk,i,k,.inl ⟨ea.symm,rfl,rfl⟩,f1,f2.symm⟩⟩⟩,⟨GS,nd.length + 1,t,e,G2,.inr ⟨he,.inl ⟨by show rd t.rt (topI (cvs rn) _) = rd t.rt (topI (cvs rn) _);rw [t1,t2];exact hrt,ws,us,i,kk,mem,lkS,kw,f3⟩⟩⟩,⟨f8,f4,f5,f6,f7,hv2⟩,fun _=>.fold rfl f10.l L f9 f10 f11 fun m hm2=>?_⟩
  rw [e3,List.mem_cons,List.mem_append,List.mem_reverse] at hm2
  rcases hm2 with rfl|h|h
  ·exact Nat.le_refl _
  ·exact wa.rk_le g hi L e1 hain la0 m h
  exact wc.rk_le g hi L e2 hcin lc0 m h
 obtain ⟨nd1,nd2,f1,f2,f3,f4,f5,f6,f7,r,rt1,rt2,rt3⟩:=flips g hi hr hm hd L S he hg.2.1 ea.symm ec.symm la lc wa wc hrt (k:=10) aa' aa'
 have hr2:=f3.rel hr
 have hb2:=f3.brel hi f7 hb
 have hv2:=Mo' g hi hr hm hv L S he ea.symm ec.symm la lc wa wc hrt
 obtain ⟨k,ks,nd3,rn3,mts3,o1,o2,o3,o4,o5,o6,o7,o8,o10,o9⟩:=Zk' g lb (n + 1) (cnt (alv nd2) nd2.length + 1) nd2 rn _ (Nat.lt_succ_self _) f4 hr2 f5 f6 hb2 hv2
 rw [f3.l] at o1 o3
 have Fr:=hi.free r rt1 rt2
 have rv : topI nd (td' nd r).f4 = r:=(we' hi.wf rt1.i rt1.u (hi.vtx Fr.v.1 Fr.v.2)).1 Fr.h
 have h0 : 0 < nd.length:=by have:=hain.1;have:=hain.2;omega
 refine ⟨false,D,y,nd3,lb,ah,bk,rn3,mts3,⟨GI,nd.length + 1,e,a,c,lb,ah,bk,G1,.inr ⟨he,10,_,_,r1,r2,rfl,.inr ⟨hrt,nd1,nd2,nd3,10,k,⟨h0,f1,f2,o1⟩,rfl⟩⟩⟩,⟨GS,nd.length + 1,t,e,G2,.inr ⟨he,.inr ⟨by show rd t.rt (topI (cvs rn) _) ≠ rd t.rt (topI (cvs rn) _);rw [t1,t2];exact hrt,ws,us,10,ks,⟨aa',?_,?_,aa',aa',fun m hm2=>?_,fun m hm2=>?_,?_⟩⟩⟩⟩,⟨o4,o5,o6,o7,o8,o10⟩,fun _=>.aug o3 (fun v v0 v1 h=>f3.exq hi f7 v0 v1 (o9 v v0 v1 h)) ⟨(td' nd r).f4,Fr.v,⟨by rw [rv];exact rt2,by rw [rv]⟩,fun h=>?_⟩⟩
 ·show wayS (cvs rn) t.ah t.rt 10 (topI (cvs rn) _) = _
  rw [t1]
  exact wa.wayS' g hi hr L S hain la0 10 aa'
 ·show wayS (cvs rn) t.ah t.rt 10 (topI (cvs rn) _) = _
  rw [t2]
  exact wc.wayS' g hi hr L S hcin lc0 10 aa'
 ·have:=(wa.mem g hi L hain la0 m hm2).1
  rw [S.tl,L.ll,S.la]
  exact ⟨this,this⟩
 ·have:=(wc.mem g hi L hcin lc0 m hm2).1
  rw [S.tl,L.ll,S.la]
  exact ⟨this,this⟩
 ·show ch' N rn.length ks ⟨y,rn,_,n + 1,false⟩ _
  rw [S.tl]
  exact o2
 have q:=o9 _ Fr.v.1 Fr.v.2 h
 have q1:=q.1
 rw [f3.topI hi.wf (hi.vtx Fr.v.1 Fr.v.2),rv] at q1
 exact rt3 q1
end
def Exit (nd : List S89) (es : List S73) (c : Int → Int) (i : Int) : Prop:=(td' nd i).f3 = -1 ∨ c (mt nd es i) ≠ c i
structure Hung (es : List S73) (y : List Int) (nd : List S89) (c L : Int → Int) : Prop where
 free : ∀ i,Top nd i → (td' nd i).f3 = -1 → L (c i) = 1
 tgt : ∀ e a b,Tgt es y nd e a b → c a ≠ c b → L (c a) = 1 → L (c b) = 2
 mate : ∀ i,Top nd i → (td' nd i).f3 ≠ -1 → c i ≠ c (mt nd es i) → L (c i) = 2 → L (c (mt nd es i)) = 1
 uniq : ∀ a b,Top nd a → Top nd b → c a = c b → Exit nd es c a → Exit nd es c b → a = b
 big : ∀ a b,Top nd a → Top nd b → a ≠ b → c a = c b → L (c a) = 1
structure Frst (es : List S73) (y : List Int) (nd : List S89) (lb : Int → Int) (rk : Int → Nat) : Prop where
 ev : ∀ i,Top nd i → lb i = 1 → (td' nd i).f3 = -1 ∨ ((td' nd i).f3 ≠ -1 ∧ lb (mt nd es i) = 2 ∧ rk (mt nd es i) < rk i)
 od : ∀ i,Top nd i → lb i = 2 → ∃ p e,Top nd p ∧ lb p = 1 ∧ rk p < rk i ∧ Tgt es y nd e p i
section
variable {N most : Int} {es : List S73} {D : Int} {y y' : List Int} {nd nd' nd2 : List S89} {rn rn' : List S77} {mts : List S56} {lb ah bk : List Int} {rk : Int → Nat} {K : Nat} {t : TI} {r a j d : Int} {c L lf : Int → Int}
theorem gf'.is_mt {e a b : Int} (p : gf' es y nd nd e a b) : mt nd es a = b:=by
 unfold QFnExactSolve.mt ze'
 rw [p.a]
 rcases p.j with ⟨x,z⟩|⟨x,z⟩
 ·rw [if_pos x,z]
 rw [if_neg (by rw [x];exact p.ne.symm),x]
theorem Yl' (g : Gph N most es) (hi : Inv N most es D y nd) (F : Frst es y nd lf rk) (H : Hung es y nd c L) {k : Nat} (ih : ∀ i,rk i < k → Top nd i → lf i = 1 → L (c i) = 1) : ∀ (q : Nat) (A : Int),rk A < q → q ≤ k → Top nd A → lf A = 1 → ∃ B,Top nd B ∧ lf B = 1 ∧ c B = c A ∧ Exit nd es c B
 | 0,A,hq,_,_,_=>absurd hq aa'
 | q + 1,A,hq,hk,tA,lA=>by
  rcases F.ev A tA lA with h|⟨h1,h2,h3⟩
  ·exact ⟨A,tA,lA,rfl,.inl h⟩
  by_cases e0 : c (mt nd es A) = c A
  ·have M:=hi.mt_ok g tA h1
   obtain ⟨p,e,p1,p2,p3,p4⟩:=F.od _ M.1 h2
   by_cases e1 : c p = c (mt nd es A)
   ·obtain ⟨B,b1,b2,b3,b4⟩:=Yl' g hi F H ih q p aa' aa' p1 p2
    exact ⟨B,b1,b2,b3.trans (e1.trans e0),b4⟩
   have:=H.tgt e p _ p4 e1 (ih p aa' p1 p2)
   rw [e0,ih A aa' tA lA] at this
   omega
  exact ⟨A,tA,lA,rfl,.inr e0⟩
theorem vi' (g : Gph N most es) (hi : Inv N most es D y nd) (F : Frst es y nd lf rk) (H : Hung es y nd c L) : ∀ (k : Nat) (i : Int),rk i < k → Top nd i → lf i = 1 → L (c i) = 1
 | 0,i,hk,_,_=>absurd hk aa'
 | k + 1,i,hk,ti,li=>by
  have ih:=vi' g hi F H k
  rcases F.ev i ti li with h|⟨h1,h2,h3⟩
  ·exact H.free i ti h
  have M:=hi.mt_ok g ti h1
  obtain ⟨p,e,p1,p2,p3,p4⟩:=F.od _ M.1 h2
  have lp:=ih p aa' p1 p2
  by_cases e1 : c p = c (mt nd es i)
  ·by_cases e2 : c i = c (mt nd es i)
   ·rw [e2,← e1];exact lp
   exfalso
   obtain ⟨B,b1,b2,b3,b4⟩:=Yl' g hi F H ih k p aa' (Nat.le_refl _) p1 p2
   have:=H.uniq B (mt nd es i) b1 M.1 (b3.trans e1) b4 (.inr (by rw [M.2.2.2];exact e2))
   rw [this,h2] at b2
   omega
  have l2:=H.tgt e p _ p4 e1 lp
  by_cases e2 : c (mt nd es i) = c i
  ·have:=H.big _ i M.1 ti M.2.1 e2
   omega
  have:=H.mate _ M.1 (by rw [M.2.2.1];exact h1) (by rw [M.2.2.2];exact e2) l2
  rw [M.2.2.2] at this
  exact this
theorem Lab.frst (g : Gph N most es) (hi : Inv N most es D y nd) (L0 : Lab es y nd lb ah bk rk K) : Frst es y nd (rd lb) rk:=by
 refine ⟨fun i ti h=>?_,fun i ti h=>?_⟩
 ·rcases L0.ev i ti.i h with ⟨z,_⟩|⟨z1,z2,z3,z4,z5⟩
  ·exact .inl z
  exact .inr ⟨z1,z3,z5⟩
 have O:=L0.od i ti.i h
 exact ⟨rd ah i,rd bk i,L0.top _ O.1 (by rw [O.2.1];decide),O.2.1,O.2.2.1,O.2.2.2.1,O.2.2.2.2.1,O.2.2.2.2.2.1⟩
theorem Lab.hung (g : Gph N most es) (hi : Inv N most es D y nd) (L0 : Lab es y nd lb ah bk rk K) (hno : ∀ i,inR i es.length → ¬mg' y nd lb (ud' es i)) : Hung es y nd (fun i=>i) (rd lb):=by
 refine ⟨fun i ti h=>L0.free i ti h,fun e a b h hab ha=>?_,fun i ti h _ h2=>(L0.od i ti.i h2).2.2.2.2.2.2.2,fun a b _ _ h _ _=>h,fun a b _ _ h1 h2=>absurd h2 h1⟩
 have e0:=hi.edge g h.1
 have d0:=L0.dom _ (Nd' hi.wf e0.1)
 have d1:=L0.dom _ (Nd' hi.wf e0.2)
 have ha : rd lb a = 1:=ha
 show rd lb b = 2
 apply Decidable.byContradiction
 intro hb
 have hab : a ≠ b:=hab
 rcases h.2.2 with ⟨x,z⟩|⟨x,z⟩
 ·exact hno e h.1 ⟨by rw [x,z];exact hab,h.2.1,.inl (by rw [x];exact ha),by rw [x];omega,by rw [z];exact hb⟩
 exact hno e h.1 ⟨by rw [x,z];exact hab.symm,h.2.1,.inr (by rw [z];exact ha),by rw [x];exact hb,by rw [z];omega⟩
end
def Gg' (nd : List S89) (c L : Int → Int) (i : Int) : Bool:=alv nd i && !decide (L (c (topI nd i)) = 1)
def GInv (es : List S73) (y : List Int) (nd : List S89) (B : Nat) : Prop:=∀ c L : Int → Int,Hung es y nd c L → cnt (Gg' nd c L) nd.length < B
section
variable {N most : Int} {es : List S73} {D : Int} {y y' : List Int} {nd nd' nd2 : List S89} {rn rn' : List S77} {mts : List S56} {lb ah bk : List Int} {rk : Int → Nat} {K : Nat} {t : TI} {r a j d : Int} {c L lf : Int → Int} {mem lk : List Int}
theorem De'.mt_i (g : Gph N most es) (hi : Inv N most es D y nd) (T : Th' es y nd mem lk j) (O : De' nd nd' mem lk j) {i : Int} (ti : Top nd i) (hc : i ∉ mem) (hm : (td' nd i).f3 ≠ -1) : mt nd' es i = if mt nd es i ∈ mem then (nd.length : Int) else mt nd es i:=by
 have p:=hi.pair g ti hm
 have e:=hi.edge g p.ei
 have q:=hi.mt_ok g ti hm
 have e1 : mt nd' es i = ze' nd' es (td' nd i).f3 i:=by
  show ze' nd' es (td' nd' i).f3 i = _
  rw [O.o i ti.i hc]
 rw [e1]
 unfold ze'
 rw [O.top g hi T _ e.1,O.top g hi T _ e.2]
 rcases p.j with ⟨x,z⟩|⟨x,z⟩ <;> rw [x,z]
 ·rw [if_neg hc,if_pos rfl]
 by_cases f : mt nd es i ∈ mem
 ·rw [if_pos f,if_neg hc,if_neg (by have:=ti.i.2;omega)]
 rw [if_neg f,if_neg hc,if_neg q.2.1]
theorem De'.tgt (g : Gph N most es) (hi : Inv N most es D y nd) (T : Th' es y nd mem lk j) (O : De' nd nd' mem lk j) {e a b : Int} (h : Tgt es y nd e a b) : Tgt es y nd' e (if a ∈ mem then (nd.length : Int) else a) (if b ∈ mem then (nd.length : Int) else b):=by
 have e0:=hi.edge g h.1
 refine ⟨h.1,by rw [O.sl g hi T e0.1 e0.2];exact h.2.1,?_⟩
 rw [O.top g hi T _ e0.1,O.top g hi T _ e0.2]
 rcases h.2.2 with ⟨x,z⟩|⟨x,z⟩ <;> rw [x,z]
 ·exact .inl ⟨rfl,rfl⟩
 exact .inr ⟨rfl,rfl⟩
theorem Jp' (g : Gph N most es) (hi : Inv N most es D y nd) (hi' : Inv N most es D y nd') (L0 : Lab es y nd lb ah bk rk K) (T : Th' es y nd mem lk j) (O : De' nd nd' mem lk j) (hj : rd lb j = 1) (hrk : ∀ m ∈ mem,rk j ≤ rk m) (H : Hung es y nd' c L) :
  L (c nd.length) = 1 ∧ Hung es y nd (fun i=>c (if i ∈ mem then (nd.length : Int) else i)) L:=by
 have tn : Top nd' nd.length:=(O.tops g hi T).2 (.inl rfl)
 have tj:=T.tops j T.jm
 have out : ∀ {i : Int},rk i < rk j → i ∉ mem:=fun h z=>by have:=hrk _ z;omega
 have ne : ∀ {i : Int},inR i nd.length → i ≠ nd.length:=fun h=>by have:=h.2;omega
 have F : Frst es y nd' (fun i=>if i = nd.length then 1 else if rk i < rk j then rd lb i else 0) (fun i=>if i = nd.length then rk j else rk i):=by
  refine ⟨fun i ti h=>?_,fun i ti h=>?_⟩
  ·rcases (O.tops g hi T).1 ti with rfl|⟨t2,hc⟩
   ·have e3 : (td' nd' nd.length).f3 = (td' nd j).f3:=by rw [O.n]
    rw [e3]
    by_cases f : (td' nd j).f3 = -1
    ·exact .inl f
    have P:=(O.pair_n g hi T f).2.is_mt
    have M:=hi.mt_ok g tj f
    rcases L0.ev j tj.i hj with ⟨z,_⟩|⟨_,_,z3,_,z5⟩
    ·exact absurd z f
    refine .inr ⟨f,?_,?_⟩
    ·rw [P]
     show (if mt nd es j = nd.length then (1 : Int) else if rk (mt nd es j) < rk j then rd lb (mt nd es j) else 0) = 2
     rw [if_neg (ne M.1.i),if_pos z5]
     exact z3
    rw [P]
    show (if mt nd es j = nd.length then rk j else rk (mt nd es j)) < (if (nd.length : Int) = nd.length then rk j else rk nd.length)
    rw [if_neg (ne M.1.i),if_pos rfl]
    exact z5
   have h : (if i = nd.length then (1 : Int) else if rk i < rk j then rd lb i else 0) = 1:=h
   rw [if_neg (ne t2.i)] at h
   by_cases q : rk i < rk j
   ·rw [if_pos q] at h
    rw [O.o i t2.i hc]
    rcases L0.ev i t2.i h with ⟨z,_⟩|⟨z1,_,z3,_,z5⟩
    ·exact .inl z
    have M:=hi.mt_ok g t2 z1
    have P:=O.mt_i g hi T t2 hc z1
    rw [if_neg (out aa')] at P
    refine .inr ⟨z1,?_,?_⟩
    ·rw [P]
     show (if mt nd es i = nd.length then (1 : Int) else if rk (mt nd es i) < rk j then rd lb (mt nd es i) else 0) = 2
     rw [if_neg (ne M.1.i),if_pos aa']
     exact z3
    rw [P]
    show (if mt nd es i = nd.length then rk j else rk (mt nd es i)) < (if i = nd.length then rk j else rk i)
    rw [if_neg (ne M.1.i),if_neg (ne t2.i)]
    exact z5
   rw [if_neg q] at h
   omega
  have h : (if i = nd.length then (1 : Int) else if rk i < rk j then rd lb i else 0) = 2:=h
  rcases (O.tops g hi T).1 ti with rfl|⟨t2,hc⟩
  ·rw [if_pos rfl] at h
   omega
  rw [if_neg (ne t2.i)] at h
  by_cases q : rk i < rk j
  ·rw [if_pos q] at h
   have Q:=L0.od i t2.i h
   have hp : rd ah i ∉ mem:=out aa'
   have tp:=L0.top _ Q.1 (by rw [Q.2.1];decide)
   have tg:=O.tgt g hi T (e:=rd bk i) (a:=rd ah i) (b:=i) ⟨Q.2.2.2.1,Q.2.2.2.2.1,Q.2.2.2.2.2.1⟩
   rw [if_neg hp,if_neg hc] at tg
   refine ⟨rd ah i,rd bk i,(O.tops g hi T).2 (.inr ⟨tp,hp⟩),?_,?_,tg⟩
   ·show (if rd ah i = nd.length then (1 : Int) else if rk (rd ah i) < rk j then rd lb (rd ah i) else 0) = 1
    rw [if_neg (ne Q.1),if_pos aa']
    exact Q.2.1
   show (if rd ah i = nd.length then rk j else rk (rd ah i)) < (if i = nd.length then rk j else rk i)
   rw [if_neg (ne Q.1),if_neg (ne t2.i)]
   exact Q.2.2.1
  rw [if_neg q] at h
  omega
 have hn1 : L (c nd.length) = 1:=vi' g hi' F H _ nd.length (Nat.lt_succ_self _) tn (if_pos rfl)
 have f3o : ∀ {i : Int},Top nd i → i ∉ mem → (td' nd' i).f3 = (td' nd i).f3:=fun ti h=>by rw [O.o _ ti.i h]
 have hex : ∀ {i : Int},Top nd i → Exit nd es (fun i=>c (if i ∈ mem then (nd.length : Int) else i)) i → Top nd' (if i ∈ mem then (nd.length : Int) else i) ∧ Exit nd' es c (if i ∈ mem then (nd.length : Int) else i) ∧ (i ∈ mem → i = j):=fun {i} ti h=>by
  by_cases hc : i ∈ mem
  ·have eij : i = j:=by
    apply Decidable.byContradiction
    intro z
    have M:=T.mt i hc z
    rcases h with h|h
    ·exact M.1 h
    apply h
    show c (if mt nd es i ∈ mem then (nd.length : Int) else mt nd es i) = c (if i ∈ mem then (nd.length : Int) else i)
    rw [if_pos M.2.1,if_pos hc]
   subst eij
   rw [if_pos hc]
   refine ⟨tn,?_,fun _=>rfl⟩
   have e3 : (td' nd' nd.length).f3 = (td' nd i).f3:=by rw [O.n]
   by_cases f : (td' nd i).f3 = -1
   ·exact .inl (e3.trans f)
   obtain ⟨P1,P2⟩:=O.pair_n g hi T f
   rcases h with h|h
   ·exact absurd h f
   refine .inr ?_
   rw [P2.is_mt]
   intro z
   apply h
   show c (if mt nd es i ∈ mem then (nd.length : Int) else mt nd es i) = c (if i ∈ mem then (nd.length : Int) else i)
   rw [if_neg P1,if_pos hc]
   exact z
  rw [if_neg hc]
  refine ⟨(O.tops g hi T).2 (.inr ⟨ti,hc⟩),?_,fun z=>absurd z hc⟩
  by_cases f : (td' nd i).f3 = -1
  ·exact .inl ((f3o ti hc).trans f)
  rcases h with h|h
  ·exact absurd h f
  refine .inr ?_
  rw [O.mt_i g hi T ti hc f]
  intro z
  apply h
  show c (if mt nd es i ∈ mem then (nd.length : Int) else mt nd es i) = c (if i ∈ mem then (nd.length : Int) else i)
  rw [if_neg hc]
  exact z
 refine ⟨hn1,fun i ti h=>?_,fun e a b h hab ha=>H.tgt e _ _ (O.tgt g hi T h) hab ha,fun i ti h h1 h2=>?_,fun a b ta tb hab ha hb=>?_,fun a b ta tb hab he=>?_⟩
 ·show L (c (if i ∈ mem then (nd.length : Int) else i)) = 1
  by_cases hc : i ∈ mem
  ·rw [if_pos hc];exact hn1
  rw [if_neg hc]
  exact H.free i ((O.tops g hi T).2 (.inr ⟨ti,hc⟩)) ((f3o ti hc).trans h)
 ·have h2 : L (c (if i ∈ mem then (nd.length : Int) else i)) = 2:=h2
  have h1 : c (if i ∈ mem then (nd.length : Int) else i) ≠ c (if mt nd es i ∈ mem then (nd.length : Int) else mt nd es i):=h1
  show L (c (if mt nd es i ∈ mem then (nd.length : Int) else mt nd es i)) = 1
  by_cases hc : i ∈ mem
  ·rw [if_pos hc,hn1] at h2
   omega
  rw [if_neg hc] at h1 h2
  rw [← O.mt_i g hi T ti hc h] at h1 ⊢
  exact H.mate i ((O.tops g hi T).2 (.inr ⟨ti,hc⟩)) (by rw [f3o ti hc];exact h) h1 h2
 ·obtain ⟨a1,a2,a3⟩:=hex ta ha
  obtain ⟨b1,b2,b3⟩:=hex tb hb
  have e:=H.uniq _ _ a1 b1 hab a2 b2
  by_cases p : a ∈ mem <;> by_cases q : b ∈ mem
  ·rw [a3 p,b3 q]
  ·rw [if_pos p,if_neg q] at e
   exact absurd e.symm (ne tb.i)
  ·rw [if_neg p,if_pos q] at e
   exact absurd e (ne ta.i)
  rw [if_neg p,if_neg q] at e
  exact e
 have he : c (if a ∈ mem then (nd.length : Int) else a) = c (if b ∈ mem then (nd.length : Int) else b):=he
 show L (c (if a ∈ mem then (nd.length : Int) else a)) = 1
 by_cases p : a ∈ mem
 ·rw [if_pos p];exact hn1
 by_cases q : b ∈ mem
 ·rw [he,if_pos q];exact hn1
 rw [if_neg p,if_neg q] at he
 rw [if_neg p]
 exact H.big a b ((O.tops g hi T).2 (.inr ⟨ta,p⟩)) ((O.tops g hi T).2 (.inr ⟨tb,q⟩)) hab he
theorem Kp' (g : Gph N most es) (hi : Inv N most es D y nd) (hi' : Inv N most es D y nd') (L0 : Lab es y nd lb ah bk rk K) (T : Th' es y nd mem lk j) (O : De' nd nd' mem lk j) (hj : rd lb j = 1) (hrk : ∀ m ∈ mem,rk j ≤ rk m) {B : Nat} (G : GInv es y nd B) : GInv es y nd' B:=by
 intro c L H
 obtain ⟨hn1,H0⟩:=Jp' g hi hi' L0 T O hj hrk H
 have h:=G _ L H0
 have tn : Top nd' nd.length:=(O.tops g hi T).2 (.inl rfl)
 rw [O.l,cnt]
 have en : Gg' nd' c L nd.length = false:=by
  unfold Gg'
  rw [tn.self (O.wf g hi T),hn1]
  simp
 rw [en,if_neg ba',Nat.add_zero]
 refine Nat.lt_of_le_of_lt (Ji' fun i h0 h1 q=>?_) h
 have hn : inR i nd.length:=⟨h0,h1⟩
 unfold Gg' alv at q ⊢
 rw [(O.f g hi T hn).2.2.2.2.1,O.top g hi T i hn] at q
 exact q
end
def Hg' (k0 k : Int) : Int:=if k0 % 2 = 1 then (if k = 0 then 2 else if k0 ≤ k then (if k % 2 = 1 then 2 else 1) else 0) else (if k ≤ k0 then (if k % 2 = 0 then 2 else 1) else 0)
def offK (L k0 k : Int) : Nat:=(if k0 % 2 = 1 then (if k = 0 then L - k0 else k - k0) else k0 - k).toNat
theorem Aq' {k0 k : Int} (h : Hg' k0 k = 1) : (k0 % 2 = 1 ∧ k ≠ 0 ∧ k0 ≤ k ∧ k % 2 = 0) ∨ (k0 % 2 ≠ 1 ∧ k ≤ k0 ∧ k % 2 ≠ 0):=by
 unfold Hg' at h
 split at h
 ·split at h
  ·omega
  split at h
  ·split at h <;> omega
  omega
 split at h
 ·split at h <;> omega
 omega
theorem Bq' {k0 k : Int} (h : Hg' k0 k = 2) : (k0 % 2 = 1 ∧ k = 0) ∨ (k0 % 2 = 1 ∧ k ≠ 0 ∧ k0 ≤ k ∧ k % 2 = 1) ∨ (k0 % 2 ≠ 1 ∧ k ≤ k0 ∧ k % 2 = 0):=by
 unfold Hg' at h
 split at h
 ·split at h
  ·omega
  split at h
  ·split at h <;> omega
  omega
 split at h
 ·split at h <;> omega
 omega
theorem labK_o2 {k0 k : Int} (h0 : k0 % 2 = 1) (h1 : k ≠ 0) (h2 : k0 ≤ k) (h3 : k % 2 = 1) : Hg' k0 k = 2:=by unfold Hg';rw [if_pos h0,if_neg h1,if_pos h2,if_pos h3]
theorem labK_o1 {k0 k : Int} (h0 : k0 % 2 = 1) (h1 : k ≠ 0) (h2 : k0 ≤ k) (h3 : k % 2 ≠ 1) : Hg' k0 k = 1:=by unfold Hg';rw [if_pos h0,if_neg h1,if_pos h2,if_neg h3]
theorem ko' {k0 k : Int} (h0 : k0 % 2 ≠ 1) (h2 : k ≤ k0) (h3 : k % 2 = 0) : Hg' k0 k = 2:=by unfold Hg';rw [if_neg h0,if_pos h2,if_pos h3]
theorem labK_e1 {k0 k : Int} (h0 : k0 % 2 ≠ 1) (h2 : k ≤ k0) (h3 : k % 2 ≠ 0) : Hg' k0 k = 1:=by unfold Hg';rw [if_neg h0,if_pos h2,if_neg h3]
theorem labK_z {k0 : Int} (h : 0 ≤ k0) : Hg' k0 0 = 2:=by
 by_cases c : k0 % 2 = 1
 ·unfold Hg'
  rw [if_pos c,if_pos rfl]
 exact ko' c h ba'
theorem Gj' {L k0 k : Int} (h0 : k0 % 2 = 1) (h1 : k ≠ 0) : offK L k0 k = (k - k0).toNat:=by unfold offK;rw [if_pos h0,if_neg h1]
theorem offK_z {L k0 : Int} (h0 : k0 % 2 = 1) : offK L k0 0 = (L - k0).toNat:=by unfold offK;rw [if_pos h0,if_pos rfl]
theorem al' {L k0 k : Int} (h0 : k0 % 2 ≠ 1) : offK L k0 k = (k0 - k).toNat:=by unfold offK;rw [if_neg h0]
theorem offK_le {L k0 k : Int} (hk : 0 ≤ k) (h2 : k < L) (h3 : 0 ≤ k0) (h4 : k0 < L) : (offK L k0 k : Int) ≤ L:=by
 unfold offK
 split
 ·split <;> omega
 omega
theorem pos_ex {L : Nat} {m : Int → Int} (inj : ∀ i j,inR i L → inR j L → m i = m j → i = j) : ∃ pos : Int → Int,∀ k,inR k L → pos (m k) = k:=by
 refine ⟨fun x=>@dite _ (∃ k,inR k L ∧ m k = x) (Classical.propDecidable _) (fun h=>Classical.choose h) (fun _=>0),fun k hk=>?_⟩
 have h : ∃ q,inR q L ∧ m q = m k:=⟨k,hk,rfl⟩
 show @dite _ (∃ q,inR q L ∧ m q = m k) (Classical.propDecidable _) (fun h=>Classical.choose h) (fun _=>0) = k
 rw [dif_pos h]
 have s:=Classical.choose_spec h
 exact inj _ _ s.1 hk s.2
section
variable {N most : Int} {es : List S73} {D : Int} {y y' : List Int} {nd nd' nd2 : List S89} {rn rn' : List S77} {mts : List S56} {lb ah bk : List Int} {rk : Int → Nat} {K : Nat} {t : TI} {r a j d : Int} {c L lf : Int → Int} {mem lk : List Int}
def mb (nd : List S89) (r a k : Int) : Int:=rd (td' nd r).f0 ((a + k) % (td' nd r).f0.length)
section
variable (g : Gph N most es) (hi : Inv N most es D y nd) (ht : Top nd r) (hN : N ≤ r) (hz : (td' nd r).f5 = 0) (R : Mg' es y nd r) (ha : inR a (td' nd r).f0.length) (hh : Ad' nd (rd (td' nd r).f0 a) (ue' nd es r) = true) (O : se' nd nd' r a)
include g hi ht hN hz R ha hh O
theorem se'.lnk {k : Int} (hk : 0 ≤ k) : ∃ e,Tgt es y nd' e (mb nd r a k) (mb nd r a (k + 1)):=by
 have hL : (0 : Int) < (td' nd r).f0.length:=by have:=R.three;omega
 obtain ⟨k1,k2,k3⟩:=R.lnk ((a + k) % (td' nd r).f0.length) (Le' hL)
 rw [Int.emod_add_emod,show a + k + 1 = a + (k + 1) by omega] at k3
 have e0:=hi.edge g k1
 have m1:=(R.at_in (a:=a) (i:=k)).2
 have m2:=(R.at_in (a:=a) (i:=k + 1)).2
 refine ⟨_,k1,by rw [O.sl hi ht R ha hz e0.1 e0.2];exact k2,?_⟩
 rcases k3 with ⟨x,z⟩|⟨x,z⟩
 ·exact .inl ⟨O.top_m hi ht R ha e0.1 m1 x,O.top_m hi ht R ha e0.2 m2 z⟩
 exact .inr ⟨O.top_m hi ht R ha e0.1 m2 z,O.top_m hi ht R ha e0.2 m1 x⟩
theorem Lp' (hi' : Inv N most es D y nd') (F : Frst es y nd lf rk) (hr2 : lf r = 2) : ∃ lf' rk',Frst es y nd' lf' rk' ∧ ∀ i,i ∉ (td' nd r).f0 → lf' i = lf i:=by
 have hL : (0 : Int) < (td' nd r).f0.length:=by have:=R.three;omega
 have odd:=R.odd
 have tops : ∀ {i},Top nd' i ↔ (Top nd i ∧ i ≠ r) ∨ i ∈ (td' nd r).f0:=fun {i}=>O.tops hi ht R ha
 have L9 : (td' nd r).f0.length ≤ 9:=hi'.tops_len g R.nod fun x hx=>tops.2 (.inr hx)
 have nmem : ∀ {i},Top nd i → i ∉ (td' nd r).f0:=fun {i} ti z=>by
  have:=(R.mem i z).2
  rw [ti.u] at this
  have:=ht.i.1
  omega
 obtain ⟨p,e,tp,lp,rp,tg⟩:=F.od r ht hr2
 have pr : p ≠ r:=fun z=>by rw [z,hr2] at lp;omega
 have e0:=hi.edge g tg.1
 have ed:=g.e e tg.1
 obtain ⟨k0,h00,h0L,tg0⟩ : ∃ k0 : Int,0 ≤ k0 ∧ k0 < (td' nd r).f0.length ∧ Tgt es y nd' e p (mb nd r a k0):=by
  have key : ∀ u,inR u nd.length → u < N → topI nd u = r → ∃ k0 : Int,0 ≤ k0 ∧ k0 < (td' nd r).f0.length ∧ topI nd' u = mb nd r a k0:=fun u hu hN2 h=>by
   obtain ⟨q,q1,q2,_⟩:=hi.place ht.i R hu ((we' hi.wf ht.i ht.u hu).2 h) aa'
   obtain ⟨k0,k1,k2,k3⟩:=dh' hL ha q1
   refine ⟨k0,k1,k2,?_⟩
   unfold mb
   rw [k3]
   exact O.top_m hi ht R ha hu (Vd' _ _ q1.1 q1.2) q2
  have sl : slE y nd' (ud' es e) = 0:=by rw [O.sl hi ht R ha hz e0.1 e0.2];exact tg.2.1
  rcases tg.2.2 with ⟨x,z⟩|⟨x,z⟩
  ·obtain ⟨k0,k1,k2,k3⟩:=key _ e0.2 ed.b z
   exact ⟨k0,k1,k2,tg.1,sl,.inl ⟨(O.top hi ht R ha _ e0.1 (by rw [x];exact pr)).trans x,k3⟩⟩
  obtain ⟨k0,k1,k2,k3⟩:=key _ e0.1 (by have:=ed.ab;have:=ed.b;omega) x
  exact ⟨k0,k1,k2,tg.1,sl,.inr ⟨k3,(O.top hi ht R ha _ e0.2 (by rw [z];exact pr)).trans z⟩⟩
 have inj : ∀ i j,inR i (td' nd r).f0.length → inR j (td' nd r).f0.length → mb nd r a i = mb nd r a j → i = j:=fun i j hi1 hj1 h=>hg' hL hi1 hj1 (fg' R.nod (Le' hL) (Le' hL) h)
 obtain ⟨pos,hpos⟩:=pos_ex inj
 have memk : ∀ {i},i ∈ (td' nd r).f0 → ∃ k : Int,inR k (td' nd r).f0.length ∧ i = mb nd r a k:=fun {i} h=>by
  obtain ⟨q,q1,q2⟩:=wj' h
  obtain ⟨k,k1,k2,k3⟩:=dh' hL ha q1
  exact ⟨k,⟨k1,k2⟩,by unfold mb;rw [k3];exact q2.symm⟩
 have mmem : ∀ k : Int,mb nd r a k ∈ (td' nd r).f0:=fun k=>(R.at_in (a:=a) (i:=k)).2
 have mL : mb nd r a (td' nd r).f0.length = mb nd r a 0:=by
  unfold mb
  rw [Int.add_emod_right,Int.add_zero]
 obtain ⟨lf',hlf⟩ : ∃ lf' : Int → Int,∀ i,lf' i = if i ∈ (td' nd r).f0 then Hg' k0 (pos i) else lf i:=⟨_,fun _=>rfl⟩
 obtain ⟨rk',hrk⟩ : ∃ rk' : Int → Nat,∀ i,rk' i = if i ∈ (td' nd r).f0 then 100 * rk r + offK (td' nd r).f0.length k0 (pos i) else 100 * rk i:=⟨_,fun _=>rfl⟩
 have lM : ∀ {k},inR k (td' nd r).f0.length → lf' (mb nd r a k) = Hg' k0 k:=fun {k} hk=>by rw [hlf,if_pos (mmem k),hpos k hk]
 have rM : ∀ {k},inR k (td' nd r).f0.length → rk' (mb nd r a k) = 100 * rk r + offK (td' nd r).f0.length k0 k:=fun {k} hk=>by rw [hrk,if_pos (mmem k),hpos k hk]
 have lT : ∀ {i},Top nd i → lf' i = lf i:=fun {i} ti=>by rw [hlf,if_neg (nmem ti)]
 have rT : ∀ {i},Top nd i → rk' i = 100 * rk i:=fun {i} ti=>by rw [hrk,if_neg (nmem ti)]
 have tM : ∀ k,Top nd' (mb nd r a k):=fun k=>tops.2 (.inr (mmem k))
 have tK : ∀ {i},Top nd i → i ≠ r → Top nd' i:=fun h1 h2=>tops.2 (.inl ⟨h1,h2⟩)
 have tgK : ∀ {e u v : Int},Tgt es y nd e u v → u ≠ r → v ≠ r → Tgt es y nd' e u v:=fun {e u v} h hu hv=>by
  have e1:=hi.edge g h.1
  refine ⟨h.1,by rw [O.sl hi ht R ha hz e1.1 e1.2];exact h.2.1,?_⟩
  rcases h.2.2 with ⟨x,z⟩|⟨x,z⟩
  ·exact .inl ⟨(O.top hi ht R ha _ e1.1 (by rw [x];exact hu)).trans x,(O.top hi ht R ha _ e1.2 (by rw [z];exact hv)).trans z⟩
  exact .inr ⟨(O.top hi ht R ha _ e1.1 (by rw [x];exact hv)).trans x,(O.top hi ht R ha _ e1.2 (by rw [z];exact hu)).trans z⟩
 refine ⟨lf',rk',⟨fun i ti h=>?_,fun i ti h=>?_⟩,fun i hn=>by rw [hlf,if_neg hn]⟩
 ·rcases tops.1 ti with ⟨t2,hne⟩|hm
  ·rw [lT t2] at h
   have e3 : (td' nd' i).f3 = (td' nd i).f3:=by rw [O.o i t2.i hne (nmem t2)]
   rcases F.ev i t2 h with z|⟨z1,z2,z3⟩
   ·exact .inl (e3.trans z)
   refine .inr ⟨by rw [e3];exact z1,?_⟩
   have M:=hi.mt_ok g t2 z1
   by_cases q : mt nd es i = r
   ·have hm : (td' nd r).f3 ≠ -1:=by rw [← q,M.2.2.1];exact z1
    have P:=(O.pair_a g hi ht hN hz R ha hh hm).is_mt
    rw [← q,M.2.2.2] at P
    rw [q] at P
    have ea : rd (td' nd r).f0 a = mb nd r a 0:=by
     unfold mb
     rw [Int.add_zero,Int.emod_eq_of_lt ha.1 ha.2]
    rw [P,ea,lM ⟨Int.le_refl _,hL⟩,rM ⟨Int.le_refl _,hL⟩,rT t2]
    have:=offK_le (L:=(td' nd r).f0.length) (k0:=k0) (k:=0) aa' hL h00 h0L
    rw [q] at z3
    exact ⟨labK_z h00,aa'⟩
   have pp:=hi.pair g t2 z1
   have P : gf' es y nd' nd' (td' nd i).f3 i (mt nd es i):=by
    have tq:=tgK ⟨pp.ei,pp.sl,pp.j⟩ hne q
    exact ⟨pp.ei,tq.2.1,pp.ne,tq.2.2,e3,by rw [O.o _ M.1.i q (nmem M.1)];exact M.2.2.1⟩
   rw [P.is_mt,lT M.1,rT M.1,rT t2]
   exact ⟨z2,aa'⟩
  obtain ⟨k,hk,rfl⟩:=memk hm
  rw [lM hk] at h
  have h1:=hk.1
  have h2:=hk.2
  rcases Aq' h with ⟨a1,a2,a3,a4⟩|⟨a1,a2,a3⟩
  ·obtain ⟨q,P⟩:=O.pair_k g hi ht hN hz R ha hh (k:=k - 1) aa' aa' aa'
   rw [show k - 1 + 1 = k by omega] at P
   have hk1 : inR (k - 1) (td' nd r).f0.length:=⟨aa',aa'⟩
   have M : mt nd' es (mb nd r a k) = mb nd r a (k - 1):=P.symm.is_mt
   have P1:=P.ei.1
   have P2 : (td' nd' (mb nd r a k)).f3 = _:=P.b
   refine .inr ⟨by rw [P2];omega,?_⟩
   rw [M,lM hk1,rM hk1,rM hk,Gj' a1 aa',Gj' a1 a2]
   exact ⟨labK_o2 a1 aa' aa' aa',aa'⟩
  obtain ⟨q,P⟩:=O.pair_k g hi ht hN hz R ha hh (k:=k) aa' aa' aa'
  have hk1 : inR (k + 1) (td' nd r).f0.length:=⟨aa',q⟩
  have M : mt nd' es (mb nd r a k) = mb nd r a (k + 1):=P.is_mt
  have P1:=P.ei.1
  have P2 : (td' nd' (mb nd r a k)).f3 = _:=P.a
  refine .inr ⟨by rw [P2];omega,?_⟩
  rw [M,lM hk1,rM hk1,rM hk,al' a1,al' a1]
  exact ⟨ko' a1 aa' aa',aa'⟩
 rcases tops.1 ti with ⟨t2,hne⟩|hm
 ·rw [lT t2] at h
  obtain ⟨p2,e2,q1,q2,q3,q4⟩:=F.od i t2 h
  have hp2 : p2 ≠ r:=fun z=>by rw [z,hr2] at q2;omega
  exact ⟨p2,e2,tK q1 hp2,by rw [lT q1];exact q2,by rw [rT q1,rT t2];omega,tgK q4 hp2 hne⟩
 obtain ⟨k,hk,rfl⟩:=memk hm
 rw [lM hk] at h
 have h1:=hk.1
 have h2:=hk.2
 by_cases c0 : k = k0
 ·subst c0
  refine ⟨p,e,tK tp pr,by rw [lT tp];exact lp,?_,tg0⟩
  rw [rM hk,rT tp]
  omega
 rcases Bq' h with ⟨a1,rfl⟩|⟨a1,a2,a3,a4⟩|⟨a1,a2,a3⟩
 ·have hk1 : inR ((td' nd r).f0.length - 1) (td' nd r).f0.length:=⟨aa',aa'⟩
  obtain ⟨e2,q⟩:=O.lnk g hi ht hN hz R ha hh (k:=(td' nd r).f0.length - 1) hk1.1
  rw [show ((td' nd r).f0.length : Int) - 1 + 1 = (td' nd r).f0.length by omega,mL] at q
  refine ⟨_,e2,tM _,ed',?_,q⟩
  rw [rM hk1,rM hk,Gj' a1 aa',offK_z a1]
  omega
 ·have hk1 : inR (k - 1) (td' nd r).f0.length:=⟨aa',aa'⟩
  obtain ⟨e2,q⟩:=O.lnk g hi ht hN hz R ha hh (k:=k - 1) hk1.1
  rw [show k - 1 + 1 = k by omega] at q
  refine ⟨_,e2,tM _,ed',?_,q⟩
  rw [rM hk1,rM hk,Gj' a1 aa',Gj' a1 a2]
  omega
 have hk1 : inR (k + 1) (td' nd r).f0.length:=⟨aa',aa'⟩
 obtain ⟨e2,q⟩:=O.lnk g hi ht hN hz R ha hh (k:=k) hk.1
 refine ⟨_,e2,tM _,by rw [lM hk1];exact labK_e1 a1 aa' aa',?_,q.symm⟩
 rw [rM hk1,rM hk,al' a1,al' a1]
 omega
end
end
section
variable {N most : Int} {es : List S73} {D D' : Int} {y y' : List Int} {nd nd' nd1 nd2 : List S89} {rn rn' : List S77} {mts : List S56} {lb ah bk : List Int} {rk : Int → Nat} {K : Nat} {t : TI} {r a j d : Int} {c L lf : Int → Int} {mem lk : List Int}
theorem lh' {i : Int} : Gg' nd c L i = true ↔ (td' nd i).f6 = false ∧ L (c (topI nd i)) ≠ 1:=by
 unfold Gg' alv
 simp
theorem Cq' {i : Int} (h : L (c (topI nd i)) = 1) : Gg' nd c L i = false:=by
 unfold Gg'
 simp [h]
theorem Mp' {i : Int} (h : (td' nd i).f6 = true) : Gg' nd c L i = false:=by
 unfold Gg' alv
 simp [h]
theorem Ee'.mt_i (g : Gph N most es) (hi : Inv N most es D y nd) (O : Ee' N y y' nd nd1 lb d) {i : Int} (ti : Top nd i) (hm : (td' nd i).f3 ≠ -1) : mt nd1 es i = mt nd es i:=by
 have p:=hi.pair g ti hm
 have e:=hi.edge g p.ei
 obtain ⟨w1,w2,w3⟩:=mf' O.up hi.wf
 have e1 : mt nd1 es i = ze' nd1 es (td' nd i).f3 i:=by
  show ze' nd1 es (td' nd1 i).f3 i = _
  rw [O.n i ti.i]
 rw [e1]
 show ze' nd1 es (td' nd i).f3 i = ze' nd es (td' nd i).f3 i
 unfold ze'
 rw [w2 _ e.1,w2 _ e.2]
theorem Ee'.tgt0 (g : Gph N most es) (hi : Inv N most es D y nd) (O : Ee' N y y' nd nd1 lb d) {e a b : Int} (he : inR e es.length) (hs : slE y' nd1 (ud' es e) = 0) (hj : (topI nd (ud' es e).f0 = a ∧ topI nd (ud' es e).f1 = b) ∨ (topI nd (ud' es e).f0 = b ∧ topI nd (ud' es e).f1 = a)) : Tgt es y' nd1 e a b:=by
 have e0:=hi.edge g he
 obtain ⟨w1,w2,w3⟩:=mf' O.up hi.wf
 refine ⟨he,hs,?_⟩
 rw [w2 _ e0.1,w2 _ e0.2]
 exact hj
theorem Ee'.tgt (g : Gph N most es) (hi : Inv N most es D y nd) (O : Ee' N y y' nd nd1 lb d) {e a b : Int} (h : Tgt es y nd e a b) (hs : sg (rd lb a) + sg (rd lb b) = 0) : Tgt es y' nd1 e a b:=by
 refine O.tgt0 g hi h.1 ?_ h.2.2
 rw [O.sl g hi h.1,h.2.1]
 split
 ·rfl
 rcases h.2.2 with ⟨x,z⟩|⟨x,z⟩ <;> rw [x,z]
 ·rw [hs,Int.zero_mul];rfl
 rw [Int.add_comm (sg _),hs,Int.zero_mul];rfl
theorem Ee'.frst (g : Gph N most es) (hi : Inv N most es D y nd) (L0 : Lab es y nd lb ah bk rk K) (O : Ee' N y y' nd nd1 lb d) : Frst es y' nd1 (rd lb) rk:=by
 have F:=L0.frst g hi
 refine ⟨fun i ti h=>?_,fun i ti h=>?_⟩
 ·have t2:=O.tops.1 ti
  have e3 : (td' nd1 i).f3 = (td' nd i).f3:=by rw [O.n i t2.i]
  rw [e3]
  rcases F.ev i t2 h with z|⟨z1,z2,z3⟩
  ·exact .inl z
  rw [O.mt_i g hi t2 z1]
  exact .inr ⟨z1,z2,z3⟩
 have t2:=O.tops.1 ti
 obtain ⟨p,e,p1,p2,p3,p4⟩:=F.od i t2 h
 exact ⟨p,e,O.tops.2 p1,p2,p3,O.tgt g hi p4 (by rw [p2,h];rfl)⟩
theorem Dq' (g : Gph N most es) (hi : Inv N most es D y nd) (L0 : Lab es y nd lb ah bk rk K) (hno : ∀ i,inR i es.length → ¬mg' y nd lb (ud' es i)) (C : ChgF N es y y' nd nd1 nd' lb d) (I1 : Inv N most es D' y' nd1) (hi' : Inv N most es D' y' nd') {B : Nat} (G : GInv es y nd B) : ∃ B',B' < B ∧ GInv es y' nd' B':=by
 refine ⟨cnt (Gg' nd (fun i=>i) (rd lb)) nd.length,G _ _ (L0.hung g hi hno),fun c L H=>?_⟩
 have O:=C.ch
 have F1:=O.frst g hi L0
 obtain ⟨w1,w2,w3⟩:=mf' O.up hi.wf
 have l1 : nd1.length = nd.length:=O.l
 have f6 : ∀ {i},inR i nd.length → (td' nd1 i).f6 = (td' nd i).f6:=fun h=>by rw [O.n _ h]
 have f3 : ∀ {i},inR i nd.length → (td' nd1 i).f3 = (td' nd i).f3:=fun h=>by rw [O.n _ h]
 rcases C.op with ⟨rfl,hz⟩|⟨r,a,hN,ht,hr2,hz,ha,hh,P⟩
 ·have evn : ∀ i,Top nd i → rd lb i = 1 → L (c i) = 1:=fun i ti h=>vi' g I1 F1 H _ i (Nat.lt_succ_self _) (O.tops.2 ti) h
  have sub : ∀ i : Int,0 ≤ i → i < nd.length → Gg' nd' c L i = true → Gg' nd (fun i=>i) (rd lb) i = true:=fun i h0 h1 q=>by
   have hn : inR i nd.length:=⟨h0,h1⟩
   obtain ⟨q1,q2⟩:=lh'.1 q
   rw [f6 hn] at q1
   rw [w2 i hn] at q2
   exact lh'.2 ⟨q1,fun h=>q2 (evn _ (hi.top hn q1) h)⟩
  have wit : ∃ s,Top nd s ∧ rd lb s ≠ 1 ∧ L (c s) = 1:=by
   rcases C.att with ⟨e,he,hne,h⟩|⟨r,r1,r2,r3,r4⟩
   ·have e0:=hi.edge g he
    have tA:=hi.top_a g he
    have tB:=hi.top_b g he
    have sl:=O.sl g hi he
    rw [if_neg hne] at sl
    have wit1 : ∀ x,Top nd x → rd lb x = 1 → ¬Exit nd' es c x → ∃ s,Top nd s ∧ rd lb s ≠ 1 ∧ L (c s) = 1:=fun x tx lx hx=>by
     have z : (td' nd x).f3 ≠ -1:=fun z=>hx (.inl ((f3 tx.i).trans z))
     have M:=hi.mt_ok g tx z
     have ec : c (mt nd es x) = c x:=by
      apply Decidable.byContradiction
      intro q
      exact hx (.inr (by rw [O.mt_i g hi tx z];exact q))
     refine ⟨mt nd es x,M.1,?_,by rw [ec];exact evn x tx lx⟩
     rcases L0.ev x tx.i lx with ⟨q,_⟩|⟨_,_,q,_⟩
     ·exact absurd q z
     rw [q];decide
    have wit2 : ∀ a b,Tgt es y' nd' e a b → Top nd a → Top nd b → rd lb a = 1 → rd lb b = 0 → ∃ s,Top nd s ∧ rd lb s ≠ 1 ∧ L (c s) = 1:=fun a b tg ta tb la lb0=>by
     by_cases ec : c a = c b
     ·exact ⟨b,tb,by rw [lb0];decide,by rw [← ec];exact evn a ta la⟩
     have l2:=H.tgt e a b tg ec (evn a ta la)
     have z : (td' nd b).f3 ≠ -1:=fun z=>by have:=L0.free b tb z;omega
     have M:=hi.mt_ok g tb z
     have hne2 : c b ≠ c (mt nd es b):=fun q=>by
      have:=H.big b _ (O.tops.2 tb) (O.tops.2 M.1) M.2.1.symm q
      omega
     have l1:=H.mate b (O.tops.2 tb) (by rw [f3 tb.i];exact z) (by rw [O.mt_i g hi tb z];exact hne2) l2
     rw [O.mt_i g hi tb z] at l1
     refine ⟨_,M.1,fun q=>?_,l1⟩
     rcases L0.ev _ M.1.i q with ⟨u,_⟩|⟨_,_,u,_⟩
     ·rw [M.2.2.1] at u;exact z u
     rw [M.2.2.2,lb0] at u;omega
    rcases h with ⟨la,lb1,hd⟩|⟨⟨la,lb0⟩|⟨la0,lb1⟩,hd⟩
    ·have ey:=hi.eoy g e he
     have p0:=Wh' g hi L0 _ _ _ (Nat.lt_succ_self _) tA.i (by rw [la];decide) ey.1 rfl
     have p1:=Wh' g hi L0 _ _ _ (Nat.lt_succ_self _) tB.i (by rw [lb1];decide) ey.2 rfl
     have z2 : Qe' nd (ud' es e).f0 (ud' es e).f1 % 2 = 0:=Ol' fun i h0 h1=>by
      unfold zOf
      split
      ·exact (hi.zz i ⟨h0,h1⟩).2.1
      rfl
     have par : slE y nd (ud' es e) % 2 = 0:=by
      unfold slE
      omega
     rw [la,lb1,show sg 1 = -1 from rfl] at sl
     have tg:=O.tgt0 g hi he (a:=topI nd (ud' es e).f0) (b:=topI nd (ud' es e).f1) (by rw [sl];omega) (.inl ⟨rfl,rfl⟩)
     have eA:=evn _ tA la
     have eB:=evn _ tB lb1
     by_cases ec : c (topI nd (ud' es e).f0) = c (topI nd (ud' es e).f1)
     ·by_cases xA : Exit nd' es c (topI nd (ud' es e).f0)
      ·exact wit1 _ tB lb1 fun xB=>hne (H.uniq _ _ (O.tops.2 tA) (O.tops.2 tB) ec xA xB)
      exact wit1 _ tA la xA
     have:=H.tgt e _ _ tg ec eA
     omega
    ·rw [la,lb0,show sg 1 = -1 from rfl,show sg 0 = 0 from rfl] at sl
     exact wit2 _ _ (O.tgt0 g hi he (by rw [sl];omega) (.inl ⟨rfl,rfl⟩)) tA tB la lb0
    rw [la0,lb1,show sg 1 = -1 from rfl,show sg 0 = 0 from rfl] at sl
    exact wit2 _ _ (O.tgt0 g hi he (by rw [sl];omega) (.inr ⟨rfl,rfl⟩)) tB tA lb1 la0
   exfalso
   refine hz r r2 (O.tops.2 r1) r3 ?_
   rw [O.n r r1.i]
   show (if N ≤ r ∧ Dd' (td' nd r) = true then (td' nd r).f5 - 2 * (sg (rd lb r) * d) else (td' nd r).f5) = 0
   rw [if_pos ⟨r2,(Be' r1.i).2 r1⟩,r3,show sg 2 = 1 from rfl]
   omega
  obtain ⟨s,s1,s2,s3⟩:=wit
  have ss : topI nd s = s:=s1.self hi.wf
  rw [l1]
  exact fh' sub s1.i.1 s1.i.2 (lh'.2 ⟨s1.o,by rw [ss];exact s2⟩) (Cq' (by rw [w2 s s1.i,ss];exact s3))
 have R:=I1.ring r hN ht.i.2 ht.o
 obtain ⟨lf,rk',F2,hlf⟩:=Lp' g I1 ht hN hz R ha hh P hi' F1 hr2
 have tr:=O.tops.1 ht
 rw [P.l,l1]
 refine fh' (j:=r) (fun i h0 h1 q=>?_) tr.i.1 tr.i.2 (lh'.2 ⟨tr.o,by rw [tr.self hi.wf,hr2];decide⟩) (Mp' (by rw [P.rr]))
 have hn : inR i nd.length:=⟨h0,h1⟩
 have hn1 : inR i nd1.length:=by rw [l1];exact hn
 obtain ⟨q1,q2⟩:=lh'.1 q
 have ir : i ≠ r:=fun z=>by rw [z,P.rr] at q1;cases q1
 rw [(P.f I1 ht R ha hn1).2.2.2.2.1 ir,f6 hn] at q1
 refine lh'.2 ⟨q1,fun h=>q2 ?_⟩
 have ti:=hi.top hn q1
 have tne : topI nd i ≠ r:=fun z=>by rw [z,hr2] at h;omega
 have e1 : topI nd' i = topI nd i:=(P.top I1 ht R ha i hn1 (by rw [w2 i hn];exact tne)).trans (w2 i hn)
 have t1:=O.tops.2 ti
 have nm : topI nd i ∉ (td' nd1 r).f0:=fun z=>by
  have:=(R.mem _ z).2
  rw [t1.u] at this
  have:=ht.i.1
  omega
 rw [e1]
 exact vi' g hi' F2 H _ _ (Nat.lt_succ_self _) ((P.tops I1 ht R ha).2 (.inl ⟨t1,tne⟩)) (by rw [hlf _ nm];exact h)
end
theorem Ym' {p : Int → Bool} {Q : Int → Int → Prop} (hinj : ∀ i j x,Q i x → Q j x → i = j) : ∀ {n : Nat},(∀ i : Int,0 ≤ i → i < n → p i = true → ∃ x,Q i x) → ∃ l : List Int,l.length = cnt p n ∧ l.Nodup ∧ ∀ x ∈ l,∃ i : Int,0 ≤ i ∧ i < n ∧ Q i x
 | 0,_=>⟨[],rfl,List.nodup_nil,fun x h=>absurd h List.not_mem_nil⟩
 | n + 1,h=>by
  obtain ⟨l,l1,l2,l3⟩:=Ym' (p:=p) hinj (n:=n) fun i h0 h1=>h i h0 aa'
  rw [cnt]
  by_cases c : p n = true
  ·obtain ⟨x,hx⟩:=h n aa' aa' c
   refine ⟨x :: l,by rw [if_pos c,List.length_cons,l1],List.nodup_cons.2 ⟨fun z=>?_,l2⟩,fun z hz=>?_⟩
   ·obtain ⟨i,i0,i1,i2⟩:=l3 x z
    have:=hinj i n x i2 hx
    omega
   rcases List.mem_cons.1 hz with rfl|hz
   ·exact ⟨n,aa',aa',hx⟩
   obtain ⟨i,i0,i1,i2⟩:=l3 z hz
   exact ⟨i,i0,aa',i2⟩
  rw [if_neg c]
  refine ⟨l,by rw [l1];rfl,l2,fun z hz=>?_⟩
  obtain ⟨i,i0,i1,i2⟩:=l3 z hz
  exact ⟨i,i0,aa',i2⟩
theorem cnt_inj {p : Int → Bool} {Q : Int → Int → Prop} {n M : Nat} (hinj : ∀ i j x,Q i x → Q j x → i = j) (h : ∀ i : Int,0 ≤ i → i < n → p i = true → ∃ x,Q i x) (hM : ∀ i x,Q i x → 0 ≤ x ∧ x < M) : cnt p n ≤ M:=by
 obtain ⟨l,l1,l2,l3⟩:=Ym' hinj h
 have:=Ah' (m:=(List.range M).map fun v : Nat=>(v : Int)) l2 fun x hx=>by
  obtain ⟨i,_,_,q⟩:=l3 x hx
  have:=hM i x q
  exact List.mem_map.2 ⟨x.toNat,List.mem_range.2 aa',by rw [Int.toNat_of_nonneg this.1]⟩
 rw [List.length_map,List.length_range] at this
 omega
section
variable {N most : Int} {es : List S73} {D D' : Int} {y y' : List Int} {nd nd' nd1 nd2 : List S89} {rn rn' : List S77} {mts : List S56} {lb ah bk : List Int} {rk : Int → Nat} {K : Nat} {t : TI} {r a j d : Int} {c L lf : Int → Int} {mem lk : List Int}
def Wit (N : Int) (nd : List S89) (r v : Int) : Prop:=(0 ≤ v ∧ v < N) ∧ ∃ m,inR m nd.length ∧ (td' nd m).f2 = r ∧ Ad' nd m v = true ∧ (∀ u,0 ≤ u → u < N → Ad' nd m u = true → u ≤ v) ∧ ∃ u,(0 ≤ u ∧ u < N) ∧ v < u ∧ Ad' nd r u = true
theorem Zm' (hi : Inv N most es D y nd) {m : Int} : ∀ (k : Nat) (v : Int),N ≤ v + k → 0 ≤ v → v < N → Ad' nd m v = true → ∃ v,(0 ≤ v ∧ v < N) ∧ Ad' nd m v = true ∧ ∀ u,0 ≤ u → u < N → Ad' nd m u = true → u ≤ v
 | 0,v,hk,h0,h1,_=>by omega
 | k + 1,v,hk,h0,h1,h=>by
  by_cases c : ∃ u,v < u ∧ u < N ∧ Ad' nd m u = true
  ·obtain ⟨u,u1,u2,u3⟩:=c
   exact Zm' hi k u aa' aa' u2 u3
  refine ⟨v,⟨h0,h1⟩,h,fun u u0 u1 u2=>?_⟩
  apply Decidable.byContradiction
  intro q
  exact c ⟨u,aa',u1,u2⟩
theorem wit_ex (g : Gph N most es) (hi : Inv N most es D y nd) (hN : N ≤ r) (hr : r < nd.length) (ho : (td' nd r).f6 = false) : ∃ v,Wit N nd r v:=by
 have R:=hi.ring r hN hr ho
 have h3:=R.three
 have hr1 : r ≠ -1:=by have:=g.n0;omega
 have mk : ∀ k,inR k (td' nd r).f0.length → ∃ v,(0 ≤ v ∧ v < N) ∧ Ad' nd (rd (td' nd r).f0 k) v = true ∧ ∀ u,0 ≤ u → u < N → Ad' nd (rd (td' nd r).f0 k) u = true → u ≤ v:=fun k hk=>by
  have M:=R.mem _ (Vd' _ _ hk.1 hk.2)
  have mo : (td' nd (rd (td' nd r).f0 k)).f6 = false:=by
   cases q : (td' nd (rd (td' nd r).f0 k)).f6 with
   | false=>rfl
   | true=>have:=hi.opn _ M.1 q;rw [M.2] at this;exact absurd this hr1
  obtain ⟨v,v0,v1,v2⟩:=hi.has_vtx ((rd (td' nd r).f0 k).toNat + 1) _ aa' M.1 mo
  exact Zm' hi (N.toNat + 1) v aa' v0 v1 v2
 have k0 : inR 0 (td' nd r).f0.length:=⟨aa',aa'⟩
 have k1 : inR 1 (td' nd r).f0.length:=⟨aa',aa'⟩
 have M0:=R.mem _ (Vd' _ _ k0.1 k0.2)
 have M1:=R.mem _ (Vd' _ _ k1.1 k1.2)
 obtain ⟨v0,a1,a2,a3⟩:=mk 0 k0
 obtain ⟨v1,b1,b2,b3⟩:=mk 1 k1
 have hne : v0 ≠ v1:=fun z=>by
  rw [← z] at b2
  have:=Mk' hi.wf M0.1 M1.1 M0.2 M1.2 hr1 (hi.vtx a1.1 a1.2) a2 b2
  have:=fg' R.nod k0 k1 this
  omega
 have up : ∀ {m v},inR m nd.length ∧ (td' nd m).f2 = r → (0 ≤ v ∧ v < N) → Ad' nd m v = true → Ad' nd r v = true:=fun {m v} M hv h=>by
  have:=kp' hi.wf M.1 (by rw [M.2];exact hr1) (hi.vtx hv.1 hv.2) h
  rw [M.2] at this
  exact this
 by_cases q : v0 < v1
 ·exact ⟨v0,a1,_,M0.1,M0.2,a2,a3,v1,b1,q,up M1 b1 b2⟩
 exact ⟨v1,b1,_,M1.1,M1.2,b2,b3,v0,a1,aa',up M0 a1 a2⟩
theorem wit_inj (hi : Inv N most es D y nd) {r r' v : Int} (hr : inR r nd.length) (hr' : inR r' nd.length) (h : Wit N nd r v) (h' : Wit N nd r' v) : r = r':=by
 have key : ∀ {r r' : Int},inR r nd.length → inR r' nd.length → ∀ m m',inR m nd.length → (td' nd m).f2 = r → inR m' nd.length → (td' nd m').f2 = r' → (∀ u,0 ≤ u → u < N → Ad' nd m' u = true → u ≤ v) → (∃ u,(0 ≤ u ∧ u < N) ∧ v < u ∧ Ad' nd r u = true) → Ad' nd m' m = true → r = r':=fun {r r'} hr hr' m m' m1 m2 m3 m4 m5 m6 m7=>by
  obtain ⟨u,u1,u2,u3⟩:=m6
  rw [Sd' hi.wf (by have:=m3.1;omega) m1] at m7
  by_cases q : m = m'
  ·rw [← m2,← m4,q]
  rw [if_neg q,m2] at m7
  have:=m5 u u1.1 u1.2 (Nl' hi.wf m3 hr m7 (hi.vtx u1.1 u1.2) u3)
  omega
 obtain ⟨hv,m,m1,m2,m3,m4,m5⟩:=h
 obtain ⟨_,m',n1,n2,n3,n4,n5⟩:=h'
 rcases Lk' hi.wf m1 n1 (hi.vtx hv.1 hv.2) m3 n3 with q|q
 ·exact (key hr' hr m' m n1 n2 m1 m2 m4 n5 q).symm
 exact key hr hr' m m' m1 m2 n1 n2 n4 m5 q
theorem wk' (g : Gph N most es) (hi : Inv N most es D y nd) : cnt (alv nd) nd.length ≤ 18:=by
 refine cnt_inj (Q:=fun i x=>inR i nd.length ∧ ((i < N ∧ x = i) ∨ (N ≤ i ∧ ∃ v,x = N + v ∧ Wit N nd i v))) (fun i j x h k=>?_) (fun i h0 h1 h=>?_) fun i x h=>?_
 ·obtain ⟨hn,h⟩:=h
  obtain ⟨kn,k⟩:=k
  rcases h with ⟨h1,h2⟩|⟨h1,v,h2,h3⟩ <;> rcases k with ⟨k1,k2⟩|⟨k1,w,k2,k3⟩
  ·omega
  ·have:=k3.1;omega
  ·have:=h3.1;omega
  have e : v = w:=by omega
  subst e
  exact wit_inj hi hn kn h3 k3
 ·have ho : (td' nd i).f6 = false:=by
   unfold alv at h
   simpa using h
  by_cases c : i < N
  ·exact ⟨i,⟨h0,h1⟩,.inl ⟨c,rfl⟩⟩
  obtain ⟨v,hv⟩:=wit_ex g hi aa' h1 ho
  exact ⟨N + v,⟨h0,h1⟩,.inr ⟨aa',v,rfl,hv⟩⟩
 have n9:=g.n9
 have n0:=g.n0
 rcases h with ⟨hn,⟨h1,h2⟩|⟨h1,v,h2,h3⟩⟩
 ·have:=hn.1;omega
 have:=h3.1;omega
def Xi' (nd : List S89) (v : Int) : Bool:=decide ((td' nd (topI nd v)).f3 = -1 ∧ (td' nd (topI nd v)).f4 = v)
def Ih' (nd : List S89) (v : Int) : Bool:=(List.range v.toNat).all fun u : Nat=>decide (topI nd u ≠ topI nd v)
theorem mh' {v : Int} : Xi' nd v = true ↔ Exq nd v:=by unfold Xi' Exq;exact decide_eq_true_iff
theorem Yi' {v : Int} : Ih' nd v = true ↔ ∀ u,0 ≤ u → u < v → topI nd u ≠ topI nd v:=by
 unfold Ih'
 rw [List.all_eq_true]
 constructor
 ·intro h u u0 u1
  have:=h u.toNat (List.mem_range.2 aa')
  rw [Int.toNat_of_nonneg u0] at this
  exact of_decide_eq_true this
 intro h u hu
 have:=List.mem_range.1 hu
 exact decide_eq_true (h u aa' aa')
theorem an' : ∀ (k : Nat) (v : Int),v < k → 0 ≤ v → ∃ w,0 ≤ w ∧ w ≤ v ∧ topI nd w = topI nd v ∧ Ih' nd w = true
 | 0,v,hk,h0=>by omega
 | k + 1,v,hk,h0=>by
  by_cases c : ∃ u,0 ≤ u ∧ u < v ∧ topI nd u = topI nd v
  ·obtain ⟨u,u0,u1,u2⟩:=c
   obtain ⟨w,w0,w1,w2,w3⟩:=an' k u aa' u0
   exact ⟨w,w0,aa',w2.trans u2,w3⟩
  exact ⟨v,h0,Int.le_refl _,rfl,Yi'.2 fun u u0 u1 u2=>c ⟨u,u0,u1,u2⟩⟩
def pot (N : Int) (nd : List S89) (B : Nat) : Nat:=200 * cnt (Xi' nd) N.toNat + 10 * B + cnt (Ih' nd) N.toNat
theorem Eq' (g : Gph N most es) (hi : Inv N most es D y nd) (hi' : Inv N most es D' y' nd') (P : Prg N most es D D' y y' nd nd') {B : Nat} (hB : B ≤ 19) (G : GInv es y nd B) : ∃ B',B' ≤ 19 ∧ GInv es y' nd' B' ∧ pot N nd' B' < pot N nd B ∧ nd'.length ≤ nd.length + 1:=by
 have n9:=g.n9
 have n0:=g.n0
 have exle : (∀ v,0 ≤ v → v < N → Exq nd' v → Exq nd v) → cnt (Xi' nd') N.toNat ≤ cnt (Xi' nd) N.toNat:=fun h=>Ji' fun i h0 h1 q=>mh'.2 (h i h0 aa' (mh'.1 q))
 have rp:=Xk' (p:=Ih' nd') (n:=N.toNat)
 unfold pot
 cases P with
 | @fold lb ah bk rk K mem lk j hy hl L0 T O hj hrk =>
  subst hy
  have hD : Inv N most es D y' nd':=by
   refine ⟨hi'.yl,hi'.nn,hi'.sz,hi'.wf,hi'.ver,hi'.opn,hi'.par,hi'.ring,hi'.mate,fun t tt h3=>?_,fun i hn=>?_,hi.yy,hi.dd,hi'.sl,hi'.pa⟩
   ·have F:=hi'.free t tt h3
    refine ⟨F.v,F.h,F.b,?_⟩
    rcases O.frees g hi T tt h3 with ⟨a1,a2,a3⟩|⟨a1,a2,a3,a4⟩
    ·rw [a3];exact (hi.free _ (T.tops j T.jm) a2).yv
    rw [a4];exact (hi.free _ a1 a3).yv
   rcases O.lt g hi T hn with rfl|h
   ·rw [O.n];have:=hi.dd;exact ⟨Int.le_refl 0,rfl,Ac'⟩
   rw [(O.f g hi T h).2.2.2.1];exact hi.zz i h
  refine ⟨B,hB,Kp' g hi hD L0 T O hj hrk G,?_,aa'⟩
  have e1:=exle fun v v0 v1 h=>by
   have tv:=hi'.top_v v0 v1
   rcases O.frees g hi T tv h.1 with ⟨a1,a2,a3⟩|⟨a1,a2,a3,a4⟩
   ·exact Yk' hi (T.tops j T.jm) a2 (a3.symm.trans h.2)
   exact Yk' hi a1 a3 (a4.symm.trans h.2)
  have tp : ∀ {v : Int},0 ≤ v → v < N → topI nd' v = if topI nd v ∈ mem then (nd.length : Int) else topI nd v:=fun v0 v1=>O.top g hi T _ (hi.vtx v0 v1)
  have k0 : inR 0 mem.length:=⟨aa',by have:=T.three;omega⟩
  have k1 : inR 1 mem.length:=⟨aa',by have:=T.three;omega⟩
  have m0:=Vd' mem 0 k0.1 k0.2
  have m1:=Vd' mem 1 k1.1 k1.2
  obtain ⟨u0,a0,a1,a2⟩:=hi.top_vtx (T.tops _ m0)
  obtain ⟨u1,b0,b1,b2⟩:=hi.top_vtx (T.tops _ m1)
  obtain ⟨x0,c0,c1,c2,c3⟩:=an' (nd:=nd) (u0.toNat + 1) u0 aa' a0
  obtain ⟨x1,d0,d1,d2,d3⟩:=an' (nd:=nd) (u1.toNat + 1) u1 aa' b0
  rw [a2] at c2
  rw [b2] at d2
  have hne : x0 ≠ x1:=fun z=>by
   rw [z,d2] at c2
   have:=fg' T.nod k1 k0 c2
   omega
  have same : topI nd' x0 = topI nd' x1:=by
   rw [tp c0 aa',tp d0 aa',c2,d2,if_pos m0,if_pos m1]
  have sub : ∀ i : Int,0 ≤ i → i < N.toNat → Ih' nd' i = true → Ih' nd i = true:=fun i h0 h1 q=>by
   rw [Yi'] at q ⊢
   intro u u0 u1 e
   refine q u u0 u1 ?_
   rw [tp u0 aa',tp h0 aa',e]
  have lt : cnt (Ih' nd') N.toNat < cnt (Ih' nd) N.toNat:=by
   by_cases q : x0 < x1
   ·refine fh' sub d0 aa' d3 ?_
    cases z : Ih' nd' x1 with
    | false=>rfl
    | true=>exact absurd same (Yi'.1 z x0 c0 q)
   refine fh' sub c0 aa' c3 ?_
   cases z : Ih' nd' x0 with
   | false=>rfl
   | true=>exact absurd same.symm (Yi'.1 z x1 d0 aa')
  omega
 | aug hl h1 h2 =>
  refine ⟨19,Nat.le_refl _,fun c L H=>?_,?_,aa'⟩
  ·have h:=wk' g hi'
   have : cnt (Gg' nd' c L) nd'.length ≤ cnt (alv nd') nd'.length:=Ji' fun i _ _ q=>by
    unfold Gg' at q
    exact (Bool.and_eq_true _ _ ▸ q).1
   omega
  obtain ⟨v,v1,v2,v3⟩:=h2
  have : cnt (Xi' nd') N.toNat < cnt (Xi' nd) N.toNat:=fh' (j:=v) (fun i h0 hq q=>mh'.2 (h1 i h0 aa' (mh'.1 q))) v1.1 aa' (mh'.2 v2) (by
   cases z : Xi' nd' v with
   | false=>rfl
   | true=>exact absurd (mh'.1 z) v3)
  omega
 | @chg lb ah bk rk K d nd1 L0 hno C I1 =>
  obtain ⟨B',b1,b2⟩:=Dq' g hi L0 hno C I1 hi' G
  have O:=C.ch
  obtain ⟨w1,w2,w3⟩:=mf' O.up hi.wf
  have q1 : ∀ v,0 ≤ v → v < N → Exq nd1 v → Exq nd v:=fun v v0 v1 h=>by
   have hv:=hi.vtx v0 v1
   unfold Exq at h ⊢
   rw [w2 v hv,O.n _ (Nd' hi.wf hv)] at h
   exact h
  rcases C.op with ⟨rfl,hz⟩|⟨r,a,hN,ht,hr2,hz,ha,hh,P⟩
  ·have:=exle q1
   exact ⟨B',aa',b2,aa',by rw [O.l];omega⟩
  have R:=I1.ring r hN ht.i.2 ht.o
  have:=exle fun v v0 v1 h=>q1 v v0 v1 (Xm' I1 hi' ht (fun i h q=>P.frees g I1 ht hN hz R ha hh h q) v0 v1 h)
  exact ⟨B',aa',b2,aa',by rw [P.l,O.l];omega⟩
end
section
variable {N most : Int} {es : List S73}
theorem bn' (g : Gph N most es) : ∀ (m : Nat) (D : Int) (y : List Int) (nd : List S89) (rn : List S77) (mts : List S56) (B : Nat) (l0 a0 b0 : List Int) (n : Int),StR N most es D y nd rn mts → B ≤ 19 → GInv es y nd B → pot N nd B < m → nd.length + m ≤ 10000 → 0 ≤ n → n + m ≤ 10000 →
  ∃ (ki ks : Nat) (s : SI) (t : RI) (D' : Int),Oi' N es ki ⟨y,nd,l0,a0,b0,n⟩ s ∧ Rh' N es ks ⟨y,rn,mts,n,false⟩ t ∧ s.rn = t.rn ∧ t.y = s.y ∧ StR N most es D' s.y s.nd t.nd t.mt
 | 0,_,_,_,_,_,_,_,_,_,_,_,_,_,h,_,_,_=>absurd h aa'
 | m + 1,D,y,nd,rn,mts,B,l0,a0,b0,n,St,hB,G,hp,hl,h0,hn=>by
  obtain ⟨bd,D',y',nd',lb,ah,bk,rn',mts',r1,r2,r3,r4⟩:=No' g St aa' l0 a0 b0 n ⟨h0,aa'⟩
  cases bd with
  | true =>
   exact ⟨1,2,_,_,D',.last r1,.more (by show n < 20000;omega) h0 rfl r2 (.stop fun h=>by cases h.2),rfl,rfl,r3⟩
  | false =>
   obtain ⟨B',b1,b2,b3,b4⟩:=Eq' g St.inv r3.inv (r4 rfl) hB G
   obtain ⟨ki,ks,s,t,D2,k1,k2,k3⟩:=bn' g m D' y' nd' rn' mts' B' lb ah bk (n + 1) r3 b1 b2 aa' aa' aa' aa'
   exact ⟨ki + 1,ks + 1,s,t,D2,.more r1 k1,.more (by show n < 20000;omega) h0 rfl r2 k2,k3⟩
theorem Oo' (g : Gph N (kg' es) es) : ∃ (ki ks : Nat) (s : SI) (t : RI) (D : Int),Oi' N es ki (newI N es) s ∧ Rh' N es ks (newS N es) t ∧ s.rn = t.rn ∧ t.y = s.y ∧ StR N (kg' es) es D s.y s.nd t.nd t.mt:=by
 have St:=Nn' g
 have n9:=g.n9
 have n0:=g.n0
 have e1:=Xk' (p:=Xi' ((List.range N.toNat).map fun (v : Nat)=>Pe' (v : Int))) (n:=N.toNat)
 have e2:=Xk' (p:=Ih' ((List.range N.toNat).map fun (v : Nat)=>Pe' (v : Int))) (n:=N.toNat)
 have hl : ((List.range N.toNat).map fun (v : Nat)=>Pe' (v : Int)).length = N.toNat:=by rw [List.length_map,List.length_range]
 refine bn' g 3000 0 _ _ _ _ 19 [] [] [] 0 St (Nat.le_refl _) (fun c L H=>?_) (by unfold pot;omega) aa' (Int.le_refl 0) aa'
 have h:=wk' g St.inv
 refine Nat.lt_of_le_of_lt (Ji' fun i _ _ q=>?_) (Nat.lt_succ_of_le h)
 unfold Gg' at q
 exact (Bool.and_eq_true _ _ ▸ q).1
end
end Go.Proofs.YtnffimpoekjkpaaGreat.QFnExactSolve
