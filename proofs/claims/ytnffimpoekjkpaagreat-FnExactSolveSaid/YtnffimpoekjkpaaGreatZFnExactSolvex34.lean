import Derived.Test.YtnffimpoekjkpaaGreatZFnExactSolvex33
set_option linter.all false
namespace Go.Proofs.YtnffimpoekjkpaaGreat.QFnExactSolve
open Go.RowKit Go.Proofs.YtnffimpoekjkpaaGreatW.PrintWords Go.Proofs.YtnffimpoekjkpaaGreatW.PrintLast Go.Proofs.YtnffimpoekjkpaaGreatW.PrintMore
set_option maxHeartbeats 8000000
set_option maxRecDepth 100000
attribute [local go_sem] Od' Pd' Xd' Yd' Jd' Kd' Qd' Rd'
def ih' (xs ws : List Int) : Nat → Int → Option Int
 | 0,_=>none
 | k + 1,i=>if inR i xs.length then if rd xs i ∈ ws then some i else ih' xs ws k (i + 1) else none
def dnF (bk xs : List Int) : Nat → Int → List Int → List Int → List Int × List Int
 | 0,_,mem,lk=>(mem,lk)
 | f + 1,k,mem,lk=>if 0 ≤ k then dnF bk xs f (k - 1) (mem ++ [rd xs k]) (lk ++ [rd bk (rd xs k)]) else (mem,lk)
def upF (bk ws : List Int) (j : Int) : Nat → Int → List Int → List Int → Option (List Int × List Int)
 | 0,_,_,_=>none
 | f + 1,k,mem,lk=>if inR k ws.length then if rd ws k = j then some (mem,lk) else upF bk ws j f (k + 1) (mem ++ [rd ws k]) (lk ++ [rd bk (rd ws k)]) else none
def inF (n : Int) : List Int → List (S89) → List (S89)
 | [],nd=>nd
 | m :: l,nd=>inF n l (mateAt (inAt nd m n) m (-1))
theorem Ml' (v : Int) (l : List Int) (hl : l.length ≤ 1000000000) : ∀ (k : Nat) (i : Int),0 ≤ i → (l.length : Int) < i + k → i ≤ l.length → impl_hasInt.l0 k v l (l.length : Int) i = some (decide (v ∈ l.drop i.toNat))
 | 0,i,h0,h,hi=>absurd h aa'
 | k + 1,i,h0,h,hi=>by
  unfold impl_hasInt.l0
  by_cases c : i < (l.length : Int)
  ·rw [if_pos c,if_pos h0,if_pos c,Jf' l i h0 c]
   by_cases e : rd l i = v
   ·rw [if_pos e,e]
    simp
   rw [if_neg e,w64 aa' aa',Ml' v l hl k (i + 1) aa' aa' aa']
   congr 1
   rw [decide_eq_decide,List.mem_cons]
   exact ⟨.inr,fun h=>h.resolve_left fun h=>e h.symm⟩
  rw [if_neg c,List.drop_eq_nil_of_le aa']
  simp
theorem ep' (v : Int) (l : List Int) (hl : l.length ≤ 1000000000) : impl_hasInt.f (l.length + 1) l v = some (decide (v ∈ l)):=by
 rw [impl_hasInt.f,Ml' v l hl (l.length + 1) 0 aa' aa' aa']
 rfl
theorem fp' (w : World) (o o' : Obj) : ((w.alloc o).alloc o').heap[w.heap.size + 1]? = some o':=by
 have h:=yd' (w.alloc o) o'
 rwa [show (w.alloc o).heap.size = w.heap.size + 1 from by simp] at h
structure Fw (w0 W : World) (g : Nat) (N : Int) (Ae : Option Addr) (ce : Nat) (es : List (S73)) (col : Nat → Nat) (vy vn vl va vb : Value) (s : SI) (vx vw : Value) (xs ws : List Int) : Prop where
 S : Sol w0 W g N Ae ce es col vy vn vl va vb s
 rx : Kd.R (Kd.int .i64) 3 W w0.heap.size (fun k=>col k = 9) vx xs
 rw : Kd.R (Kd.int .i64) 3 W w0.heap.size (fun k=>col k = 10) vw ws
section
variable {w0 W W1 W2 : World} {g : Nat} {N : Int} {Ae : Option Addr} {ce : Nat} {es : List (S73)} {col : Nat → Nat} {vy vn vl va vb vx vw v : Value} {s : SI} {xs ws : List Int}
theorem Fw.to (h : Fw w0 W g N Ae ce es col vy vn vl va vb s vx vw xs ws) (hb : Below W.heap.size W W1) : Fw w0 W1 g N Ae ce es col vy vn vl va vb s vx vw xs ws:=⟨h.S.to hb,Kd.R_below h.rx hb,Kd.R_below h.rw hb⟩
theorem Xn' {l : List Int} (ho : Kd.R (Kd.int .i64) 3 W1 W.heap.size (fun _=>True) v l) (hb : w0.heap.size ≤ W.heap.size) (c : Nat) : Kd.R (Kd.int .i64) 3 W1 w0.heap.size (fun k=>(if W.heap.size ≤ k then c else col k) = c) v l :=
 Kd.R_lower (Kd.R_mono (Kd.R_bound ho) nc') hb
theorem Fw.make (h : Sol w0 W g N Ae ce es col vy vn vl va vb s) (hx : Kd.R (Kd.int .i64) 3 W1 W.heap.size (fun _=>True) vx xs) (b1 : Below W.heap.size W W1) (hw : Kd.R (Kd.int .i64) 3 W2 W1.heap.size (fun _=>True) vw ws) (b2 : Below W1.heap.size W1 W2) : ∃ col',Fw w0 W2 g N Ae ce es col' vy vn vl va vb s vx vw xs ws:=by
 have hc1 : ∀ k,k < W.heap.size → (if W.heap.size ≤ k then 9 else col k) = col k:=fun k hk=>by rw [if_neg aa']
 have hc2 : ∀ k,k < W1.heap.size → (if W1.heap.size ≤ k then 10 else (if W.heap.size ≤ k then 9 else col k)) = (if W.heap.size ≤ k then 9 else col k):=fun k hk=>by rw [if_neg aa']
 exact ⟨fun k=>if W1.heap.size ≤ k then 10 else (if W.heap.size ≤ k then 9 else col k),(((h.recol hc1).to b1).recol hc2).to b2,Kd.R_below (ve' (col:=fun k=>if W.heap.size ≤ k then 9 else col k) (Xn' hx h.hb.size 9) hc2) b2,Xn' hw (Nat.le_trans h.hb.size b1.size) 10⟩
end
theorem one_R {W : World} {base z : Nat} {x : Int} {ok : Nat → Prop} (hb : base ≤ z) (h : W.heap[z]? = some (.cells #[.int .i64 x] 3 (0,0))) (hk : ok z) : Kd.R (Kd.int .i64) 3 W base ok (.slice (some ⟨z,0,none⟩) 1 1) [x]:=by
 refine ⟨fun k e=>?_,[.int .i64 x],⟨rfl,.inr ⟨z,1,_,rfl,hb,h,Nat.le_refl _,ba',rfl,rfl⟩⟩,rfl,?_⟩
 ·have : z = k:=by simpa [Value.ownBlock] using e
  subst this
  exact hk
 intro i y hy
 cases i with
 | zero =>
  obtain rfl : x = y:=by simpa using hy
  rfl
 | succ n=>simp at hy
theorem put7 {W : World} {gr : Nat} {a0 a1 a2 a3 a4 a5 a6 b0 b1 b2 b3 b4 b5 b6 : Value} (h : W.heap[gr]? = some (.cells #[a0,a1,a2,a3,a4,a5,a6] 89 (0,0))) :
  (((((((W.setCell ⟨gr,0,none⟩ b0).setCell ⟨gr,1,none⟩ b1).setCell ⟨gr,2,none⟩ b2).setCell ⟨gr,3,none⟩ b3).setCell ⟨gr,4,none⟩ b4).setCell ⟨gr,5,none⟩ b5).setCell ⟨gr,6,none⟩ b6).heap[gr]? = some (.cells #[b0,b1,b2,b3,b4,b5,b6] 89 (0,0)):=by
 simpa using be' (be' (be' (be' (be' (be' (be' h 0 b0) 1 b1) 2 b2) 3 b3) 4 b4) 5 b5) 6 b6
theorem far7 {W : World} {gr z : Nat} {b0 b1 b2 b3 b4 b5 b6 : Value} (hz : z ≠ gr) : (((((((W.setCell ⟨gr,0,none⟩ b0).setCell ⟨gr,1,none⟩ b1).setCell ⟨gr,2,none⟩ b2).setCell ⟨gr,3,none⟩ b3).setCell ⟨gr,4,none⟩ b4).setCell ⟨gr,5,none⟩ b5).setCell ⟨gr,6,none⟩ b6).heap[z]? = W.heap[z]? :=
 (Below.heap_setCell _ ⟨gr,6,none⟩ _ z hz).trans ((Below.heap_setCell _ ⟨gr,5,none⟩ _ z hz).trans ((Below.heap_setCell _ ⟨gr,4,none⟩ _ z hz).trans ((Below.heap_setCell _ ⟨gr,3,none⟩ _ z hz).trans ((Below.heap_setCell _ ⟨gr,2,none⟩ _ z hz).trans ((Below.heap_setCell _ ⟨gr,1,none⟩ _ z hz).trans (Below.heap_setCell _ ⟨gr,0,none⟩ _ z hz))))))
theorem Ik' {w0 W : World} {g : Nat} {N : Int} {Ae : Option Addr} {ce : Nat} {es : List (S73)} {col : Nat → Nat} {vy vn vl va vb : Value} {s : SI} (hS : Sol w0 W g N Ae ce es col vy vn vl va vb s) (e a b i : Int) (k : Nat) (hk : k ≤ 1000) (xs ws mem_ lk_ : List Int) (hx : wayF s.ah k a = some xs) (hw : wayF s.ah k b = some ws) (hi : ih' xs ws (xs.length + 1) 0 = some i)
  (hxs : ∀ m ∈ xs,inR m s.nd.length ∧ inR m s.bk.length) (hws : ∀ m ∈ ws,inR m s.nd.length ∧ inR m s.bk.length) (hlx : xs.length ≤ 1000) (hlw : ws.length ≤ 1000)
  (hu : upF s.bk ws (rd xs i) (ws.length + 1) 0 (dnF s.bk xs (xs.length + 1) (i - 1) [rd xs i] []).1 ((dnF s.bk xs (xs.length + 1) (i - 1) [rd xs i] []).2 ++ [e]) = some (mem_,lk_)) (hsz : s.nd.length ≤ 1000000) (hmb : ∀ m ∈ mem_,inR m s.nd.length) :
  Calls Tryz.prog 68 #[.pointer (some ⟨g,0,none⟩),.int .i64 e,.int .i64 a,.int .i64 b] W fun r w'=>r = .returned (.tuple #[]) ∧ ∃ col vn,Sol w0 w' g N Ae ce es col vy vn vl va vb { s with nd:=inF s.nd.length mem_ s.nd ++ [⟨mem_,lk_,-1,(td' s.nd (rd xs i)).f3,(td' s.nd (rd xs i)).f4,0,false⟩] }:=by
 have hu87:=Tryz.underlying87
 have hu89:=Tryz.underlying89
 have hu73:=Tryz.underlying73
 have hu35:=Tryz.underlying35
 have HS:=qz.mk hS
 clear hS
 have hu27:=Tryz.underlying27
 obtain ⟨Ab,cb,e_⟩:=Kd.R_slice HS.o.rb
 subst e_
 have HQ1:=qz.mk (Jl' HS.o k aa' a xs hx)
 have HQ2:=qz.mk (fun (W' : World) (h : Sol w0 W' g N Ae ce es col vy vn vl va (.slice Ab s.bk.length cb) s)=>Jl' h k aa' b ws hw)
 clear hx hw
 go_enter Tryz.func68,Tryz.ntmps68
 go_wp2_with (first|(go_at_call 87;refine HQ1.o.mono ?_;rintro r w1 ⟨vx,rfl,hx,hb1⟩;have HX:=qz.mk hx;have HB1:=qz.mk hb1;have HS1:=qz.mk (HS.o.to hb1);clear hx hb1 HQ1)|(go_at_call 87;refine (HQ2.o _ HS1.o).mono ?_;rintro r w2 ⟨vw,rfl,hw,hb2⟩;obtain ⟨col2,hF⟩:=Fw.make HS.o HX.o HB1.o hw hb2;have HF:=qz.mk hF;clear hF hw hb2 HQ2))
 obtain ⟨Ax,cx,e_⟩:=Kd.R_slice HF.o.rx
 subst e_
 obtain ⟨Aw,cw,e_⟩:=Kd.R_slice HF.o.rw
 subst e_
 have HT:=qz.mk hi
 have HXS:=qz.mk hxs
 have HWS:=qz.mk hws
 have HU:=qz.mk hu
 have HMB:=qz.mk hmb
 have H0:=qz.mk (And.intro hsz (And.intro hlx hlw))
 clear hi hxs hws hu hsz hlx hlw hmb HX HB1 HS1
 go_loopg [10] (xs.length + 1) (fun kq v10 w'=>∃ j : Int,v10 = .int .i64 j ∧ qz (0 ≤ j ∧ j + kq = xs.length + 1) ∧ qz (ih' xs ws kq j = some i) ∧ qz (Fw w0 w' g N Ae ce es col2 vy vn vl va (.slice Ab s.bk.length cb) s (.slice Ax xs.length cx) (.slice Aw ws.length cw) xs ws))
 case atStart=>exact ⟨0,rfl,⟨aa',aa'⟩,HT,HF⟩
 clear HT HF
 obtain ⟨j,rfl,HI,HT,HF⟩:=hrel
 have h:=HT.o
 clear HT
 obtain _|k1:=gk
 ·cases h
 rw [ih'] at h
 by_cases c : inR j xs.length
 ·rw [if_pos c] at h
  obtain ⟨p,q⟩:=c
  have HJ:=qz.mk q
  obtain ⟨ax,e_,hxj⟩:=Kd.at_int (Kd.R_reads' HF.o.rx).2.2 j p q
  subst e_
  have pb:=eq_true p
  have qb:=eq_true q
  have HHI:=qz.mk (impl_hasInt.calls _ Aw cw ws (rd xs j) _ wr (Kd.R_reads' HF.o.rw).2.2 (Kd.R_reads' HF.o.rw).2.1 (ep' (rd xs j) ws pa'))
  by_cases cm : rd xs j ∈ ws
  ·rw [if_pos cm] at h
   obtain rfl:=Option.some.inj h
   rw [decide_eq_true cm] at HHI
   clear h cm
   go_wp2_with (first|(go_at_call 88;refine HHI.o.mono ?_;rintro r w3 ⟨rfl,⟨nd,rfl⟩⟩))
   have HF4:=qz.mk (HF.o.to (qd (Below.refl _ _) nd))
   clear hxj HHI HF
   generalize wr.drewN nd = w4 at HF4 ⊢
   obtain ⟨An,cn,e_⟩:=Kd.R_slice HF4.o.S.rn
   subst e_
   have hjm:=HXS.o _ (Vd' xs j p HJ.o)
   obtain ⟨bn,_,e_,-⟩:=fe' HF4.o.S.rn (by have:=hjm.1.1;have:=hjm.1.2;omega)
   injection e_ with e_ e2_ e3_
   clear e2_ e3_
   subst e_
   have hc:=HF4.o.S.cells
   obtain ⟨A0n,c0n,A1n,c1n,nx0,nx1,nx2,nx3,nx4,nx5,nx6,nf2,nf3,nf5,nf6,-⟩:=HF4.o.S.node_at (rd xs j) hjm.1.1 hjm.1.2
   have pj:=eq_true hjm.1.1
   have qj:=eq_true hjm.1.2
   refine Md' (n:=21) (S:=fun w'=>w'.cell? ⟨g,3,none⟩ = some (.slice (some ⟨bn,0,none⟩) s.nd.length cn) ∧ w'.cell? ⟨bn,(rd xs j).toNat * 7 + 3,none⟩ = some (.int .i64 (td' s.nd (rd xs j)).f3) ∧ w'.cell? ⟨bn,(rd xs j).toNat * 7 + 4,none⟩ = some (.int .i64 (td' s.nd (rd xs j)).f4)) (ds:=[20]) (Array.replicate 21 false) da' rfl rfl ⟨hc.2.2.2.1,nx3,nx4⟩ (fun hHeld=>?_)
   refine pa_ 0 36 (bz_ 21 1) ?_
   refine pa_ 2 38 (bz_ 21 5) ?_
   refine pa_ 3 39 (bz_ 21 13) ?_
   refine pa_ 4 40 (bz_ 21 29) ?_
   refine pa_ 6 42 (bz_ 21 93) ?_
   refine pa_ 10 46 (bz_ 21 1117) ?_
   refine pa_ 11 47 (bz_ 21 3165) ?_
   refine pa_ 12 48 (bz_ 21 7261) ?_
   refine pa_ 14 50 (bz_ 21 23645) ?_
   refine ta_ 5 41 (bz_ 21 23677) hHeld (hy:=Or.inl ⟨ca',ra'⟩) (h:=?_)
   refine pa_ 7 43 (bz_ 21 23805) ?_
   refine pa_ 8 44 (bz_ 21 24061) ?_
   refine ta_ 9 45 (bz_ 21 24573) hHeld (hy:=Or.inl ⟨ca',ra'⟩) (h:=?_)
   refine ta_ 13 49 (bz_ 21 32765) hHeld (hy:=Or.inl ⟨ca',ra'⟩) (h:=?_)
   refine pa_ 15 51 (bz_ 21 65533) ?_
   refine pa_ 16 52 (bz_ 21 131069) ?_
   refine ta_ 17 53 (bz_ 21 262141) hHeld (hy:=Or.inl ⟨ca',ra'⟩) (h:=?_)
   refine join_ (σ:=Nat × Nat) 1 (bz_ 21 1048575) (fun z=>[(37,.slice (some ⟨z.1,0,none⟩) 1 1),(54,.agg #[.slice (some ⟨z.1,0,none⟩) 1 1,.slice none 0 0,.int .i64 (-1),.int .i64 (td' s.nd (rd xs j)).f3,.int .i64 (td' s.nd (rd xs j)).f4,.int .i64 0,.bool false]),(12,.pointer (some ⟨z.2,0,none⟩))]) (fun z w'=>Below w4.heap.size w4 w' ∧ w4.heap.size ≤ z.1 ∧ w4.heap.size ≤ z.2 ∧ z.1 ≠ z.2 ∧ w'.heap[z.1]? = some (.cells #[.int .i64 (rd xs j)] 3 (0,0)) ∧ w'.heap[z.2]? = some (.cells #[.slice none 0 0,.slice none 0 0,.int .i64 0,.int .i64 0,.int .i64 0,.int .i64 0,.bool false] 89 (0,0))) ?_ ?_
   rotate_left
   ·intro hCont
    refine Vg' (i:=1) (j:=19) (Ni:=some 37) (Nj:=some 12) (bz_ 21 262143) (bz_ 21 786429) rfl rfl rfl rfl da' ba' ba' (fun K hK=>?_) (fun K hK=>?_)
    ·skip
     refine jf' (w1:=?_) (v:=?_) ca' rfl ?_ ?_
     rotate_left 2
     ·go_simp
      constructor
      ·rfl
      rfl
     refine hK.out _ _ ⟨vd' (qo (Below.refl _ _) _) hHeld.1,vd' (qo (Below.refl _ _) _) hHeld.2.1,vd' (qo (Below.refl _ _) _) hHeld.2.2⟩ (fun hHeld=>?_)
     clear hK K
     refine zd' (a':=?_) ?_ ?_
     rotate_left
     ·show Act.put _ (some 37) _ = _
      simp only [Act.put,List.setIfInBounds_toArray,List.set_cons_zero,List.set_cons_succ,Bd',Cd']
      rfl
     refine pa_ 18 54 (bz_ 21 524287) ?_
     refine Td' (i:=19) (N:=some 12) (bz_ 21 1048575) rfl rfl da' ba' (fun K hK=>?_)
     refine jf' (w1:=?_) (v:=?_) ca' rfl ?_ ?_
     rotate_left 2
     ·go_simp
      constructor
      ·rfl
      rfl
     refine hK.out _ _ ⟨vd' (qo (Below.refl _ _) _) hHeld.1,vd' (qo (Below.refl _ _) _) hHeld.2.1,vd' (qo (Below.refl _ _) _) hHeld.2.2⟩ (fun hHeld=>?_)
     clear hK K
     refine zd' (a':=?_) ?_ ?_
     rotate_left
     ·show Act.put _ (some 12) _ = _
      simp only [Act.put,List.setIfInBounds_toArray,List.set_cons_zero,List.set_cons_succ,Bd',Cd']
      rfl
     exact zd' ua' (hCont (w4.heap.size,(w4.heap.size + 1)) _ ⟨qo (qo (qh (Below.refl _ _)) _) _,Nat.le_refl _,Nat.le_succ _,aa',qg (heap_alloc_new _ _) _,fp' w4 _ _⟩)
    skip
    refine jf' (w1:=?_) (v:=?_) ca' rfl ?_ ?_
    rotate_left 2
    ·go_simp
     constructor
     ·rfl
     rfl
    refine hK.out _ _ ⟨vd' (qo (Below.refl _ _) _) hHeld.1,vd' (qo (Below.refl _ _) _) hHeld.2.1,vd' (qo (Below.refl _ _) _) hHeld.2.2⟩ (fun hHeld=>?_)
    clear hK K
    refine zd' (a':=?_) ?_ ?_
    rotate_left
    ·show Act.put _ (some 12) _ = _
     simp only [Act.put,List.setIfInBounds_toArray,List.set_cons_zero,List.set_cons_succ,Bd',Cd']
     rfl
    refine Td' (i:=1) (N:=some 37) (bz_ 21 786431) rfl rfl da' ba' (fun K hK=>?_)
    refine jf' (w1:=?_) (v:=?_) ca' rfl ?_ ?_
    rotate_left 2
    ·go_simp
     constructor
     ·rfl
     rfl
    refine hK.out _ _ ⟨vd' (qo (Below.refl _ _) _) hHeld.1,vd' (qo (Below.refl _ _) _) hHeld.2.1,vd' (qo (Below.refl _ _) _) hHeld.2.2⟩ (fun hHeld=>?_)
    clear hK K
    refine zd' (a':=?_) ?_ ?_
    rotate_left
    ·show Act.put _ (some 37) _ = _
     simp only [Act.put,List.setIfInBounds_toArray,List.set_cons_zero,List.set_cons_succ,Bd',Cd']
     rfl
    refine pa_ 18 54 (bz_ 21 1048575) ?_
    exact zd' ua' (hCont ((w4.heap.size + 1),w4.heap.size) _ ⟨qo (qo (qh (Below.refl _ _)) _) _,Nat.le_succ _,Nat.le_refl _,aa',fp' w4 _ _,qg (heap_alloc_new _ _) _⟩)
   rintro ⟨z,gr⟩ w5 ⟨hb5,hz1,hz2,hzz,hbz,hbr⟩
   have hHeld:=True.intro
   refine zd' (a':=?_) ?_ ?_
   rotate_left
   ·simp only [bi',Act.put,List.setIfInBounds_toArray,List.set_cons_zero,List.set_cons_succ]
    rfl
   refine de' (i:=20) (N:=none) (bz_ 21 2097151) rfl rfl da' ba' (fun K hK=>?_)
   have kc0 : w5.cell? ⟨gr,0,none⟩ = some (.slice none 0 0):=(qq hbr 0).trans rfl
   have kc1 : w5.cell? ⟨gr,1,none⟩ = some (.slice none 0 0):=(qq hbr 1).trans rfl
   have kc2 : w5.cell? ⟨gr,2,none⟩ = some (.int .i64 0):=(qq hbr 2).trans rfl
   have kc3 : w5.cell? ⟨gr,3,none⟩ = some (.int .i64 0):=(qq hbr 3).trans rfl
   have kc4 : w5.cell? ⟨gr,4,none⟩ = some (.int .i64 0):=(qq hbr 4).trans rfl
   have kc5 : w5.cell? ⟨gr,5,none⟩ = some (.int .i64 0):=(qq hbr 5).trans rfl
   have kc6 : w5.cell? ⟨gr,6,none⟩ = some (.bool false):=(qq hbr 6).trans rfl
   have kf0:=qu hbr 0
   have kf1:=qu hbr 1
   have kf2:=qu hbr 2
   have kf3:=qu hbr 3
   have kf4:=qu hbr 4
   have kf5:=qu hbr 5
   have kf6:=qu hbr 6
   refine Id' (w1:=?_) ca' rfl ?_ ?_
   rotate_left
   ·go_simp
    rfl
   refine hK.out _ _ ?_
   clear hK K
   refine Wd' da' ?_
   have HBX:=qz.mk (put7 (b0:=.slice (some ⟨z,0,none⟩) 1 1) (b1:=.slice none 0 0) (b2:=.int .i64 (-1)) (b3:=.int .i64 (td' s.nd (rd xs j)).f3) (b4:=.int .i64 (td' s.nd (rd xs j)).f4) (b5:=.int .i64 0) (b6:=.bool false) hbr)
   have HB6:=qz.mk (qp (qp (qp (qp (qp (qp (qp hb5 hz2 (j:=0) (v:=.slice (some ⟨z,0,none⟩) 1 1)) hz2 (j:=1) (v:=.slice none 0 0)) hz2 (j:=2) (v:=.int .i64 (-1))) hz2 (j:=3) (v:=.int .i64 (td' s.nd (rd xs j)).f3)) hz2 (j:=4) (v:=.int .i64 (td' s.nd (rd xs j)).f4)) hz2 (j:=5) (v:=.int .i64 0)) hz2 (j:=6) (v:=.bool false))
   have HZ6:=qz.mk ((far7 (b0:=.slice (some ⟨z,0,none⟩) 1 1) (b1:=.slice none 0 0) (b2:=.int .i64 (-1)) (b3:=.int .i64 (td' s.nd (rd xs j)).f3) (b4:=.int .i64 (td' s.nd (rd xs j)).f4) (b5:=.int .i64 0) (b6:=.bool false) (W:=w5) hzz).trans hbz)
   have HZG:=qz.mk (And.intro hz1 (And.intro hz2 hzz))
   clear kc0 kc1 kc2 kc3 kc4 kc5 kc6 kf0 kf1 kf2 kf3 kf4 kf5 kf6 hHeld hb5 hz1 hz2 hzz hbz hbr nx0 nx1 nx2 nx3 nx4 nx5 nx6 nf2 nf3 nf5 nf6 hc
   generalize ((((((w5.setCell _ _).setCell _ _).setCell _ _).setCell _ _).setCell _ _).setCell _ _).setCell _ _ = w6 at HBX HB6 HZ6 ⊢
   have HD : qz (Fd w0 w6 g N Ae ce es (fun k=>if w4.heap.size ≤ k then (if k = gr then 8 else 6) else col2 k) vy (.slice (some ⟨bn,0,none⟩) s.nd.length cn) vl va (.slice Ab s.bk.length cb) s gr (.slice (some ⟨z,0,none⟩) 1 1) (.slice none 0 0) [rd xs j] [] (td' s.nd (rd xs j)).f3 (td' s.nd (rd xs j)).f4 (.slice (some ax) xs.length cx) (.slice Aw ws.length cw) xs ws):=by
    have hc1 : ∀ k,k < w4.heap.size → (if w4.heap.size ≤ k then (if k = gr then 8 else 6) else col2 k) = col2 k:=fun k hk=>by rw [if_neg aa']
    obtain ⟨z1,z2,z3⟩:=HZG.o
    have hge:=HF4.o.S.hb.size
    exact ⟨⟨(HF4.o.S.recol hc1).to HB6.o,HBX.o,by rw [if_pos z2,if_pos rfl],Nat.le_trans hge z2,one_R (Nat.le_trans hge z1) HZ6.o (by rw [if_pos z1,if_neg z3]),Kd.R_nil _ _ _ _ _,Kd.R_below (ve' HF4.o.rx hc1) HB6.o,Kd.R_below (ve' HF4.o.rw hc1) HB6.o⟩⟩
   clear HF4 HBX HB6 HZ6 HZG
   go_wp2_with fail
   obtain ⟨DN,hDN⟩ : ∃ DN,dnF s.bk xs (xs.length + 1) (j - 1) [rd xs j] [] = DN:=⟨_,rfl⟩
   have HDN:=qz.mk hDN
   have hU:=HU.o
   rw [hDN] at hU
   replace HU:=qz.mk hU
   clear hU hDN
   go_loopg [13] (xs.length + 1) (fun kq v13 w'=>∃ (k : Int) (mem lk : List Int) (Am Ak : Option Addr) (cm ck : Nat) (col : Nat → Nat),v13 = .int .i64 k ∧ qz (-1 ≤ k ∧ k < xs.length ∧ k + 1 < kq) ∧ qz (mem.length + kq = xs.length + 2 ∧ lk.length + kq = xs.length + 1 ∧ xs.length ≤ 1000) ∧ qz (dnF s.bk xs kq k mem lk = DN) ∧ qz (Fd w0 w' g N Ae ce es col vy (.slice (some ⟨bn,0,none⟩) s.nd.length cn) vl va (.slice Ab s.bk.length cb) s gr (.slice Am mem.length cm) (.slice Ak lk.length ck) mem lk (td' s.nd (rd xs j)).f3 (td' s.nd (rd xs j)).f4 (.slice (some ax) xs.length cx) (.slice Aw ws.length cw) xs ws))
   case atStart=>exact ⟨j - 1,[rd xs j],[],_,_,_,_,_,Lc',⟨aa',Ja',Ja'⟩,⟨by simp only [List.length_singleton];omega,by simp only [List.length_nil];omega,pa'⟩,HDN,HD⟩
   clear HD HDN
   obtain ⟨k,mem,lk,Am,Ak,cm,ck,col3,rfl,HI,HL,HT,HD⟩:=hrel
   have h:=HT.o
   clear HT
   cases gk with
   | zero =>
    exfalso
    have h1:=HI.o
    omega
   | succ k1 =>
    rw [dnF] at h
    by_cases c : 0 ≤ k
    ·rw [if_pos c] at h
     have HT:=qz.mk h
     have cl0 : decide (k ≥ 0) = true:=decide_eq_true c
     have HK0:=qz.mk c
     obtain ⟨_,e_,hxk⟩:=Kd.at_int (Kd.R_reads' HD.o.rx).2.2 k c fa'
     obtain rfl:=Option.some.inj e_
     have hkm:=HXS.o _ (Vd' xs k c fa')
     obtain ⟨ab,e_,hbk⟩:=Kd.at_int (Kd.R_reads' HD.o.S.rb).2.2 (rd xs k) hkm.2.1 hkm.2.2
     subst e_
     have p1:=eq_true c
     have q1 : (k < (xs.length : Int)) = True:=eq_true fa'
     have p2:=eq_true hkm.2.1
     have q2:=eq_true hkm.2.2
     clear h c
     go_wp2_with fail
     have HDd : qz (Fd w0 wr.drew _ _ _ _ _ (fun q=>if wr.heap.size ≤ q then 7 else col3 q) _ _ _ _ _ _ gr (.slice Am mem.length cm) (.slice Ak lk.length ck) mem lk _ _ _ _ xs ws):=⟨(HD.o.ahead 7).to (qh (Below.refl _ _))⟩
     refine Md' (n:=16) (S:=fun w'=>w'.cell? ⟨gr,1,none⟩ = some (.slice Ak lk.length ck) ∧ w'.cell? (ax.add k.toNat) = some (.int .i64 (rd xs k)) ∧ w'.cell? ⟨g,6,none⟩ = some (.slice (some ab) s.bk.length cb) ∧ w'.cell? (ab.add (rd xs k).toNat) = some (.int .i64 (rd s.bk (rd xs k)))) (ds:=[13,15]) (Array.replicate 16 false) da' rfl rfl ⟨HD.o.cells.2.1,hxk,HD.o.S.cells.2.2.2.2.2.2.1,hbk⟩ (fun hHeld=>?_)
     refine pa_ 0 61 (bz_ 16 1) ?_
     refine pa_ 2 63 (bz_ 16 5) ?_
     refine pa_ 3 64 (bz_ 16 13) ?_
     refine pa_ 4 65 (bz_ 16 29) ?_
     refine pa_ 6 67 (bz_ 16 93) ?_
     refine pa_ 7 68 (bz_ 16 221) ?_
     refine pa_ 8 69 (bz_ 16 477) ?_
     refine ta_ 1 62 (bz_ 16 479) hHeld (hy:=Or.inl ⟨ca',na'⟩) (h:=?_)
     refine ta_ 5 66 (bz_ 16 511) hHeld (hy:=Or.inl ⟨ca',na'⟩) (h:=?_)
     refine ta_ 9 70 (bz_ 16 1023) hHeld (hy:=Or.inl ⟨ca',na'⟩) (h:=?_)
     refine pa_ 10 71 (bz_ 16 2047) ?_
     refine ta_ 11 72 (bz_ 16 4095) hHeld (hy:=Or.inl ⟨ca',na'⟩) (h:=?_)
     refine Td' (i:=12) (N:=some 73) (bz_ 16 8191) rfl rfl da' ba' (fun K hK=>?_)
     refine jf' (w1:=?_) (v:=?_) ca' rfl ?_ ?_
     rotate_left 2
     ·go_simp
      constructor
      ·rfl
      rfl
     refine hK.out _ _ ⟨vd' (qo (Below.refl _ _) _) hHeld.1,vd' (qo (Below.refl _ _) _) hHeld.2.1,vd' (qo (Below.refl _ _) _) hHeld.2.2.1,vd' (qo (Below.refl _ _) _) hHeld.2.2.2⟩ (fun hHeld=>?_)
     clear hK K
     refine zd' (a':=?_) ?_ ?_
     rotate_left
     ·show Act.put _ (some 73) _ = _
      simp only [Act.put,List.setIfInBounds_toArray,List.set_cons_zero,List.set_cons_succ,Bd',Cd']
      rfl
     refine de' (i:=13) (N:=some 74) (bz_ 16 16383) rfl rfl da' ba' (fun K hK=>?_)
     refine Kd.R_append_step (Kd.int .i64) (w0:=w0) (W:=wr.drew) w0.heap.size ca' (.tmp 62) (.tmp 73) 27 3 (.int .i64 0) 8 rfl Tryz.underlying27 Ud' rfl ba' aa' (.slice Ak lk.length ck) lk (rd s.bk (rd xs k)) [.int .i64 (rd s.bk (rd xs k))] (fun q=>(if wr.heap.size ≤ q then 7 else col3 q) = 7) (fun _=>False) ca' ca' rfl (fun _ hk=>hk.elim) (fun q hq=>if_pos hq) HDd.o.rk HDd.o.S.hb HDd.o.S.hb.size oa' ?_
     intro v7 w7 ho hb hg hat
     obtain ⟨A7,c7,e_⟩:=Kd.R_slice ho
     rw [List.length_append,List.length_singleton] at e_
     subst e_
     obtain ⟨hD3,hx3,hf3⟩:=Fd.app_k HDd.o ho hb hg
     have HD3:=qz.mk hD3
     clear hD3 ho hb hg hat
     refine hK.out _ _ ?_
     clear hK K
     refine zd' (a':=?_) ?_ ?_
     rotate_left
     ·show Act.put _ (some 74) _ = _
      simp only [Act.put,List.setIfInBounds_toArray,List.set_cons_zero,List.set_cons_succ,Bd',Cd']
      rfl
     refine pa_ 14 75 (bz_ 16 32767) ?_
     refine de' (i:=15) (N:=none) (bz_ 16 65535) rfl rfl da' ba' (fun K hK=>?_)
     refine Id' (w1:=?_) ca' rfl ?_ ?_
     rotate_left
     ·go_simp
      rfl
     refine hK.out _ _ ?_
     clear hK K
     refine Wd' da' ?_
     clear hx3 hf3 HDd
     generalize w7.setCell _ _ = w8 at HD3 ⊢
     clear hxk hbk HD
     obtain ⟨_,e_,hxk⟩:=Kd.at_int (Kd.R_reads' HD3.o.rx).2.2 k HK0.o fa'
     obtain rfl:=Option.some.inj e_
     go_wp2_with fail
     have HDd : qz (Fd w0 w8.drew _ _ _ _ _ (fun q=>if w8.heap.size ≤ q then 6 else (fun q=>if wr.heap.size ≤ q then 7 else col3 q) q) _ _ _ _ _ _ gr (.slice Am mem.length cm) (_) mem _ _ _ _ _ xs ws):=⟨(HD3.o.ahead 6).to (qh (Below.refl _ _))⟩
     refine Md' (n:=10) (S:=fun w'=>w'.cell? ⟨gr,0,none⟩ = some (.slice Am mem.length cm) ∧ w'.cell? (ax.add k.toNat) = some (.int .i64 (rd xs k))) (ds:=[7,9]) (Array.replicate 10 false) da' rfl rfl ⟨HD3.o.cells.1,hxk⟩ (fun hHeld=>?_)
     refine pa_ 0 76 (bz_ 10 1) ?_
     refine pa_ 2 78 (bz_ 10 5) ?_
     refine pa_ 3 79 (bz_ 10 13) ?_
     refine pa_ 4 80 (bz_ 10 29) ?_
     refine ta_ 1 77 (bz_ 10 31) hHeld (hy:=Or.inl ⟨ca',ja'⟩) (h:=?_)
     refine ta_ 5 81 (bz_ 10 63) hHeld (hy:=Or.inl ⟨ca',ja'⟩) (h:=?_)
     refine Td' (i:=6) (N:=some 82) (bz_ 10 127) rfl rfl da' ba' (fun K hK=>?_)
     refine jf' (w1:=?_) (v:=?_) ca' rfl ?_ ?_
     rotate_left 2
     ·go_simp
      constructor
      ·rfl
      rfl
     refine hK.out _ _ ⟨vd' (qo (Below.refl _ _) _) hHeld.1,vd' (qo (Below.refl _ _) _) hHeld.2⟩ (fun hHeld=>?_)
     clear hK K
     refine zd' (a':=?_) ?_ ?_
     rotate_left
     ·show Act.put _ (some 82) _ = _
      simp only [Act.put,List.setIfInBounds_toArray,List.set_cons_zero,List.set_cons_succ,Bd',Cd']
      rfl
     refine de' (i:=7) (N:=some 83) (bz_ 10 255) rfl rfl da' ba' (fun K hK=>?_)
     refine Kd.R_append_step (Kd.int .i64) (w0:=w0) (W:=w8.drew) w0.heap.size ca' (.tmp 77) (.tmp 82) 27 3 (.int .i64 0) 8 rfl Tryz.underlying27 Ud' rfl ba' aa' (.slice Am mem.length cm) mem (rd xs k) [.int .i64 (rd xs k)] (fun q=>(if w8.heap.size ≤ q then 6 else (fun q=>if wr.heap.size ≤ q then 7 else col3 q) q) = 6) (fun _=>False) ca' ca' rfl (fun _ hk=>hk.elim) (fun q hq=>if_pos hq) HDd.o.rm HDd.o.S.hb HDd.o.S.hb.size oa' ?_
     intro v7 w7 ho hb hg hat
     obtain ⟨A7,c7,e_⟩:=Kd.R_slice ho
     rw [List.length_append,List.length_singleton] at e_
     subst e_
     obtain ⟨hD3,hx3,hf3⟩:=Fd.app_m HDd.o ho hb hg
     have HD4:=qz.mk hD3
     clear hD3 ho hb hg hat
     refine hK.out _ _ ?_
     clear hK K
     refine zd' (a':=?_) ?_ ?_
     rotate_left
     ·show Act.put _ (some 83) _ = _
      simp only [Act.put,List.setIfInBounds_toArray,List.set_cons_zero,List.set_cons_succ,Bd',Cd']
      rfl
     refine pa_ 8 84 (bz_ 10 511) ?_
     refine de' (i:=9) (N:=none) (bz_ 10 1023) rfl rfl da' ba' (fun K hK=>?_)
     refine Id' (w1:=?_) ca' rfl ?_ ?_
     rotate_left
     ·go_simp
      rfl
     refine hK.out _ _ ?_
     clear hK K
     refine Wd' da' ?_
     clear hx3 hf3 HDd
     generalize w7.setCell _ _ = w9 at HD4 ⊢
     go_wp2_with fail
     go_roundg k1
     case measure=>omega
     case rel=>exact ⟨k - 1,_,_,_,_,_,_,_,by rw [w64 Ia' bb'],⟨Ia',fa',fa'⟩,⟨Ka',Ka',HL.o.2.2⟩,HT,Mc'⟩
    rw [if_neg c] at h
    have cl0 : decide (k ≥ 0) = false:=decide_eq_false c
    subst h
    clear c
    have hcx:=HD.o.cells
    have HDa:=qz.mk (HD.o.ahead 7)
    go_upto_region 12 with (first|((with_reducible refine Ld' (b:=.append) (xs:=#[.tmp 86,.tmp 88]) rfl ?_);at_builtin;refine Kd.R_append (Kd.int .i64) (w0:=w0) (W:=wr) w0.heap.size rfl (.tmp 86) (.tmp 88) 27 3 (.int .i64 0) 8 rfl Tryz.underlying27 Ud' rfl ba' aa' (.slice Ak lk.length ck) lk e [.int .i64 e] (fun q=>(if wr.heap.size ≤ q then 7 else col3 q) = 7) (fun _=>False) rfl rfl rfl (fun _ hk=>hk.elim) (fun q hq=>if_pos hq) HDa.o.rk HDa.o.S.hb HDa.o.S.hb.size oa' ?_;intro v7 w7 ho hb hg hat;obtain ⟨A7,c7,e_⟩:=Kd.R_slice ho;rw [List.length_append,List.length_singleton] at e_;subst e_;obtain ⟨hD3,hx3,hf3⟩:=Fd.app_k HDa.o ho hb hg;have HD3:=qz.mk hD3;clear hD3 ho hb hg hat))
    clear hcx hx3 hf3 HD HDa
    generalize w7.setCell _ _ = w8 at HD3 ⊢
    have hU:=HU.o
    dsimp only at hU
    replace HU:=qz.mk hU
    clear hU
    go_wp2_with fail
    rw [← List.length_singleton (a:=e),← List.length_append] at HD3
    go_loopg [14] (ws.length + 1) (fun kq v14 w'=>∃ (k : Int) (mem lk : List Int) (Am Ak : Option Addr) (cm ck : Nat) (col : Nat → Nat),v14 = .int .i64 k ∧ qz (0 ≤ k ∧ k + kq = ws.length + 1) ∧ qz ((mem.length : Int) ≤ 1010 + k ∧ (lk.length : Int) ≤ 1010 + k ∧ k ≤ ws.length ∧ ws.length ≤ 1000) ∧ qz (upF s.bk ws (rd xs j) kq k mem lk = some (mem_,lk_)) ∧ qz (Fd w0 w' g N Ae ce es col vy (.slice (some ⟨bn,0,none⟩) s.nd.length cn) vl va (.slice Ab s.bk.length cb) s gr (.slice Am mem.length cm) (.slice Ak lk.length ck) mem lk (td' s.nd (rd xs j)).f3 (td' s.nd (rd xs j)).f4 (.slice (some ax) xs.length cx) (.slice Aw ws.length cw) xs ws))
    case atStart=>exact ⟨0,mem,lk ++ [e],_,_,_,_,_,rfl,⟨aa',aa'⟩,⟨by have:=HL.o;have:=HI.o;omega,by rw [List.length_append,List.length_singleton];have:=HL.o;have:=HI.o;omega,aa',pa'⟩,HU,HD3⟩
    clear HU HD3 HI HL
    obtain ⟨k,mem,lk,Am,Ak,cm,ck,col3,rfl,HI,HL,HT,HD⟩:=hrel
    have h:=HT.o
    clear HT
    obtain _|k2:=gk
    ·cases h
    rw [upF] at h
    by_cases c : inR k ws.length
    ·rw [if_pos c] at h
     obtain ⟨p,q⟩:=c
     have HK0:=qz.mk p
     have HK1:=qz.mk q
     obtain ⟨aw,e_,hxk⟩:=Kd.at_int (Kd.R_reads' HD.o.rw).2.2 k p q
     subst e_
     have p1:=eq_true p
     have q1:=eq_true q
     by_cases cj : rd ws k = rd xs j
     ·rw [if_pos cj] at h
      have cb1 : (rd ws k != rd xs j) = false:=by simpa using cj
      obtain ⟨e1_,e2_⟩:=Prod.mk.inj (Option.some.inj h)
      subst e1_
      subst e2_
      have hcx:=HD.o.cells
      clear h cj
      go_wp2_with fail
      have HML : qz ((mem.length : Int) ≤ 3000):=⟨oa'⟩
      clear hcx hxk HI HL
      go_loopg [126] (mem.length + 1) (fun kq v126 w'=>∃ (i : Int) (nd : List (S89)),v126 = .int .i64 i ∧ qz (0 ≤ i ∧ i + kq = mem.length + 1 ∧ i ≤ mem.length) ∧ qz (inF s.nd.length (mem.drop i.toNat) nd = inF s.nd.length mem s.nd) ∧ qz (nd.length = s.nd.length) ∧ qz (Fd w0 w' g N Ae ce es col3 vy (.slice (some ⟨bn,0,none⟩) s.nd.length cn) vl va (.slice Ab s.bk.length cb) { s with nd:=nd } gr (.slice Am mem.length cm) (.slice Ak lk.length ck) mem lk (td' s.nd (rd xs j)).f3 (td' s.nd (rd xs j)).f4 (.slice (some ax) xs.length cx) (.slice (some aw) ws.length cw) xs ws))
      case atStart=>exact ⟨0,s.nd,rfl,⟨aa',aa',aa'⟩,⟨rfl⟩,⟨rfl⟩,HD⟩
      clear HD
      obtain ⟨i2,nd,rfl,HI,HT,HL,HD⟩:=hrel
      have h:=HT.o
      clear HT
      have hc:=HD.o.S.cells
      cases gk with
      | zero =>
       exfalso
       have h1:=HI.o
       omega
      | succ k3 =>
       by_cases c : i2 < (mem.length : Int)
       ·have hi:=HI.o
        rw [Jf' _ _ hi.1 c,inF] at h
        have HT:=qz.mk h
        have cl0 : decide (i2 < (mem.length : Int)) = true:=decide_eq_true c
        have HIL:=qz.mk c
        obtain ⟨am,e_,hmi⟩:=Kd.at_int (Kd.R_reads' HD.o.rm).2.2 i2 hi.1 c
        subst e_
        have pi:=eq_true hi.1
        have qi:=eq_true c
        have hm:=HMB.o _ (Vd' mem i2 hi.1 c)
        obtain ⟨pm,qm⟩:=hm
        have qm' : rd mem i2 < (nd.length : Int):=by rw [HL.o];exact qm
        clear c hi h
        obtain ⟨A0n,c0n,A1n,c1n,nx0,nx1,nx2,nx3,nx4,nx5,nx6,nf2,nf3,nf5,nf6,-⟩:=HD.o.S.node_at (rd mem i2) pm qm'
        have HD2:=qz.mk (HD.o.sn (HD.o.S.sn (rd mem i2) pm qm' 2 (.int .i64 (s.nd.length : Int)) { td' nd (rd mem i2) with f2:=(s.nd.length : Int) } ba' (fun _ _=>rfl) ⟨rfl,rfl⟩))
        have pmb:=eq_true pm
        have qmb:=eq_true qm
        go_wp2_with fail
        refine Md' (n:=13) (S:=fun w'=>w'.cell? ⟨g,3,none⟩ = some (.slice (some ⟨bn,0,none⟩) s.nd.length cn)) (ds:=[12]) (Array.replicate 13 false) da' rfl rfl (hc.2.2.2.1) (fun hHeld=>?_)
        refine pa_ 0 130 (bz_ 13 1) ?_
        refine pa_ 1 131 (bz_ 13 3) ?_
        refine pa_ 2 132 (bz_ 13 7) ?_
        refine pa_ 4 134 (bz_ 13 23) ?_
        refine pa_ 5 135 (bz_ 13 55) ?_
        refine pa_ 6 136 (bz_ 13 119) ?_
        refine pa_ 7 137 (bz_ 13 247) ?_
        refine Kj' (i:=3) (N:=some 133) (v:=?_) (a':=?_) (bz_ 13 255) rfl rfl da' (fun _ _ _ h=>h) (Or.inl ⟨ca',?_⟩) hHeld ?_ ?_
        rotate_left
        ·intro w' s0
         go_simp
         with_reducible rfl
        rotate_left
        ·simp only [Act.put,List.setIfInBounds_toArray,List.set_cons_zero,List.set_cons_succ,Bd',Cd']
         rfl
        refine Kj' (i:=8) (N:=some 138) (v:=?_) (a':=?_) (bz_ 13 511) rfl rfl da' (fun _ _ _ h=>h) (Or.inl ⟨ca',?_⟩) hHeld ?_ ?_
        rotate_left
        ·intro w' s0
         go_simp
         with_reducible rfl
        rotate_left
        ·simp only [Act.put,List.setIfInBounds_toArray,List.set_cons_zero,List.set_cons_succ,Bd',Cd']
         rfl
        refine pa_ 9 139 (bz_ 13 1023) ?_
        refine pa_ 10 140 (bz_ 13 2047) ?_
        refine pa_ 11 141 (bz_ 13 4095) ?_
        refine de' (i:=12) (N:=none) (bz_ 13 8191) rfl rfl da' ba' (fun K hK=>?_)
        refine Id' (w1:=?_) ca' rfl ?_ ?_
        rotate_left
        ·go_simp
         rfl
        refine hK.out _ _ ?_
        clear hK K
        refine Wd' da' ?_
        clear nx0 nx1 nx2 nx3 nx4 nx5 nx6 nf2 nf3 nf5 nf6 hc hmi HD
        replace HD2:=qz.mk (HD2.o.to (qh (Below.refl _ _)))
        generalize (wr.setCell _ _).drew = w9 at HD2 ⊢
        have hc:=HD2.o.S.cells
        have qm2 : rd mem i2 < ((inAt nd (rd mem i2) (s.nd.length : Int)).length : Int):=by rw [inAt,List.length_set];exact qm'
        obtain ⟨A0n,c0n,A1n,c1n,nx0,nx1,nx2,nx3,nx4,nx5,nx6,nf2,nf3,nf5,nf6,-⟩:=HD2.o.S.node_at (rd mem i2) pm qm2
        have HD3:=qz.mk (HD2.o.sn (HD2.o.S.sn (rd mem i2) pm qm2 3 (.int .i64 (-1)) { td' (inAt nd (rd mem i2) (s.nd.length : Int)) (rd mem i2) with f3:=-1 } ba' (fun _ _=>rfl) ⟨rfl,rfl⟩))
        go_wp2_with fail
        clear nx0 nx1 nx2 nx3 nx4 nx5 nx6 nf2 nf3 nf5 nf6 hc HD2
        generalize w9.setCell _ _ = w10 at HD3 ⊢
        skip
        go_roundg k3
        case measure=>omega
        case rel=>exact ⟨i2 + 1,_,by rw [w64 fa' (by have:=HIL.o;have:=HML.o;omega)],⟨fa',fa',ga'⟩,HT,⟨Ic'⟩,HD3⟩
       have hi:=HI.o
       rw [List.drop_eq_nil_of_le aa',inF] at h
       subst h
       have cl0 : decide (i2 < (mem.length : Int)) = false:=decide_eq_false c
       clear c hi HI
       go_wp2_with fail
       have hcx:=HD.o.cells
       obtain ⟨col4,hS4,hnew,hm4,hk4⟩:=(HD.o.to (w1:=wr.drew) (qh (Below.refl _ _))).join
       have HS4:=qz.mk hS4
       have HJ4:=qz.mk (And.intro hnew (And.intro hm4 hk4))
       clear hS4 hnew hm4 hk4 HD
       refine Md' (n:=11) (S:=fun w'=>w'.cell? ⟨g,3,none⟩ = some (.slice (some ⟨bn,0,none⟩) s.nd.length cn) ∧ w'.cell? ⟨gr,0,none⟩ = some (.slice Am mem.length cm) ∧ w'.cell? ⟨gr,1,none⟩ = some (.slice Ak lk.length ck) ∧ w'.cell? ⟨gr,2,none⟩ = some (.int .i64 (-1)) ∧ w'.cell? ⟨gr,3,none⟩ = some (.int .i64 (td' s.nd (rd xs j)).f3) ∧ w'.cell? ⟨gr,4,none⟩ = some (.int .i64 (td' s.nd (rd xs j)).f4) ∧ w'.cell? ⟨gr,5,none⟩ = some (.int .i64 0) ∧ w'.cell? ⟨gr,6,none⟩ = some (.bool false)) (ds:=[7,10]) (Array.replicate 11 false) da' rfl rfl ⟨hc.2.2.2.1,hcx.1,hcx.2.1,hcx.2.2.1,hcx.2.2.2.1,hcx.2.2.2.2.1,hcx.2.2.2.2.2.1,hcx.2.2.2.2.2.2.1⟩ (fun hHeld=>?_)
       refine pa_ 0 150 (bz_ 11 1) ?_
       refine pa_ 1 151 (bz_ 11 3) ?_
       refine pa_ 2 152 (bz_ 11 7) ?_
       refine pa_ 3 153 (bz_ 11 15) ?_
       refine ta_ 4 154 (bz_ 11 31) hHeld (hy:=Or.inl ⟨ca',ya'⟩) (h:=?_)
       refine ta_ 5 155 (bz_ 11 63) hHeld (hy:=Or.inl ⟨ca',ya'⟩) (h:=?_)
       refine Td' (i:=6) (N:=some 156) (bz_ 11 127) rfl rfl da' ba' (fun K hK=>?_)
       refine jf' (w1:=?_) (v:=?_) ca' rfl ?_ ?_
       rotate_left 2
       ·go_simp
        constructor
        ·rfl
        rfl
       refine hK.out _ _ ⟨vd' (qo (Below.refl _ _) _) hHeld.1,vd' (qo (Below.refl _ _) _) hHeld.2.1,vd' (qo (Below.refl _ _) _) hHeld.2.2.1,vd' (qo (Below.refl _ _) _) hHeld.2.2.2.1,vd' (qo (Below.refl _ _) _) hHeld.2.2.2.2.1,vd' (qo (Below.refl _ _) _) hHeld.2.2.2.2.2.1,vd' (qo (Below.refl _ _) _) hHeld.2.2.2.2.2.2.1,vd' (qo (Below.refl _ _) _) hHeld.2.2.2.2.2.2.2⟩ (fun hHeld=>?_)
       clear hK K
       refine zd' (a':=?_) ?_ ?_
       rotate_left
       ·show Act.put _ (some 156) _ = _
        simp only [Act.put,List.setIfInBounds_toArray,List.set_cons_zero,List.set_cons_succ,Bd',Cd']
        rfl
       refine de' (i:=7) (N:=some 157) (bz_ 11 255) rfl rfl da' ba' (fun K hK=>?_)
       refine Kd.R_append_step k89 (w0:=w0) (W:=wr.drew) w0.heap.size ca' (.tmp 154) (.tmp 156) 85 89 (.agg #[(.slice none 0 0),(.slice none 0 0),(.int .i64 0),(.int .i64 0),(.int .i64 0),(.int .i64 0),(.bool false)]) 88 rfl Tryz.underlying85 bp' rfl ba' aa' (.slice (some ⟨bn,0,none⟩) s.nd.length cn) (inF s.nd.length mem s.nd) ⟨mem,lk,-1,(td' s.nd (rd xs j)).f3,(td' s.nd (rd xs j)).f4,0,false⟩ [.slice Am mem.length cm,.slice Ak lk.length ck,.int .i64 (-1),.int .i64 (td' s.nd (rd xs j)).f3,.int .i64 (td' s.nd (rd xs j)).f4,.int .i64 0,.bool false] (fun k=>col4 k = 2) (fun k=>col4 k = 2 ∧ some k ≠ (Value.slice (some ⟨bn,0,none⟩) s.nd.length cn).ownBlock) ca' ca' (pl' _ _ _ ⟨mem,lk,-1,(td' s.nd (rd xs j)).f3,(td' s.nd (rd xs j)).f4,0,false⟩ HJ4.o.2.1 HJ4.o.2.2) (fun _ hk=>hk) HJ4.o.1 HS4.o.rn HS4.o.hb HS4.o.hb.size (by rw [HL.o];have:=H0.o;omega) ?_
       intro v7 w7 ho hb hg hat
       obtain ⟨A7,c7,e_⟩:=Kd.R_slice ho
       rw [List.length_append,List.length_singleton] at e_
       subst e_
       obtain ⟨hs7,hx7,hf7⟩:=Sol.app_n HS4.o ho hb hg
       have HS7:=qz.mk hs7
       clear hs7 ho hb hg hat
       refine hK.out _ _ ?_
       clear hK K
       refine zd' (a':=?_) ?_ ?_
       rotate_left
       ·show Act.put _ (some 157) _ = _
        simp only [Act.put,List.setIfInBounds_toArray,List.set_cons_zero,List.set_cons_succ,Bd',Cd']
        rfl
       refine pa_ 8 158 (bz_ 11 511) ?_
       refine pa_ 9 159 (bz_ 11 1023) ?_
       refine de' (i:=10) (N:=none) (bz_ 11 2047) rfl rfl da' ba' (fun K hK=>?_)
       refine Id' (w1:=?_) ca' rfl ?_ ?_
       rotate_left
       ·go_simp
        rfl
       refine hK.out _ _ ?_
       clear hK K
       refine Wd' da' ?_
       clear hc hcx hx7 hf7 HS4 HJ4
       go_wp2_with fail
       go_end0
       exact ⟨rfl,col4,_,HS7.o⟩
     rw [if_neg cj] at h
     have HT:=qz.mk h
     have cb1 : (rd ws k != rd xs j) = true:=by simpa using cj
     have hkm:=HWS.o _ (Vd' ws k p q)
     clear h cj
     go_wp2_with fail
     have HDd : qz (Fd w0 wr.drew _ _ _ _ _ (fun q=>if wr.heap.size ≤ q then 6 else col3 q) _ _ _ _ _ _ gr (.slice Am mem.length cm) (.slice Ak lk.length ck) mem lk _ _ _ _ xs ws):=⟨(HD.o.ahead 6).to (qh (Below.refl _ _))⟩
     refine Md' (n:=10) (S:=fun w'=>w'.cell? ⟨gr,0,none⟩ = some (.slice Am mem.length cm) ∧ w'.cell? (aw.add k.toNat) = some (.int .i64 (rd ws k))) (ds:=[7,9]) (Array.replicate 10 false) da' rfl rfl ⟨HD.o.cells.1,hxk⟩ (fun hHeld=>?_)
     refine pa_ 0 99 (bz_ 10 1) ?_
     refine pa_ 2 101 (bz_ 10 5) ?_
     refine pa_ 3 102 (bz_ 10 13) ?_
     refine pa_ 4 103 (bz_ 10 29) ?_
     refine ta_ 1 100 (bz_ 10 31) hHeld (hy:=Or.inl ⟨ca',ja'⟩) (h:=?_)
     refine ta_ 5 104 (bz_ 10 63) hHeld (hy:=Or.inl ⟨ca',ja'⟩) (h:=?_)
     refine Td' (i:=6) (N:=some 105) (bz_ 10 127) rfl rfl da' ba' (fun K hK=>?_)
     refine jf' (w1:=?_) (v:=?_) ca' rfl ?_ ?_
     rotate_left 2
     ·go_simp
      constructor
      ·rfl
      rfl
     refine hK.out _ _ ⟨vd' (qo (Below.refl _ _) _) hHeld.1,vd' (qo (Below.refl _ _) _) hHeld.2⟩ (fun hHeld=>?_)
     clear hK K
     refine zd' (a':=?_) ?_ ?_
     rotate_left
     ·show Act.put _ (some 105) _ = _
      simp only [Act.put,List.setIfInBounds_toArray,List.set_cons_zero,List.set_cons_succ,Bd',Cd']
      rfl
     refine de' (i:=7) (N:=some 106) (bz_ 10 255) rfl rfl da' ba' (fun K hK=>?_)
     refine Kd.R_append_step (Kd.int .i64) (w0:=w0) (W:=wr.drew) w0.heap.size ca' (.tmp 100) (.tmp 105) 27 3 (.int .i64 0) 8 rfl Tryz.underlying27 Ud' rfl ba' aa' (.slice Am mem.length cm) mem (rd ws k) [.int .i64 (rd ws k)] (fun q=>(if wr.heap.size ≤ q then 6 else col3 q) = 6) (fun _=>False) ca' ca' rfl (fun _ hk=>hk.elim) (fun q hq=>if_pos hq) HDd.o.rm HDd.o.S.hb HDd.o.S.hb.size oa' ?_
     intro v7 w7 ho hb hg hat
     obtain ⟨A7,c7,e_⟩:=Kd.R_slice ho
     rw [List.length_append,List.length_singleton] at e_
     subst e_
     obtain ⟨hD3,hx3,hf3⟩:=Fd.app_m HDd.o ho hb hg
     have HD4:=qz.mk hD3
     clear hD3 ho hb hg hat
     refine hK.out _ _ ?_
     clear hK K
     refine zd' (a':=?_) ?_ ?_
     rotate_left
     ·show Act.put _ (some 106) _ = _
      simp only [Act.put,List.setIfInBounds_toArray,List.set_cons_zero,List.set_cons_succ,Bd',Cd']
      rfl
     refine pa_ 8 107 (bz_ 10 511) ?_
     refine de' (i:=9) (N:=none) (bz_ 10 1023) rfl rfl da' ba' (fun K hK=>?_)
     refine Id' (w1:=?_) ca' rfl ?_ ?_
     rotate_left
     ·go_simp
      rfl
     refine hK.out _ _ ?_
     clear hK K
     refine Wd' da' ?_
     clear hx3 hf3 HDd
     generalize w7.setCell _ _ = w9 at HD4 ⊢
     clear hxk HD
     obtain ⟨_,e_,hxk⟩:=Kd.at_int (Kd.R_reads' HD4.o.rw).2.2 k HK0.o HK1.o
     obtain rfl:=Option.some.inj e_
     obtain ⟨ab,e_,hbk⟩:=Kd.at_int (Kd.R_reads' HD4.o.S.rb).2.2 (rd ws k) hkm.2.1 hkm.2.2
     subst e_
     have p2:=eq_true hkm.2.1
     have q2:=eq_true hkm.2.2
     go_wp2_with fail
     have HDd : qz (Fd w0 w9.drew _ _ _ _ _ (fun q=>if w9.heap.size ≤ q then 7 else (fun q=>if wr.heap.size ≤ q then 6 else col3 q) q) _ _ _ _ _ _ gr (_) (.slice Ak lk.length ck) _ lk _ _ _ _ xs ws):=⟨(HD4.o.ahead 7).to (qh (Below.refl _ _))⟩
     refine Md' (n:=16) (S:=fun w'=>w'.cell? ⟨gr,1,none⟩ = some (.slice Ak lk.length ck) ∧ w'.cell? (aw.add k.toNat) = some (.int .i64 (rd ws k)) ∧ w'.cell? ⟨g,6,none⟩ = some (.slice (some ab) s.bk.length cb) ∧ w'.cell? (ab.add (rd ws k).toNat) = some (.int .i64 (rd s.bk (rd ws k)))) (ds:=[13,15]) (Array.replicate 16 false) da' rfl rfl ⟨HD4.o.cells.2.1,hxk,HD4.o.S.cells.2.2.2.2.2.2.1,hbk⟩ (fun hHeld=>?_)
     refine pa_ 0 108 (bz_ 16 1) ?_
     refine pa_ 2 110 (bz_ 16 5) ?_
     refine pa_ 3 111 (bz_ 16 13) ?_
     refine pa_ 4 112 (bz_ 16 29) ?_
     refine pa_ 6 114 (bz_ 16 93) ?_
     refine pa_ 7 115 (bz_ 16 221) ?_
     refine pa_ 8 116 (bz_ 16 477) ?_
     refine ta_ 1 109 (bz_ 16 479) hHeld (hy:=Or.inl ⟨ca',na'⟩) (h:=?_)
     refine ta_ 5 113 (bz_ 16 511) hHeld (hy:=Or.inl ⟨ca',na'⟩) (h:=?_)
     refine ta_ 9 117 (bz_ 16 1023) hHeld (hy:=Or.inl ⟨ca',na'⟩) (h:=?_)
     refine pa_ 10 118 (bz_ 16 2047) ?_
     refine ta_ 11 119 (bz_ 16 4095) hHeld (hy:=Or.inl ⟨ca',na'⟩) (h:=?_)
     refine Td' (i:=12) (N:=some 120) (bz_ 16 8191) rfl rfl da' ba' (fun K hK=>?_)
     refine jf' (w1:=?_) (v:=?_) ca' rfl ?_ ?_
     rotate_left 2
     ·go_simp
      constructor
      ·rfl
      rfl
     refine hK.out _ _ ⟨vd' (qo (Below.refl _ _) _) hHeld.1,vd' (qo (Below.refl _ _) _) hHeld.2.1,vd' (qo (Below.refl _ _) _) hHeld.2.2.1,vd' (qo (Below.refl _ _) _) hHeld.2.2.2⟩ (fun hHeld=>?_)
     clear hK K
     refine zd' (a':=?_) ?_ ?_
     rotate_left
     ·show Act.put _ (some 120) _ = _
      simp only [Act.put,List.setIfInBounds_toArray,List.set_cons_zero,List.set_cons_succ,Bd',Cd']
      rfl
     refine de' (i:=13) (N:=some 121) (bz_ 16 16383) rfl rfl da' ba' (fun K hK=>?_)
     refine Kd.R_append_step (Kd.int .i64) (w0:=w0) (W:=w9.drew) w0.heap.size ca' (.tmp 109) (.tmp 120) 27 3 (.int .i64 0) 8 rfl Tryz.underlying27 Ud' rfl ba' aa' (.slice Ak lk.length ck) lk (rd s.bk (rd ws k)) [.int .i64 (rd s.bk (rd ws k))] (fun q=>(if w9.heap.size ≤ q then 7 else (fun q=>if wr.heap.size ≤ q then 6 else col3 q) q) = 7) (fun _=>False) ca' ca' rfl (fun _ hk=>hk.elim) (fun q hq=>if_pos hq) HDd.o.rk HDd.o.S.hb HDd.o.S.hb.size oa' ?_
     intro v7 w7 ho hb hg hat
     obtain ⟨A7,c7,e_⟩:=Kd.R_slice ho
     rw [List.length_append,List.length_singleton] at e_
     subst e_
     obtain ⟨hD3,hx3,hf3⟩:=Fd.app_k HDd.o ho hb hg
     have HD5:=qz.mk hD3
     clear hD3 ho hb hg hat
     refine hK.out _ _ ?_
     clear hK K
     refine zd' (a':=?_) ?_ ?_
     rotate_left
     ·show Act.put _ (some 121) _ = _
      simp only [Act.put,List.setIfInBounds_toArray,List.set_cons_zero,List.set_cons_succ,Bd',Cd']
      rfl
     refine pa_ 14 122 (bz_ 16 32767) ?_
     refine de' (i:=15) (N:=none) (bz_ 16 65535) rfl rfl da' ba' (fun K hK=>?_)
     refine Id' (w1:=?_) ca' rfl ?_ ?_
     rotate_left
     ·go_simp
      rfl
     refine hK.out _ _ ?_
     clear hK K
     refine Wd' da' ?_
     clear hx3 hf3 HDd
     generalize w7.setCell _ _ = w10 at HD5 ⊢
     go_wp2_with fail
     go_roundg k2
     case measure=>omega
     case rel=>exact ⟨k + 1,_,_,_,_,_,_,_,by rw [w64 Ia' (by have:=HK1.o;have:=H0.o;omega)],⟨Ia',fa'⟩,⟨Ka',Ka',vb',HL.o.2.2.2⟩,HT,Nc'⟩
    rw [if_neg c] at h
    cases h
  rw [if_neg cm] at h
  rw [decide_eq_false cm] at HHI
  have HT:=qz.mk h
  clear h cm
  go_wp2_with (first|(go_at_call 88;refine HHI.o.mono ?_;rintro r w3 ⟨rfl,⟨nd,rfl⟩⟩))
  go_roundg k1
  case measure=>omega
  case rel=>exact ⟨j + 1,Lc',⟨aa',fa'⟩,HT,⟨HF.o.to (qd (Below.refl _ _) nd)⟩⟩
 rw [if_neg c] at h
 cases h
end Go.Proofs.YtnffimpoekjkpaaGreat.QFnExactSolve
