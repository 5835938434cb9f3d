/- The program's solver: fold. -/
import Derived.Test.YtnffimpoekjkpaaZFnExactRoundsx33
namespace Go.Proofs.Ytnffimpoekjkpaa.QFnExactRounds
open Go.RowKit Go.Proofs.YtnffimpoekjkpaaW.PrintWords Go.Proofs.YtnffimpoekjkpaaW.PrintLast Go.Proofs.YtnffimpoekjkpaaW.PrintMore
attribute [local go_sem] max2_int min2_int max_two min_two max_three min_three max_four min_four
set_option linter.unusedVariables false
set_option linter.unusedSimpArgs false
/-- The place of the first one that is in the other way, too. -/
def idxF (xs ws : List Int) : Nat → Int → Option Int
 | 0,_=>none
 | k + 1,i=>if inR i xs.length then if rd xs i ∈ ws then some i else idxF xs ws k (i + 1) else none
def dnF (bk xs : List Int) : Nat → Int → List Int → List Int → List Int × List Int
 | 0,_,mem,lk=>(mem,lk)
 | f + 1,k,mem,lk=>if 0 ≤ k then dnF bk xs f (k - 1) (mem ++ [rd xs k]) (lk ++ [rd bk (rd xs k)]) else (mem,lk)
def upF (bk ws : List Int) (j : Int) : Nat → Int → List Int → List Int → Option (List Int × List Int)
 | 0,_,_,_=>none
 | f + 1,k,mem,lk=>if inR k ws.length then if rd ws k = j then some (mem,lk) else upF bk ws j f (k + 1) (mem ++ [rd ws k]) (lk ++ [rd bk (rd ws k)]) else none
def inF (n : Int) : List Int → List (S60) → List (S60)
 | [],nd=>nd
 | m :: l,nd=>inF n l (mateAt (inAt nd m n) m (-1))
theorem hasInt_l0 (v : Int) (l : List Int) (hl : l.length ≤ 1000000000) : ∀ (k : Nat) (i : Int),0 ≤ i → (l.length : Int) < i + k → i ≤ l.length → impl_hasInt.l0 k v l (l.length : Int) i = some (decide (v ∈ l.drop i.toNat))
 | 0,i,h0,h,hi=>absurd h (by omega)
 | k + 1,i,h0,h,hi=>by
  unfold impl_hasInt.l0
  by_cases c : i < (l.length : Int)
  ·rw [if_pos c,if_pos h0,if_pos c,drop_rd l i h0 c]
   by_cases e : rd l i = v
   ·rw [if_pos e,e]
    simp
   rw [if_neg e,w64 (by omega) (by omega),hasInt_l0 v l hl k (i + 1) (by omega) (by omega) (by omega)]
   congr 1
   rw [decide_eq_decide,List.mem_cons]
   exact ⟨.inr,fun h=>h.resolve_left fun h=>e h.symm⟩
  rw [if_neg c,List.drop_eq_nil_of_le (by omega)]
  simp
theorem hasInt_is (v : Int) (l : List Int) (hl : l.length ≤ 1000000000) : impl_hasInt.f (l.length + 1) l v = some (decide (v ∈ l)):=by
 rw [impl_hasInt.f,hasInt_l0 v l hl (l.length + 1) 0 (by omega) (by omega) (by omega)]
 rfl
theorem new_at (w : World) (o o' : Obj) : ((w.alloc o).alloc o').heap[w.heap.size + 1]? = some o':=by
 have h:=blk_new (w.alloc o) o'
 rwa [show (w.alloc o).heap.size = w.heap.size + 1 from by simp] at h
/-- The two ways' rows, each of its own colour. -/
structure Fw (w0 W : World) (g : Nat) (N : Int) (Ae : Option Addr) (ce : Nat) (es : List (S51)) (col : Nat → Nat) (vy vn vl va vb : Value) (s : SI) (vx vw : Value) (xs ws : List Int) : Prop where
 S : Sol w0 W g N Ae ce es col vy vn vl va vb s
 rx : Kd.R (Kd.int .i64) 3 W w0.heap.size (fun k=>col k = 9) vx xs
 rw : Kd.R (Kd.int .i64) 3 W w0.heap.size (fun k=>col k = 10) vw ws
section
variable {w0 W W1 W2 : World} {g : Nat} {N : Int} {Ae : Option Addr} {ce : Nat} {es : List (S51)} {col : Nat → Nat} {vy vn vl va vb vx vw v : Value} {s : SI} {xs ws : List Int}
theorem Fw.to (h : Fw w0 W g N Ae ce es col vy vn vl va vb s vx vw xs ws) (hb : Below W.heap.size W W1) : Fw w0 W1 g N Ae ce es col vy vn vl va vb s vx vw xs ws:=⟨h.S.to hb,Kd.R_below h.rx hb,Kd.R_below h.rw hb⟩
theorem new_row {l : List Int} (ho : Kd.R (Kd.int .i64) 3 W1 W.heap.size (fun _=>True) v l) (hb : w0.heap.size ≤ W.heap.size) (c : Nat) : Kd.R (Kd.int .i64) 3 W1 w0.heap.size (fun k=>(if W.heap.size ≤ k then c else col k) = c) v l :=
 Kd.R_lower (Kd.R_mono (Kd.R_bound ho) (by rintro k ⟨_,h1,_⟩;rw [if_pos h1])) hb
theorem Fw.make (h : Sol w0 W g N Ae ce es col vy vn vl va vb s) (hx : Kd.R (Kd.int .i64) 3 W1 W.heap.size (fun _=>True) vx xs) (b1 : Below W.heap.size W W1) (hw : Kd.R (Kd.int .i64) 3 W2 W1.heap.size (fun _=>True) vw ws) (b2 : Below W1.heap.size W1 W2) : ∃ col',Fw w0 W2 g N Ae ce es col' vy vn vl va vb s vx vw xs ws:=by
 have hc1 : ∀ k,k < W.heap.size → (if W.heap.size ≤ k then 9 else col k) = col k:=fun k hk=>by rw [if_neg (by omega)]
 have hc2 : ∀ k,k < W1.heap.size → (if W1.heap.size ≤ k then 10 else (if W.heap.size ≤ k then 9 else col k)) = (if W.heap.size ≤ k then 9 else col k):=fun k hk=>by rw [if_neg (by omega)]
 exact ⟨fun k=>if W1.heap.size ≤ k then 10 else (if W.heap.size ≤ k then 9 else col k),(((h.recol hc1).to b1).recol hc2).to b2,Kd.R_below (row_recol (col:=fun k=>if W.heap.size ≤ k then 9 else col k) (new_row hx h.hb.size 9) hc2) b2,new_row hw (Nat.le_trans h.hb.size b1.size) 10⟩
end
theorem one_R {W : World} {base z : Nat} {x : Int} {ok : Nat → Prop} (hb : base ≤ z) (h : W.heap[z]? = some (.cells #[.int .i64 x] 3 (0,0))) (hk : ok z) : Kd.R (Kd.int .i64) 3 W base ok (.slice (some ⟨z,0,none⟩) 1 1) [x]:=by
 refine ⟨fun k e=>?_,[.int .i64 x],⟨rfl,.inr ⟨z,1,_,rfl,hb,h,Nat.le_refl _,by decide,rfl,rfl⟩⟩,rfl,?_⟩
 ·have : z = k:=by simpa [Value.ownBlock] using e
  subst this
  exact hk
 intro i y hy
 cases i with
 | zero =>
  obtain rfl : x = y:=by simpa using hy
  rfl
 | succ n=>simp at hy
theorem put7 {W : World} {gr : Nat} {a0 a1 a2 a3 a4 a5 a6 b0 b1 b2 b3 b4 b5 b6 : Value} (h : W.heap[gr]? = some (.cells #[a0,a1,a2,a3,a4,a5,a6] 60 (0,0))) :
  (((((((W.setCell ⟨gr,0,none⟩ b0).setCell ⟨gr,1,none⟩ b1).setCell ⟨gr,2,none⟩ b2).setCell ⟨gr,3,none⟩ b3).setCell ⟨gr,4,none⟩ b4).setCell ⟨gr,5,none⟩ b5).setCell ⟨gr,6,none⟩ b6).heap[gr]? = some (.cells #[b0,b1,b2,b3,b4,b5,b6] 60 (0,0)):=by
 simpa using blk_set (blk_set (blk_set (blk_set (blk_set (blk_set (blk_set h 0 b0) 1 b1) 2 b2) 3 b3) 4 b4) 5 b5) 6 b6
theorem far7 {W : World} {gr z : Nat} {b0 b1 b2 b3 b4 b5 b6 : Value} (hz : z ≠ gr) : (((((((W.setCell ⟨gr,0,none⟩ b0).setCell ⟨gr,1,none⟩ b1).setCell ⟨gr,2,none⟩ b2).setCell ⟨gr,3,none⟩ b3).setCell ⟨gr,4,none⟩ b4).setCell ⟨gr,5,none⟩ b5).setCell ⟨gr,6,none⟩ b6).heap[z]? = W.heap[z]? :=
 (Below.heap_setCell _ ⟨gr,6,none⟩ _ z hz).trans ((Below.heap_setCell _ ⟨gr,5,none⟩ _ z hz).trans ((Below.heap_setCell _ ⟨gr,4,none⟩ _ z hz).trans ((Below.heap_setCell _ ⟨gr,3,none⟩ _ z hz).trans ((Below.heap_setCell _ ⟨gr,2,none⟩ _ z hz).trans ((Below.heap_setCell _ ⟨gr,1,none⟩ _ z hz).trans (Below.heap_setCell _ ⟨gr,0,none⟩ _ z hz))))))
set_option maxHeartbeats 8000000 in
set_option maxRecDepth 100000 in
theorem fold_calls {w0 W : World} {g : Nat} {N : Int} {Ae : Option Addr} {ce : Nat} {es : List (S51)} {col : Nat → Nat} {vy vn vl va vb : Value} {s : SI} (hS : Sol w0 W g N Ae ce es col vy vn vl va vb s) (e a b i : Int) (k : Nat) (hk : k ≤ 1000) (xs ws mem_ lk_ : List Int) (hx : wayF s.ah k a = some xs) (hw : wayF s.ah k b = some ws) (hi : idxF xs ws (xs.length + 1) 0 = some i)
  (hxs : ∀ m ∈ xs,inR m s.nd.length ∧ inR m s.bk.length) (hws : ∀ m ∈ ws,inR m s.nd.length ∧ inR m s.bk.length) (hlx : xs.length ≤ 1000) (hlw : ws.length ≤ 1000)
  (hu : upF s.bk ws (rd xs i) (ws.length + 1) 0 (dnF s.bk xs (xs.length + 1) (i - 1) [rd xs i] []).1 ((dnF s.bk xs (xs.length + 1) (i - 1) [rd xs i] []).2 ++ [e]) = some (mem_,lk_)) (hsz : s.nd.length ≤ 1000000) (hmb : ∀ m ∈ mem_,inR m s.nd.length) :
  Calls Try.prog 36 #[.pointer (some ⟨g,0,none⟩),.int .i64 e,.int .i64 a,.int .i64 b] W fun r w'=>r = .returned (.tuple #[]) ∧ ∃ col vn,Sol w0 w' g N Ae ce es col vy vn vl va vb { s with nd:=inF s.nd.length mem_ s.nd ++ [⟨mem_,lk_,-1,(rd_T60 s.nd (rd xs i)).f3,(rd_T60 s.nd (rd xs i)).f4,0,false⟩] }:=by
 have hu47:=Try.underlying47
 have hu60:=Try.underlying60
 have hu51:=Try.underlying51
 have hu29:=Try.underlying29
 have HS:=qy.mk hS
 clear hS
 have hu35:=Try.underlying35
 obtain ⟨Ab,cb,e_⟩:=Kd.R_slice HS.out.rb
 subst e_
 have HQ1:=qy.mk (way_calls HS.out k (by omega) a xs hx)
 have HQ2:=qy.mk (fun (W' : World) (h : Sol w0 W' g N Ae ce es col vy vn vl va (.slice Ab s.bk.length cb) s)=>way_calls h k (by omega) b ws hw)
 clear hx hw
 go_enter Try.func36,Try.ntmps36
 go_wp2_with (first|(go_at_call 55;refine HQ1.out.mono ?_;rintro r w1 ⟨vx,rfl,hx,hb1⟩;have HX:=qy.mk hx;have HB1:=qy.mk hb1;have HS1:=qy.mk (HS.out.to hb1);clear hx hb1 HQ1)|(go_at_call 55;refine (HQ2.out _ HS1.out).mono ?_;rintro r w2 ⟨vw,rfl,hw,hb2⟩;obtain ⟨col2,hF⟩:=Fw.make HS.out HX.out HB1.out hw hb2;have HF:=qy.mk hF;clear hF hw hb2 HQ2))
 obtain ⟨Ax,cx,e_⟩:=Kd.R_slice HF.out.rx
 subst e_
 obtain ⟨Aw,cw,e_⟩:=Kd.R_slice HF.out.rw
 subst e_
 have HT:=qy.mk hi
 have HXS:=qy.mk hxs
 have HWS:=qy.mk hws
 have HU:=qy.mk hu
 have HMB:=qy.mk hmb
 have H0:=qy.mk (And.intro hsz (And.intro hlx hlw))
 clear hi hxs hws hu hsz hlx hlw hmb HX HB1 HS1
 go_loopg [10] (xs.length + 1) (fun kq v10 w'=>∃ j : Int,v10 = .int .i64 j ∧ qy (0 ≤ j ∧ j + kq = xs.length + 1) ∧ qy (idxF xs ws kq j = some i) ∧ qy (Fw w0 w' g N Ae ce es col2 vy vn vl va (.slice Ab s.bk.length cb) s (.slice Ax xs.length cx) (.slice Aw ws.length cw) xs ws))
 case atStart=>exact ⟨0,rfl,⟨by omega,by omega⟩,HT,HF⟩
 clear HT HF
 obtain ⟨j,rfl,HI,HT,HF⟩:=hrel
 have h:=HT.out
 clear HT
 obtain _|k1:=gk
 ·cases h
 rw [idxF] at h
 by_cases c : inR j xs.length
 ·rw [if_pos c] at h
  obtain ⟨p,q⟩:=c
  have HJ:=qy.mk q
  obtain ⟨ax,e_,hxj⟩:=Kd.at_int (Kd.R_reads' HF.out.rx).2.2 j p q
  subst e_
  have pb:=eq_true p
  have qb:=eq_true q
  have HHI:=qy.mk (impl_hasInt.calls _ Aw cw ws (rd xs j) _ wr (Kd.R_reads' HF.out.rw).2.2 (Kd.R_reads' HF.out.rw).2.1 (hasInt_is (rd xs j) ws (by have:=H0.out;omega)))
  by_cases cm : rd xs j ∈ ws
  ·rw [if_pos cm] at h
   obtain rfl:=Option.some.inj h
   rw [decide_eq_true cm] at HHI
   clear h cm
   go_wp2_with (first|(go_at_call 56;refine HHI.out.mono ?_;rintro r w3 ⟨rfl,⟨nd,rfl⟩⟩))
   have HF4:=qy.mk (HF.out.to (qd (Below.refl _ _) nd))
   clear hxj HHI HF
   generalize wr.drewN nd = w4 at HF4 ⊢
   obtain ⟨An,cn,e_⟩:=Kd.R_slice HF4.out.S.rn
   subst e_
   have hjm:=HXS.out _ (rd_mem xs j p HJ.out)
   obtain ⟨bn,_,e_,-⟩:=row_at HF4.out.S.rn (by have:=hjm.1.1;have:=hjm.1.2;omega)
   injection e_ with e_ e2_ e3_
   clear e2_ e3_
   subst e_
   have hc:=HF4.out.S.cells
   obtain ⟨A0n,c0n,A1n,c1n,nx0,nx1,nx2,nx3,nx4,nx5,nx6,nf2,nf3,nf5,nf6,-⟩:=HF4.out.S.node_at (rd xs j) hjm.1.1 hjm.1.2
   have pj:=eq_true hjm.1.1
   have qj:=eq_true hjm.1.2
   refine start_ (n:=21) (S:=fun w'=>w'.cell? ⟨g,3,none⟩ = some (.slice (some ⟨bn,0,none⟩) s.nd.length cn) ∧ w'.cell? ⟨bn,(rd xs j).toNat * 7 + 3,none⟩ = some (.int .i64 (rd_T60 s.nd (rd xs j)).f3) ∧ w'.cell? ⟨bn,(rd xs j).toNat * 7 + 4,none⟩ = some (.int .i64 (rd_T60 s.nd (rd xs j)).f4)) (ds:=[20]) (Array.replicate 21 false) (by kernel_rfl) rfl rfl ⟨hc.2.2.2.1,nx3,nx4⟩ (fun hHeld=>?_)
   refine pa_ 0 36 (bz_ 21 1) ?_
   refine pa_ 2 38 (bz_ 21 5) ?_
   refine pa_ 3 39 (bz_ 21 13) ?_
   refine pa_ 4 40 (bz_ 21 29) ?_
   refine pa_ 6 42 (bz_ 21 93) ?_
   refine pa_ 10 46 (bz_ 21 1117) ?_
   refine pa_ 11 47 (bz_ 21 3165) ?_
   refine pa_ 12 48 (bz_ 21 7261) ?_
   refine pa_ 14 50 (bz_ 21 23645) ?_
   refine ta_ 5 41 (bz_ 21 23677) hHeld (hy:=Or.inl ⟨by rfl,by rintro w' ⟨s0,s1,s2⟩;go_simp;with_reducible rfl⟩) (h:=?_)
   refine pa_ 7 43 (bz_ 21 23805) ?_
   refine pa_ 8 44 (bz_ 21 24061) ?_
   refine ta_ 9 45 (bz_ 21 24573) hHeld (hy:=Or.inl ⟨by rfl,by rintro w' ⟨s0,s1,s2⟩;go_simp;with_reducible rfl⟩) (h:=?_)
   refine ta_ 13 49 (bz_ 21 32765) hHeld (hy:=Or.inl ⟨by rfl,by rintro w' ⟨s0,s1,s2⟩;go_simp;with_reducible rfl⟩) (h:=?_)
   refine pa_ 15 51 (bz_ 21 65533) ?_
   refine pa_ 16 52 (bz_ 21 131069) ?_
   refine ta_ 17 53 (bz_ 21 262141) hHeld (hy:=Or.inl ⟨by rfl,by rintro w' ⟨s0,s1,s2⟩;go_simp;with_reducible rfl⟩) (h:=?_)
   refine join_ (σ:=Nat × Nat) 1 (bz_ 21 1048575) (fun z=>[(37,.slice (some ⟨z.1,0,none⟩) 1 1),(54,.agg #[.slice (some ⟨z.1,0,none⟩) 1 1,.slice none 0 0,.int .i64 (-1),.int .i64 (rd_T60 s.nd (rd xs j)).f3,.int .i64 (rd_T60 s.nd (rd xs j)).f4,.int .i64 0,.bool false]),(12,.pointer (some ⟨z.2,0,none⟩))]) (fun z w'=>Below w4.heap.size w4 w' ∧ w4.heap.size ≤ z.1 ∧ w4.heap.size ≤ z.2 ∧ z.1 ≠ z.2 ∧ w'.heap[z.1]? = some (.cells #[.int .i64 (rd xs j)] 3 (0,0)) ∧ w'.heap[z.2]? = some (.cells #[.slice none 0 0,.slice none 0 0,.int .i64 0,.int .i64 0,.int .i64 0,.int .i64 0,.bool false] 60 (0,0))) ?_ ?_
   rotate_left
   ·intro hCont
    refine two_ (i:=1) (j:=19) (Ni:=some 37) (Nj:=some 12) (bz_ 21 262143) (bz_ 21 786429) rfl rfl rfl rfl (by kernel_rfl) (by decide) (by decide) (fun K hK=>?_) (fun K hK=>?_)
    ·skip
     refine value_ (w1:=?_) (v:=?_) (by rfl) rfl ?_ ?_
     rotate_left 2
     ·go_simp
      constructor
      ·rfl
      rfl
     refine hK.out _ _ ⟨pw_cell_below (qo (Below.refl _ _) _) hHeld.1,pw_cell_below (qo (Below.refl _ _) _) hHeld.2.1,pw_cell_below (qo (Below.refl _ _) _) hHeld.2.2⟩ (fun hHeld=>?_)
     clear hK K
     refine norm_ (a':=?_) ?_ ?_
     rotate_left
     ·show Act.put _ (some 37) _ = _
      simp only [Act.put,List.setIfInBounds_toArray,List.set_cons_zero,List.set_cons_succ,i64_w,i32_w]
      rfl
     refine pa_ 18 54 (bz_ 21 524287) ?_
     refine one_ (i:=19) (N:=some 12) (bz_ 21 1048575) rfl rfl (by kernel_rfl) (by decide) (fun K hK=>?_)
     refine value_ (w1:=?_) (v:=?_) (by rfl) rfl ?_ ?_
     rotate_left 2
     ·go_simp
      constructor
      ·rfl
      rfl
     refine hK.out _ _ ⟨pw_cell_below (qo (Below.refl _ _) _) hHeld.1,pw_cell_below (qo (Below.refl _ _) _) hHeld.2.1,pw_cell_below (qo (Below.refl _ _) _) hHeld.2.2⟩ (fun hHeld=>?_)
     clear hK K
     refine norm_ (a':=?_) ?_ ?_
     rotate_left
     ·show Act.put _ (some 12) _ = _
      simp only [Act.put,List.setIfInBounds_toArray,List.set_cons_zero,List.set_cons_succ,i64_w,i32_w]
      rfl
     exact norm_ (by simp only [putAll,Act.put,List.setIfInBounds_toArray,List.set_cons_zero,List.set_cons_succ]) (hCont (w4.heap.size,(w4.heap.size + 1)) _ ⟨qo (qo (qh (Below.refl _ _)) _) _,Nat.le_refl _,Nat.le_succ _,by omega,qg (heap_alloc_new _ _) _,new_at w4 _ _⟩)
    skip
    refine value_ (w1:=?_) (v:=?_) (by rfl) rfl ?_ ?_
    rotate_left 2
    ·go_simp
     constructor
     ·rfl
     rfl
    refine hK.out _ _ ⟨pw_cell_below (qo (Below.refl _ _) _) hHeld.1,pw_cell_below (qo (Below.refl _ _) _) hHeld.2.1,pw_cell_below (qo (Below.refl _ _) _) hHeld.2.2⟩ (fun hHeld=>?_)
    clear hK K
    refine norm_ (a':=?_) ?_ ?_
    rotate_left
    ·show Act.put _ (some 12) _ = _
     simp only [Act.put,List.setIfInBounds_toArray,List.set_cons_zero,List.set_cons_succ,i64_w,i32_w]
     rfl
    refine one_ (i:=1) (N:=some 37) (bz_ 21 786431) rfl rfl (by kernel_rfl) (by decide) (fun K hK=>?_)
    refine value_ (w1:=?_) (v:=?_) (by rfl) rfl ?_ ?_
    rotate_left 2
    ·go_simp
     constructor
     ·rfl
     rfl
    refine hK.out _ _ ⟨pw_cell_below (qo (Below.refl _ _) _) hHeld.1,pw_cell_below (qo (Below.refl _ _) _) hHeld.2.1,pw_cell_below (qo (Below.refl _ _) _) hHeld.2.2⟩ (fun hHeld=>?_)
    clear hK K
    refine norm_ (a':=?_) ?_ ?_
    rotate_left
    ·show Act.put _ (some 37) _ = _
     simp only [Act.put,List.setIfInBounds_toArray,List.set_cons_zero,List.set_cons_succ,i64_w,i32_w]
     rfl
    refine pa_ 18 54 (bz_ 21 1048575) ?_
    exact norm_ (by simp only [putAll,Act.put,List.setIfInBounds_toArray,List.set_cons_zero,List.set_cons_succ]) (hCont ((w4.heap.size + 1),w4.heap.size) _ ⟨qo (qo (qh (Below.refl _ _)) _) _,Nat.le_succ _,Nat.le_refl _,by omega,new_at w4 _ _,qg (heap_alloc_new _ _) _⟩)
   rintro ⟨z,gr⟩ w5 ⟨hb5,hz1,hz2,hzz,hbz,hbr⟩
   have hHeld:=True.intro
   refine norm_ (a':=?_) ?_ ?_
   rotate_left
   ·simp only [putAll,Act.put,List.setIfInBounds_toArray,List.set_cons_zero,List.set_cons_succ]
    rfl
   refine last_ (i:=20) (N:=none) (bz_ 21 2097151) rfl rfl (by kernel_rfl) (by decide) (fun K hK=>?_)
   have kc0 : w5.cell? ⟨gr,0,none⟩ = some (.slice none 0 0):=(qq hbr 0).trans rfl
   have kc1 : w5.cell? ⟨gr,1,none⟩ = some (.slice none 0 0):=(qq hbr 1).trans rfl
   have kc2 : w5.cell? ⟨gr,2,none⟩ = some (.int .i64 0):=(qq hbr 2).trans rfl
   have kc3 : w5.cell? ⟨gr,3,none⟩ = some (.int .i64 0):=(qq hbr 3).trans rfl
   have kc4 : w5.cell? ⟨gr,4,none⟩ = some (.int .i64 0):=(qq hbr 4).trans rfl
   have kc5 : w5.cell? ⟨gr,5,none⟩ = some (.int .i64 0):=(qq hbr 5).trans rfl
   have kc6 : w5.cell? ⟨gr,6,none⟩ = some (.bool false):=(qq hbr 6).trans rfl
   have kf0:=qs hbr 0
   have kf1:=qs hbr 1
   have kf2:=qs hbr 2
   have kf3:=qs hbr 3
   have kf4:=qs hbr 4
   have kf5:=qs hbr 5
   have kf6:=qs hbr 6
   refine skip_ (w1:=?_) (by rfl) rfl ?_ ?_
   rotate_left
   ·go_simp
    rfl
   refine hK.out _ _ ?_
   clear hK K
   refine done_ (by kernel_rfl) ?_
   have HBX:=qy.mk (put7 (b0:=.slice (some ⟨z,0,none⟩) 1 1) (b1:=.slice none 0 0) (b2:=.int .i64 (-1)) (b3:=.int .i64 (rd_T60 s.nd (rd xs j)).f3) (b4:=.int .i64 (rd_T60 s.nd (rd xs j)).f4) (b5:=.int .i64 0) (b6:=.bool false) hbr)
   have HB6:=qy.mk (qp (qp (qp (qp (qp (qp (qp hb5 hz2 (j:=0) (v:=.slice (some ⟨z,0,none⟩) 1 1)) hz2 (j:=1) (v:=.slice none 0 0)) hz2 (j:=2) (v:=.int .i64 (-1))) hz2 (j:=3) (v:=.int .i64 (rd_T60 s.nd (rd xs j)).f3)) hz2 (j:=4) (v:=.int .i64 (rd_T60 s.nd (rd xs j)).f4)) hz2 (j:=5) (v:=.int .i64 0)) hz2 (j:=6) (v:=.bool false))
   have HZ6:=qy.mk ((far7 (b0:=.slice (some ⟨z,0,none⟩) 1 1) (b1:=.slice none 0 0) (b2:=.int .i64 (-1)) (b3:=.int .i64 (rd_T60 s.nd (rd xs j)).f3) (b4:=.int .i64 (rd_T60 s.nd (rd xs j)).f4) (b5:=.int .i64 0) (b6:=.bool false) (W:=w5) hzz).trans hbz)
   have HZG:=qy.mk (And.intro hz1 (And.intro hz2 hzz))
   clear kc0 kc1 kc2 kc3 kc4 kc5 kc6 kf0 kf1 kf2 kf3 kf4 kf5 kf6 hHeld hb5 hz1 hz2 hzz hbz hbr nx0 nx1 nx2 nx3 nx4 nx5 nx6 nf2 nf3 nf5 nf6 hc
   generalize ((((((w5.setCell _ _).setCell _ _).setCell _ _).setCell _ _).setCell _ _).setCell _ _).setCell _ _ = w6 at HBX HB6 HZ6 ⊢
   have HD : qy (Fd w0 w6 g N Ae ce es (fun k=>if w4.heap.size ≤ k then (if k = gr then 8 else 6) else col2 k) vy (.slice (some ⟨bn,0,none⟩) s.nd.length cn) vl va (.slice Ab s.bk.length cb) s gr (.slice (some ⟨z,0,none⟩) 1 1) (.slice none 0 0) [rd xs j] [] (rd_T60 s.nd (rd xs j)).f3 (rd_T60 s.nd (rd xs j)).f4 (.slice (some ax) xs.length cx) (.slice Aw ws.length cw) xs ws):=by
    have hc1 : ∀ k,k < w4.heap.size → (if w4.heap.size ≤ k then (if k = gr then 8 else 6) else col2 k) = col2 k:=fun k hk=>by rw [if_neg (by omega)]
    obtain ⟨z1,z2,z3⟩:=HZG.out
    have hge:=HF4.out.S.hb.size
    exact ⟨⟨(HF4.out.S.recol hc1).to HB6.out,HBX.out,by rw [if_pos z2,if_pos rfl],Nat.le_trans hge z2,one_R (Nat.le_trans hge z1) HZ6.out (by rw [if_pos z1,if_neg z3]),Kd.R_nil _ _ _ _ _,Kd.R_below (row_recol HF4.out.rx hc1) HB6.out,Kd.R_below (row_recol HF4.out.rw hc1) HB6.out⟩⟩
   clear HF4 HBX HB6 HZ6 HZG
   go_wp2_with fail
   obtain ⟨DN,hDN⟩ : ∃ DN,dnF s.bk xs (xs.length + 1) (j - 1) [rd xs j] [] = DN:=⟨_,rfl⟩
   have HDN:=qy.mk hDN
   have hU:=HU.out
   rw [hDN] at hU
   replace HU:=qy.mk hU
   clear hU hDN
   go_loopg [13] (xs.length + 1) (fun kq v13 w'=>∃ (k : Int) (mem lk : List Int) (Am Ak : Option Addr) (cm ck : Nat) (col : Nat → Nat),v13 = .int .i64 k ∧ qy (-1 ≤ k ∧ k < xs.length ∧ k + 1 < kq) ∧ qy (mem.length + kq = xs.length + 2 ∧ lk.length + kq = xs.length + 1 ∧ xs.length ≤ 1000) ∧ qy (dnF s.bk xs kq k mem lk = DN) ∧ qy (Fd w0 w' g N Ae ce es col vy (.slice (some ⟨bn,0,none⟩) s.nd.length cn) vl va (.slice Ab s.bk.length cb) s gr (.slice Am mem.length cm) (.slice Ak lk.length ck) mem lk (rd_T60 s.nd (rd xs j)).f3 (rd_T60 s.nd (rd xs j)).f4 (.slice (some ax) xs.length cx) (.slice Aw ws.length cw) xs ws))
   case atStart=>exact ⟨j - 1,[rd xs j],[],_,_,_,_,_,by rw [w64 (by omega) (by have:=HJ.out;have:=H0.out;omega)],⟨by omega,by have:=HJ.out;omega,by have:=HJ.out;omega⟩,⟨by simp only [List.length_singleton];omega,by simp only [List.length_nil];omega,by have:=H0.out;omega⟩,HDN,HD⟩
   clear HD HDN
   obtain ⟨k,mem,lk,Am,Ak,cm,ck,col3,rfl,HI,HL,HT,HD⟩:=hrel
   have h:=HT.out
   clear HT
   cases gk with
   | zero =>
    exfalso
    have h1:=HI.out
    omega
   | succ k1 =>
    rw [dnF] at h
    by_cases c : 0 ≤ k
    ·rw [if_pos c] at h
     have HT:=qy.mk h
     have cl0 : decide (k ≥ 0) = true:=decide_eq_true c
     have HK0:=qy.mk c
     obtain ⟨_,e_,hxk⟩:=Kd.at_int (Kd.R_reads' HD.out.rx).2.2 k c (by have:=HI.out;omega)
     obtain rfl:=Option.some.inj e_
     have hkm:=HXS.out _ (rd_mem xs k c (by have:=HI.out;omega))
     obtain ⟨ab,e_,hbk⟩:=Kd.at_int (Kd.R_reads' HD.out.S.rb).2.2 (rd xs k) hkm.2.1 hkm.2.2
     subst e_
     have p1:=eq_true c
     have q1 : (k < (xs.length : Int)) = True:=eq_true (by have:=HI.out;omega)
     have p2:=eq_true hkm.2.1
     have q2:=eq_true hkm.2.2
     clear h c
     go_wp2_with fail
     have HDd : qy (Fd w0 wr.drew _ _ _ _ _ (fun q=>if wr.heap.size ≤ q then 7 else col3 q) _ _ _ _ _ _ gr (.slice Am mem.length cm) (.slice Ak lk.length ck) mem lk _ _ _ _ xs ws):=⟨(HD.out.ahead 7).to (qh (Below.refl _ _))⟩
     refine start_ (n:=16) (S:=fun w'=>w'.cell? ⟨gr,1,none⟩ = some (.slice Ak lk.length ck) ∧ w'.cell? (ax.add k.toNat) = some (.int .i64 (rd xs k)) ∧ w'.cell? ⟨g,6,none⟩ = some (.slice (some ab) s.bk.length cb) ∧ w'.cell? (ab.add (rd xs k).toNat) = some (.int .i64 (rd s.bk (rd xs k)))) (ds:=[13,15]) (Array.replicate 16 false) (by kernel_rfl) rfl rfl ⟨HD.out.cells.2.1,hxk,HD.out.S.cells.2.2.2.2.2.2.1,hbk⟩ (fun hHeld=>?_)
     refine pa_ 0 61 (bz_ 16 1) ?_
     refine pa_ 2 63 (bz_ 16 5) ?_
     refine pa_ 3 64 (bz_ 16 13) ?_
     refine pa_ 4 65 (bz_ 16 29) ?_
     refine pa_ 6 67 (bz_ 16 93) ?_
     refine pa_ 7 68 (bz_ 16 221) ?_
     refine pa_ 8 69 (bz_ 16 477) ?_
     refine ta_ 1 62 (bz_ 16 479) hHeld (hy:=Or.inl ⟨by rfl,by rintro w' ⟨s0,s1,s2,s3⟩;go_simp;with_reducible rfl⟩) (h:=?_)
     refine ta_ 5 66 (bz_ 16 511) hHeld (hy:=Or.inl ⟨by rfl,by rintro w' ⟨s0,s1,s2,s3⟩;go_simp;with_reducible rfl⟩) (h:=?_)
     refine ta_ 9 70 (bz_ 16 1023) hHeld (hy:=Or.inl ⟨by rfl,by rintro w' ⟨s0,s1,s2,s3⟩;go_simp;with_reducible rfl⟩) (h:=?_)
     refine pa_ 10 71 (bz_ 16 2047) ?_
     refine ta_ 11 72 (bz_ 16 4095) hHeld (hy:=Or.inl ⟨by rfl,by rintro w' ⟨s0,s1,s2,s3⟩;go_simp;with_reducible rfl⟩) (h:=?_)
     refine one_ (i:=12) (N:=some 73) (bz_ 16 8191) rfl rfl (by kernel_rfl) (by decide) (fun K hK=>?_)
     refine value_ (w1:=?_) (v:=?_) (by rfl) rfl ?_ ?_
     rotate_left 2
     ·go_simp
      constructor
      ·rfl
      rfl
     refine hK.out _ _ ⟨pw_cell_below (qo (Below.refl _ _) _) hHeld.1,pw_cell_below (qo (Below.refl _ _) _) hHeld.2.1,pw_cell_below (qo (Below.refl _ _) _) hHeld.2.2.1,pw_cell_below (qo (Below.refl _ _) _) hHeld.2.2.2⟩ (fun hHeld=>?_)
     clear hK K
     refine norm_ (a':=?_) ?_ ?_
     rotate_left
     ·show Act.put _ (some 73) _ = _
      simp only [Act.put,List.setIfInBounds_toArray,List.set_cons_zero,List.set_cons_succ,i64_w,i32_w]
      rfl
     refine last_ (i:=13) (N:=some 74) (bz_ 16 16383) rfl rfl (by kernel_rfl) (by decide) (fun K hK=>?_)
     refine Kd.R_append_step (Kd.int .i64) (w0:=w0) (W:=wr.drew) w0.heap.size (by rfl) (.tmp 62) (.tmp 73) 35 3 (.int .i64 0) 8 rfl Try.underlying35 info3 rfl (by decide) (by omega) (.slice Ak lk.length ck) lk (rd s.bk (rd xs k)) [.int .i64 (rd s.bk (rd xs k))] (fun q=>(if wr.heap.size ≤ q then 7 else col3 q) = 7) (fun _=>False) (by rfl) (by rfl) rfl (fun _ hk=>hk.elim) (fun q hq=>if_pos hq) HDd.out.rk HDd.out.S.hb HDd.out.S.hb.size (by have:=HL.out;omega) ?_
     intro v7 w7 ho hb hg hat
     obtain ⟨A7,c7,e_⟩:=Kd.R_slice ho
     rw [List.length_append,List.length_singleton] at e_
     subst e_
     obtain ⟨hD3,hx3,hf3⟩:=Fd.app_k HDd.out ho hb hg
     have HD3:=qy.mk hD3
     clear hD3 ho hb hg hat
     refine hK.out _ _ ?_
     clear hK K
     refine norm_ (a':=?_) ?_ ?_
     rotate_left
     ·show Act.put _ (some 74) _ = _
      simp only [Act.put,List.setIfInBounds_toArray,List.set_cons_zero,List.set_cons_succ,i64_w,i32_w]
      rfl
     refine pa_ 14 75 (bz_ 16 32767) ?_
     refine last_ (i:=15) (N:=none) (bz_ 16 65535) rfl rfl (by kernel_rfl) (by decide) (fun K hK=>?_)
     refine skip_ (w1:=?_) (by rfl) rfl ?_ ?_
     rotate_left
     ·go_simp
      rfl
     refine hK.out _ _ ?_
     clear hK K
     refine done_ (by kernel_rfl) ?_
     clear hx3 hf3 HDd
     generalize w7.setCell _ _ = w8 at HD3 ⊢
     clear hxk hbk HD
     obtain ⟨_,e_,hxk⟩:=Kd.at_int (Kd.R_reads' HD3.out.rx).2.2 k HK0.out (by have:=HI.out;omega)
     obtain rfl:=Option.some.inj e_
     go_wp2_with fail
     have HDd : qy (Fd w0 w8.drew _ _ _ _ _ (fun q=>if w8.heap.size ≤ q then 6 else (fun q=>if wr.heap.size ≤ q then 7 else col3 q) q) _ _ _ _ _ _ gr (.slice Am mem.length cm) (_) mem _ _ _ _ _ xs ws):=⟨(HD3.out.ahead 6).to (qh (Below.refl _ _))⟩
     refine start_ (n:=10) (S:=fun w'=>w'.cell? ⟨gr,0,none⟩ = some (.slice Am mem.length cm) ∧ w'.cell? (ax.add k.toNat) = some (.int .i64 (rd xs k))) (ds:=[7,9]) (Array.replicate 10 false) (by kernel_rfl) rfl rfl ⟨HD3.out.cells.1,hxk⟩ (fun hHeld=>?_)
     refine pa_ 0 76 (bz_ 10 1) ?_
     refine pa_ 2 78 (bz_ 10 5) ?_
     refine pa_ 3 79 (bz_ 10 13) ?_
     refine pa_ 4 80 (bz_ 10 29) ?_
     refine ta_ 1 77 (bz_ 10 31) hHeld (hy:=Or.inl ⟨by rfl,by rintro w' ⟨s0,s1⟩;go_simp;with_reducible rfl⟩) (h:=?_)
     refine ta_ 5 81 (bz_ 10 63) hHeld (hy:=Or.inl ⟨by rfl,by rintro w' ⟨s0,s1⟩;go_simp;with_reducible rfl⟩) (h:=?_)
     refine one_ (i:=6) (N:=some 82) (bz_ 10 127) rfl rfl (by kernel_rfl) (by decide) (fun K hK=>?_)
     refine value_ (w1:=?_) (v:=?_) (by rfl) rfl ?_ ?_
     rotate_left 2
     ·go_simp
      constructor
      ·rfl
      rfl
     refine hK.out _ _ ⟨pw_cell_below (qo (Below.refl _ _) _) hHeld.1,pw_cell_below (qo (Below.refl _ _) _) hHeld.2⟩ (fun hHeld=>?_)
     clear hK K
     refine norm_ (a':=?_) ?_ ?_
     rotate_left
     ·show Act.put _ (some 82) _ = _
      simp only [Act.put,List.setIfInBounds_toArray,List.set_cons_zero,List.set_cons_succ,i64_w,i32_w]
      rfl
     refine last_ (i:=7) (N:=some 83) (bz_ 10 255) rfl rfl (by kernel_rfl) (by decide) (fun K hK=>?_)
     refine Kd.R_append_step (Kd.int .i64) (w0:=w0) (W:=w8.drew) w0.heap.size (by rfl) (.tmp 77) (.tmp 82) 35 3 (.int .i64 0) 8 rfl Try.underlying35 info3 rfl (by decide) (by omega) (.slice Am mem.length cm) mem (rd xs k) [.int .i64 (rd xs k)] (fun q=>(if w8.heap.size ≤ q then 6 else (fun q=>if wr.heap.size ≤ q then 7 else col3 q) q) = 6) (fun _=>False) (by rfl) (by rfl) rfl (fun _ hk=>hk.elim) (fun q hq=>if_pos hq) HDd.out.rm HDd.out.S.hb HDd.out.S.hb.size (by have:=HL.out;omega) ?_
     intro v7 w7 ho hb hg hat
     obtain ⟨A7,c7,e_⟩:=Kd.R_slice ho
     rw [List.length_append,List.length_singleton] at e_
     subst e_
     obtain ⟨hD3,hx3,hf3⟩:=Fd.app_m HDd.out ho hb hg
     have HD4:=qy.mk hD3
     clear hD3 ho hb hg hat
     refine hK.out _ _ ?_
     clear hK K
     refine norm_ (a':=?_) ?_ ?_
     rotate_left
     ·show Act.put _ (some 83) _ = _
      simp only [Act.put,List.setIfInBounds_toArray,List.set_cons_zero,List.set_cons_succ,i64_w,i32_w]
      rfl
     refine pa_ 8 84 (bz_ 10 511) ?_
     refine last_ (i:=9) (N:=none) (bz_ 10 1023) rfl rfl (by kernel_rfl) (by decide) (fun K hK=>?_)
     refine skip_ (w1:=?_) (by rfl) rfl ?_ ?_
     rotate_left
     ·go_simp
      rfl
     refine hK.out _ _ ?_
     clear hK K
     refine done_ (by kernel_rfl) ?_
     clear hx3 hf3 HDd
     generalize w7.setCell _ _ = w9 at HD4 ⊢
     go_wp2_with fail
     go_roundg k1
     case measure=>omega
     case rel=>exact ⟨k - 1,_,_,_,_,_,_,_,by rw [w64 (by have:=HK0.out;omega) (by have:=HI.out;have:=H0.out;omega)],⟨by have:=HK0.out;omega,by have:=HI.out;omega,by have:=HI.out;omega⟩,⟨by rw [List.length_append,List.length_singleton];have:=HL.out;omega,by rw [List.length_append,List.length_singleton];have:=HL.out;omega,HL.out.2.2⟩,HT,by rw [List.length_append,List.length_append,List.length_singleton,List.length_singleton];exact HD4⟩
    rw [if_neg c] at h
    have cl0 : decide (k ≥ 0) = false:=decide_eq_false c
    subst h
    clear c
    have hcx:=HD.out.cells
    have HDa:=qy.mk (HD.out.ahead 7)
    go_upto_region 12 with (first|((with_reducible refine gate_builtin (b:=.append) (xs:=#[.tmp 86,.tmp 88]) rfl ?_);at_builtin;refine Kd.R_append (Kd.int .i64) (w0:=w0) (W:=wr) w0.heap.size rfl (.tmp 86) (.tmp 88) 35 3 (.int .i64 0) 8 rfl Try.underlying35 info3 rfl (by decide) (by omega) (.slice Ak lk.length ck) lk e [.int .i64 e] (fun q=>(if wr.heap.size ≤ q then 7 else col3 q) = 7) (fun _=>False) rfl rfl rfl (fun _ hk=>hk.elim) (fun q hq=>if_pos hq) HDa.out.rk HDa.out.S.hb HDa.out.S.hb.size (by have:=HL.out;omega) ?_;intro v7 w7 ho hb hg hat;obtain ⟨A7,c7,e_⟩:=Kd.R_slice ho;rw [List.length_append,List.length_singleton] at e_;subst e_;obtain ⟨hD3,hx3,hf3⟩:=Fd.app_k HDa.out ho hb hg;have HD3:=qy.mk hD3;clear hD3 ho hb hg hat))
    clear hcx hx3 hf3 HD HDa
    generalize w7.setCell _ _ = w8 at HD3 ⊢
    have hU:=HU.out
    dsimp only at hU
    replace HU:=qy.mk hU
    clear hU
    go_wp2_with fail
    rw [← List.length_singleton (a:=e),← List.length_append] at HD3
    go_loopg [14] (ws.length + 1) (fun kq v14 w'=>∃ (k : Int) (mem lk : List Int) (Am Ak : Option Addr) (cm ck : Nat) (col : Nat → Nat),v14 = .int .i64 k ∧ qy (0 ≤ k ∧ k + kq = ws.length + 1) ∧ qy ((mem.length : Int) ≤ 1010 + k ∧ (lk.length : Int) ≤ 1010 + k ∧ k ≤ ws.length ∧ ws.length ≤ 1000) ∧ qy (upF s.bk ws (rd xs j) kq k mem lk = some (mem_,lk_)) ∧ qy (Fd w0 w' g N Ae ce es col vy (.slice (some ⟨bn,0,none⟩) s.nd.length cn) vl va (.slice Ab s.bk.length cb) s gr (.slice Am mem.length cm) (.slice Ak lk.length ck) mem lk (rd_T60 s.nd (rd xs j)).f3 (rd_T60 s.nd (rd xs j)).f4 (.slice (some ax) xs.length cx) (.slice Aw ws.length cw) xs ws))
    case atStart=>exact ⟨0,mem,lk ++ [e],_,_,_,_,_,rfl,⟨by omega,by omega⟩,⟨by have:=HL.out;have:=HI.out;omega,by rw [List.length_append,List.length_singleton];have:=HL.out;have:=HI.out;omega,by omega,by have:=H0.out;omega⟩,HU,HD3⟩
    clear HU HD3 HI HL
    obtain ⟨k,mem,lk,Am,Ak,cm,ck,col3,rfl,HI,HL,HT,HD⟩:=hrel
    have h:=HT.out
    clear HT
    obtain _|k2:=gk
    ·cases h
    rw [upF] at h
    by_cases c : inR k ws.length
    ·rw [if_pos c] at h
     obtain ⟨p,q⟩:=c
     have HK0:=qy.mk p
     have HK1:=qy.mk q
     obtain ⟨aw,e_,hxk⟩:=Kd.at_int (Kd.R_reads' HD.out.rw).2.2 k p q
     subst e_
     have p1:=eq_true p
     have q1:=eq_true q
     by_cases cj : rd ws k = rd xs j
     ·rw [if_pos cj] at h
      have cb1 : (rd ws k != rd xs j) = false:=by simpa using cj
      obtain ⟨e1_,e2_⟩:=Prod.mk.inj (Option.some.inj h)
      subst e1_
      subst e2_
      have hcx:=HD.out.cells
      clear h cj
      go_wp2_with fail
      have HML : qy ((mem.length : Int) ≤ 3000):=⟨by have:=HL.out;omega⟩
      clear hcx hxk HI HL
      go_loopg [126] (mem.length + 1) (fun kq v126 w'=>∃ (i : Int) (nd : List (S60)),v126 = .int .i64 i ∧ qy (0 ≤ i ∧ i + kq = mem.length + 1 ∧ i ≤ mem.length) ∧ qy (inF s.nd.length (mem.drop i.toNat) nd = inF s.nd.length mem s.nd) ∧ qy (nd.length = s.nd.length) ∧ qy (Fd w0 w' g N Ae ce es col3 vy (.slice (some ⟨bn,0,none⟩) s.nd.length cn) vl va (.slice Ab s.bk.length cb) { s with nd:=nd } gr (.slice Am mem.length cm) (.slice Ak lk.length ck) mem lk (rd_T60 s.nd (rd xs j)).f3 (rd_T60 s.nd (rd xs j)).f4 (.slice (some ax) xs.length cx) (.slice (some aw) ws.length cw) xs ws))
      case atStart=>exact ⟨0,s.nd,rfl,⟨by omega,by omega,by omega⟩,⟨rfl⟩,⟨rfl⟩,HD⟩
      clear HD
      obtain ⟨i2,nd,rfl,HI,HT,HL,HD⟩:=hrel
      have h:=HT.out
      clear HT
      have hc:=HD.out.S.cells
      cases gk with
      | zero =>
       exfalso
       have h1:=HI.out
       omega
      | succ k3 =>
       by_cases c : i2 < (mem.length : Int)
       ·have hi:=HI.out
        rw [drop_rd _ _ hi.1 c,inF] at h
        have HT:=qy.mk h
        have cl0 : decide (i2 < (mem.length : Int)) = true:=decide_eq_true c
        have HIL:=qy.mk c
        obtain ⟨am,e_,hmi⟩:=Kd.at_int (Kd.R_reads' HD.out.rm).2.2 i2 hi.1 c
        subst e_
        have pi:=eq_true hi.1
        have qi:=eq_true c
        have hm:=HMB.out _ (rd_mem mem i2 hi.1 c)
        obtain ⟨pm,qm⟩:=hm
        have qm' : rd mem i2 < (nd.length : Int):=by rw [HL.out];exact qm
        clear c hi h
        obtain ⟨A0n,c0n,A1n,c1n,nx0,nx1,nx2,nx3,nx4,nx5,nx6,nf2,nf3,nf5,nf6,-⟩:=HD.out.S.node_at (rd mem i2) pm qm'
        have HD2:=qy.mk (HD.out.sn (HD.out.S.sn (rd mem i2) pm qm' 2 (.int .i64 (s.nd.length : Int)) { rd_T60 nd (rd mem i2) with f2:=(s.nd.length : Int) } (by decide) (fun _ _=>rfl) ⟨rfl,rfl⟩))
        have pmb:=eq_true pm
        have qmb:=eq_true qm
        go_wp2_with fail
        refine start_ (n:=13) (S:=fun w'=>w'.cell? ⟨g,3,none⟩ = some (.slice (some ⟨bn,0,none⟩) s.nd.length cn)) (ds:=[12]) (Array.replicate 13 false) (by kernel_rfl) rfl rfl (hc.2.2.2.1) (fun hHeld=>?_)
        refine pa_ 0 130 (bz_ 13 1) ?_
        refine pa_ 1 131 (bz_ 13 3) ?_
        refine pa_ 2 132 (bz_ 13 7) ?_
        refine pa_ 4 134 (bz_ 13 23) ?_
        refine pa_ 5 135 (bz_ 13 55) ?_
        refine pa_ 6 136 (bz_ 13 119) ?_
        refine pa_ 7 137 (bz_ 13 247) ?_
        refine take_ (i:=3) (N:=some 133) (v:=?_) (a':=?_) (bz_ 13 255) rfl rfl (by kernel_rfl) (fun _ _ _ h=>h) (Or.inl ⟨by rfl,?_⟩) hHeld ?_ ?_
        rotate_left
        ·intro w' s0
         go_simp
         with_reducible rfl
        rotate_left
        ·simp only [Act.put,List.setIfInBounds_toArray,List.set_cons_zero,List.set_cons_succ,i64_w,i32_w]
         rfl
        refine take_ (i:=8) (N:=some 138) (v:=?_) (a':=?_) (bz_ 13 511) rfl rfl (by kernel_rfl) (fun _ _ _ h=>h) (Or.inl ⟨by rfl,?_⟩) hHeld ?_ ?_
        rotate_left
        ·intro w' s0
         go_simp
         with_reducible rfl
        rotate_left
        ·simp only [Act.put,List.setIfInBounds_toArray,List.set_cons_zero,List.set_cons_succ,i64_w,i32_w]
         rfl
        refine pa_ 9 139 (bz_ 13 1023) ?_
        refine pa_ 10 140 (bz_ 13 2047) ?_
        refine pa_ 11 141 (bz_ 13 4095) ?_
        refine last_ (i:=12) (N:=none) (bz_ 13 8191) rfl rfl (by kernel_rfl) (by decide) (fun K hK=>?_)
        refine skip_ (w1:=?_) (by rfl) rfl ?_ ?_
        rotate_left
        ·go_simp
         rfl
        refine hK.out _ _ ?_
        clear hK K
        refine done_ (by kernel_rfl) ?_
        clear nx0 nx1 nx2 nx3 nx4 nx5 nx6 nf2 nf3 nf5 nf6 hc hmi HD
        replace HD2:=qy.mk (HD2.out.to (qh (Below.refl _ _)))
        generalize (wr.setCell _ _).drew = w9 at HD2 ⊢
        have hc:=HD2.out.S.cells
        have qm2 : rd mem i2 < ((inAt nd (rd mem i2) (s.nd.length : Int)).length : Int):=by rw [inAt,List.length_set];exact qm'
        obtain ⟨A0n,c0n,A1n,c1n,nx0,nx1,nx2,nx3,nx4,nx5,nx6,nf2,nf3,nf5,nf6,-⟩:=HD2.out.S.node_at (rd mem i2) pm qm2
        have HD3:=qy.mk (HD2.out.sn (HD2.out.S.sn (rd mem i2) pm qm2 3 (.int .i64 (-1)) { rd_T60 (inAt nd (rd mem i2) (s.nd.length : Int)) (rd mem i2) with f3:=-1 } (by decide) (fun _ _=>rfl) ⟨rfl,rfl⟩))
        go_wp2_with fail
        clear nx0 nx1 nx2 nx3 nx4 nx5 nx6 nf2 nf3 nf5 nf6 hc HD2
        generalize w9.setCell _ _ = w10 at HD3 ⊢
        skip
        go_roundg k3
        case measure=>omega
        case rel=>exact ⟨i2 + 1,_,by rw [w64 (by have:=HI.out;omega) (by have:=HIL.out;have:=HML.out;omega)],⟨by have:=HI.out;omega,by have:=HI.out;omega,by have:=HIL.out;omega⟩,HT,⟨by rw [mateAt,List.length_set,inAt,List.length_set];exact HL.out⟩,HD3⟩
       have hi:=HI.out
       rw [List.drop_eq_nil_of_le (by omega),inF] at h
       subst h
       have cl0 : decide (i2 < (mem.length : Int)) = false:=decide_eq_false c
       clear c hi HI
       go_wp2_with fail
       have hcx:=HD.out.cells
       obtain ⟨col4,hS4,hnew,hm4,hk4⟩:=(HD.out.to (w1:=wr.drew) (qh (Below.refl _ _))).join
       have HS4:=qy.mk hS4
       have HJ4:=qy.mk (And.intro hnew (And.intro hm4 hk4))
       clear hS4 hnew hm4 hk4 HD
       refine start_ (n:=11) (S:=fun w'=>w'.cell? ⟨g,3,none⟩ = some (.slice (some ⟨bn,0,none⟩) s.nd.length cn) ∧ w'.cell? ⟨gr,0,none⟩ = some (.slice Am mem.length cm) ∧ w'.cell? ⟨gr,1,none⟩ = some (.slice Ak lk.length ck) ∧ w'.cell? ⟨gr,2,none⟩ = some (.int .i64 (-1)) ∧ w'.cell? ⟨gr,3,none⟩ = some (.int .i64 (rd_T60 s.nd (rd xs j)).f3) ∧ w'.cell? ⟨gr,4,none⟩ = some (.int .i64 (rd_T60 s.nd (rd xs j)).f4) ∧ w'.cell? ⟨gr,5,none⟩ = some (.int .i64 0) ∧ w'.cell? ⟨gr,6,none⟩ = some (.bool false)) (ds:=[7,10]) (Array.replicate 11 false) (by kernel_rfl) rfl rfl ⟨hc.2.2.2.1,hcx.1,hcx.2.1,hcx.2.2.1,hcx.2.2.2.1,hcx.2.2.2.2.1,hcx.2.2.2.2.2.1,hcx.2.2.2.2.2.2.1⟩ (fun hHeld=>?_)
       refine pa_ 0 150 (bz_ 11 1) ?_
       refine pa_ 1 151 (bz_ 11 3) ?_
       refine pa_ 2 152 (bz_ 11 7) ?_
       refine pa_ 3 153 (bz_ 11 15) ?_
       refine ta_ 4 154 (bz_ 11 31) hHeld (hy:=Or.inl ⟨by rfl,by rintro w' ⟨s0,s1,s2,s3,s4,s5,s6,s7⟩;go_simp;with_reducible rfl⟩) (h:=?_)
       refine ta_ 5 155 (bz_ 11 63) hHeld (hy:=Or.inl ⟨by rfl,by rintro w' ⟨s0,s1,s2,s3,s4,s5,s6,s7⟩;go_simp;with_reducible rfl⟩) (h:=?_)
       refine one_ (i:=6) (N:=some 156) (bz_ 11 127) rfl rfl (by kernel_rfl) (by decide) (fun K hK=>?_)
       refine value_ (w1:=?_) (v:=?_) (by rfl) rfl ?_ ?_
       rotate_left 2
       ·go_simp
        constructor
        ·rfl
        rfl
       refine hK.out _ _ ⟨pw_cell_below (qo (Below.refl _ _) _) hHeld.1,pw_cell_below (qo (Below.refl _ _) _) hHeld.2.1,pw_cell_below (qo (Below.refl _ _) _) hHeld.2.2.1,pw_cell_below (qo (Below.refl _ _) _) hHeld.2.2.2.1,pw_cell_below (qo (Below.refl _ _) _) hHeld.2.2.2.2.1,pw_cell_below (qo (Below.refl _ _) _) hHeld.2.2.2.2.2.1,pw_cell_below (qo (Below.refl _ _) _) hHeld.2.2.2.2.2.2.1,pw_cell_below (qo (Below.refl _ _) _) hHeld.2.2.2.2.2.2.2⟩ (fun hHeld=>?_)
       clear hK K
       refine norm_ (a':=?_) ?_ ?_
       rotate_left
       ·show Act.put _ (some 156) _ = _
        simp only [Act.put,List.setIfInBounds_toArray,List.set_cons_zero,List.set_cons_succ,i64_w,i32_w]
        rfl
       refine last_ (i:=7) (N:=some 157) (bz_ 11 255) rfl rfl (by kernel_rfl) (by decide) (fun K hK=>?_)
       refine Kd.R_append_step k60 (w0:=w0) (W:=wr.drew) w0.heap.size (by rfl) (.tmp 154) (.tmp 156) 45 60 (.agg #[(.slice none 0 0),(.slice none 0 0),(.int .i64 0),(.int .i64 0),(.int .i64 0),(.int .i64 0),(.bool false)]) 88 rfl Try.underlying45 info60 rfl (by decide) (by omega) (.slice (some ⟨bn,0,none⟩) s.nd.length cn) (inF s.nd.length mem s.nd) ⟨mem,lk,-1,(rd_T60 s.nd (rd xs j)).f3,(rd_T60 s.nd (rd xs j)).f4,0,false⟩ [.slice Am mem.length cm,.slice Ak lk.length ck,.int .i64 (-1),.int .i64 (rd_T60 s.nd (rd xs j)).f3,.int .i64 (rd_T60 s.nd (rd xs j)).f4,.int .i64 0,.bool false] (fun k=>col4 k = 2) (fun k=>col4 k = 2 ∧ some k ≠ (Value.slice (some ⟨bn,0,none⟩) s.nd.length cn).ownBlock) (by rfl) (by rfl) (k60_mkM _ _ _ ⟨mem,lk,-1,(rd_T60 s.nd (rd xs j)).f3,(rd_T60 s.nd (rd xs j)).f4,0,false⟩ HJ4.out.2.1 HJ4.out.2.2) (fun _ hk=>hk) HJ4.out.1 HS4.out.rn HS4.out.hb HS4.out.hb.size (by rw [HL.out];have:=H0.out;omega) ?_
       intro v7 w7 ho hb hg hat
       obtain ⟨A7,c7,e_⟩:=Kd.R_slice ho
       rw [List.length_append,List.length_singleton] at e_
       subst e_
       obtain ⟨hs7,hx7,hf7⟩:=Sol.app_n HS4.out ho hb hg
       have HS7:=qy.mk hs7
       clear hs7 ho hb hg hat
       refine hK.out _ _ ?_
       clear hK K
       refine norm_ (a':=?_) ?_ ?_
       rotate_left
       ·show Act.put _ (some 157) _ = _
        simp only [Act.put,List.setIfInBounds_toArray,List.set_cons_zero,List.set_cons_succ,i64_w,i32_w]
        rfl
       refine pa_ 8 158 (bz_ 11 511) ?_
       refine pa_ 9 159 (bz_ 11 1023) ?_
       refine last_ (i:=10) (N:=none) (bz_ 11 2047) rfl rfl (by kernel_rfl) (by decide) (fun K hK=>?_)
       refine skip_ (w1:=?_) (by rfl) rfl ?_ ?_
       rotate_left
       ·go_simp
        rfl
       refine hK.out _ _ ?_
       clear hK K
       refine done_ (by kernel_rfl) ?_
       clear hc hcx hx7 hf7 HS4 HJ4
       go_wp2_with fail
       go_end0
       exact ⟨rfl,col4,_,HS7.out⟩
     rw [if_neg cj] at h
     have HT:=qy.mk h
     have cb1 : (rd ws k != rd xs j) = true:=by simpa using cj
     have hkm:=HWS.out _ (rd_mem ws k p q)
     clear h cj
     go_wp2_with fail
     have HDd : qy (Fd w0 wr.drew _ _ _ _ _ (fun q=>if wr.heap.size ≤ q then 6 else col3 q) _ _ _ _ _ _ gr (.slice Am mem.length cm) (.slice Ak lk.length ck) mem lk _ _ _ _ xs ws):=⟨(HD.out.ahead 6).to (qh (Below.refl _ _))⟩
     refine start_ (n:=10) (S:=fun w'=>w'.cell? ⟨gr,0,none⟩ = some (.slice Am mem.length cm) ∧ w'.cell? (aw.add k.toNat) = some (.int .i64 (rd ws k))) (ds:=[7,9]) (Array.replicate 10 false) (by kernel_rfl) rfl rfl ⟨HD.out.cells.1,hxk⟩ (fun hHeld=>?_)
     refine pa_ 0 99 (bz_ 10 1) ?_
     refine pa_ 2 101 (bz_ 10 5) ?_
     refine pa_ 3 102 (bz_ 10 13) ?_
     refine pa_ 4 103 (bz_ 10 29) ?_
     refine ta_ 1 100 (bz_ 10 31) hHeld (hy:=Or.inl ⟨by rfl,by rintro w' ⟨s0,s1⟩;go_simp;with_reducible rfl⟩) (h:=?_)
     refine ta_ 5 104 (bz_ 10 63) hHeld (hy:=Or.inl ⟨by rfl,by rintro w' ⟨s0,s1⟩;go_simp;with_reducible rfl⟩) (h:=?_)
     refine one_ (i:=6) (N:=some 105) (bz_ 10 127) rfl rfl (by kernel_rfl) (by decide) (fun K hK=>?_)
     refine value_ (w1:=?_) (v:=?_) (by rfl) rfl ?_ ?_
     rotate_left 2
     ·go_simp
      constructor
      ·rfl
      rfl
     refine hK.out _ _ ⟨pw_cell_below (qo (Below.refl _ _) _) hHeld.1,pw_cell_below (qo (Below.refl _ _) _) hHeld.2⟩ (fun hHeld=>?_)
     clear hK K
     refine norm_ (a':=?_) ?_ ?_
     rotate_left
     ·show Act.put _ (some 105) _ = _
      simp only [Act.put,List.setIfInBounds_toArray,List.set_cons_zero,List.set_cons_succ,i64_w,i32_w]
      rfl
     refine last_ (i:=7) (N:=some 106) (bz_ 10 255) rfl rfl (by kernel_rfl) (by decide) (fun K hK=>?_)
     refine Kd.R_append_step (Kd.int .i64) (w0:=w0) (W:=wr.drew) w0.heap.size (by rfl) (.tmp 100) (.tmp 105) 35 3 (.int .i64 0) 8 rfl Try.underlying35 info3 rfl (by decide) (by omega) (.slice Am mem.length cm) mem (rd ws k) [.int .i64 (rd ws k)] (fun q=>(if wr.heap.size ≤ q then 6 else col3 q) = 6) (fun _=>False) (by rfl) (by rfl) rfl (fun _ hk=>hk.elim) (fun q hq=>if_pos hq) HDd.out.rm HDd.out.S.hb HDd.out.S.hb.size (by have:=HL.out;omega) ?_
     intro v7 w7 ho hb hg hat
     obtain ⟨A7,c7,e_⟩:=Kd.R_slice ho
     rw [List.length_append,List.length_singleton] at e_
     subst e_
     obtain ⟨hD3,hx3,hf3⟩:=Fd.app_m HDd.out ho hb hg
     have HD4:=qy.mk hD3
     clear hD3 ho hb hg hat
     refine hK.out _ _ ?_
     clear hK K
     refine norm_ (a':=?_) ?_ ?_
     rotate_left
     ·show Act.put _ (some 106) _ = _
      simp only [Act.put,List.setIfInBounds_toArray,List.set_cons_zero,List.set_cons_succ,i64_w,i32_w]
      rfl
     refine pa_ 8 107 (bz_ 10 511) ?_
     refine last_ (i:=9) (N:=none) (bz_ 10 1023) rfl rfl (by kernel_rfl) (by decide) (fun K hK=>?_)
     refine skip_ (w1:=?_) (by rfl) rfl ?_ ?_
     rotate_left
     ·go_simp
      rfl
     refine hK.out _ _ ?_
     clear hK K
     refine done_ (by kernel_rfl) ?_
     clear hx3 hf3 HDd
     generalize w7.setCell _ _ = w9 at HD4 ⊢
     clear hxk HD
     obtain ⟨_,e_,hxk⟩:=Kd.at_int (Kd.R_reads' HD4.out.rw).2.2 k HK0.out HK1.out
     obtain rfl:=Option.some.inj e_
     obtain ⟨ab,e_,hbk⟩:=Kd.at_int (Kd.R_reads' HD4.out.S.rb).2.2 (rd ws k) hkm.2.1 hkm.2.2
     subst e_
     have p2:=eq_true hkm.2.1
     have q2:=eq_true hkm.2.2
     go_wp2_with fail
     have HDd : qy (Fd w0 w9.drew _ _ _ _ _ (fun q=>if w9.heap.size ≤ q then 7 else (fun q=>if wr.heap.size ≤ q then 6 else col3 q) q) _ _ _ _ _ _ gr (_) (.slice Ak lk.length ck) _ lk _ _ _ _ xs ws):=⟨(HD4.out.ahead 7).to (qh (Below.refl _ _))⟩
     refine start_ (n:=16) (S:=fun w'=>w'.cell? ⟨gr,1,none⟩ = some (.slice Ak lk.length ck) ∧ w'.cell? (aw.add k.toNat) = some (.int .i64 (rd ws k)) ∧ w'.cell? ⟨g,6,none⟩ = some (.slice (some ab) s.bk.length cb) ∧ w'.cell? (ab.add (rd ws k).toNat) = some (.int .i64 (rd s.bk (rd ws k)))) (ds:=[13,15]) (Array.replicate 16 false) (by kernel_rfl) rfl rfl ⟨HD4.out.cells.2.1,hxk,HD4.out.S.cells.2.2.2.2.2.2.1,hbk⟩ (fun hHeld=>?_)
     refine pa_ 0 108 (bz_ 16 1) ?_
     refine pa_ 2 110 (bz_ 16 5) ?_
     refine pa_ 3 111 (bz_ 16 13) ?_
     refine pa_ 4 112 (bz_ 16 29) ?_
     refine pa_ 6 114 (bz_ 16 93) ?_
     refine pa_ 7 115 (bz_ 16 221) ?_
     refine pa_ 8 116 (bz_ 16 477) ?_
     refine ta_ 1 109 (bz_ 16 479) hHeld (hy:=Or.inl ⟨by rfl,by rintro w' ⟨s0,s1,s2,s3⟩;go_simp;with_reducible rfl⟩) (h:=?_)
     refine ta_ 5 113 (bz_ 16 511) hHeld (hy:=Or.inl ⟨by rfl,by rintro w' ⟨s0,s1,s2,s3⟩;go_simp;with_reducible rfl⟩) (h:=?_)
     refine ta_ 9 117 (bz_ 16 1023) hHeld (hy:=Or.inl ⟨by rfl,by rintro w' ⟨s0,s1,s2,s3⟩;go_simp;with_reducible rfl⟩) (h:=?_)
     refine pa_ 10 118 (bz_ 16 2047) ?_
     refine ta_ 11 119 (bz_ 16 4095) hHeld (hy:=Or.inl ⟨by rfl,by rintro w' ⟨s0,s1,s2,s3⟩;go_simp;with_reducible rfl⟩) (h:=?_)
     refine one_ (i:=12) (N:=some 120) (bz_ 16 8191) rfl rfl (by kernel_rfl) (by decide) (fun K hK=>?_)
     refine value_ (w1:=?_) (v:=?_) (by rfl) rfl ?_ ?_
     rotate_left 2
     ·go_simp
      constructor
      ·rfl
      rfl
     refine hK.out _ _ ⟨pw_cell_below (qo (Below.refl _ _) _) hHeld.1,pw_cell_below (qo (Below.refl _ _) _) hHeld.2.1,pw_cell_below (qo (Below.refl _ _) _) hHeld.2.2.1,pw_cell_below (qo (Below.refl _ _) _) hHeld.2.2.2⟩ (fun hHeld=>?_)
     clear hK K
     refine norm_ (a':=?_) ?_ ?_
     rotate_left
     ·show Act.put _ (some 120) _ = _
      simp only [Act.put,List.setIfInBounds_toArray,List.set_cons_zero,List.set_cons_succ,i64_w,i32_w]
      rfl
     refine last_ (i:=13) (N:=some 121) (bz_ 16 16383) rfl rfl (by kernel_rfl) (by decide) (fun K hK=>?_)
     refine Kd.R_append_step (Kd.int .i64) (w0:=w0) (W:=w9.drew) w0.heap.size (by rfl) (.tmp 109) (.tmp 120) 35 3 (.int .i64 0) 8 rfl Try.underlying35 info3 rfl (by decide) (by omega) (.slice Ak lk.length ck) lk (rd s.bk (rd ws k)) [.int .i64 (rd s.bk (rd ws k))] (fun q=>(if w9.heap.size ≤ q then 7 else (fun q=>if wr.heap.size ≤ q then 6 else col3 q) q) = 7) (fun _=>False) (by rfl) (by rfl) rfl (fun _ hk=>hk.elim) (fun q hq=>if_pos hq) HDd.out.rk HDd.out.S.hb HDd.out.S.hb.size (by have:=HL.out;omega) ?_
     intro v7 w7 ho hb hg hat
     obtain ⟨A7,c7,e_⟩:=Kd.R_slice ho
     rw [List.length_append,List.length_singleton] at e_
     subst e_
     obtain ⟨hD3,hx3,hf3⟩:=Fd.app_k HDd.out ho hb hg
     have HD5:=qy.mk hD3
     clear hD3 ho hb hg hat
     refine hK.out _ _ ?_
     clear hK K
     refine norm_ (a':=?_) ?_ ?_
     rotate_left
     ·show Act.put _ (some 121) _ = _
      simp only [Act.put,List.setIfInBounds_toArray,List.set_cons_zero,List.set_cons_succ,i64_w,i32_w]
      rfl
     refine pa_ 14 122 (bz_ 16 32767) ?_
     refine last_ (i:=15) (N:=none) (bz_ 16 65535) rfl rfl (by kernel_rfl) (by decide) (fun K hK=>?_)
     refine skip_ (w1:=?_) (by rfl) rfl ?_ ?_
     rotate_left
     ·go_simp
      rfl
     refine hK.out _ _ ?_
     clear hK K
     refine done_ (by kernel_rfl) ?_
     clear hx3 hf3 HDd
     generalize w7.setCell _ _ = w10 at HD5 ⊢
     go_wp2_with fail
     go_roundg k2
     case measure=>omega
     case rel=>exact ⟨k + 1,_,_,_,_,_,_,_,by rw [w64 (by have:=HK0.out;omega) (by have:=HK1.out;have:=H0.out;omega)],⟨by have:=HK0.out;omega,by have:=HI.out;omega⟩,⟨by rw [List.length_append,List.length_singleton];have:=HL.out;omega,by rw [List.length_append,List.length_singleton];have:=HL.out;omega,by have:=HK1.out;omega,HL.out.2.2.2⟩,HT,by rw [List.length_append,List.length_append,List.length_singleton,List.length_singleton];exact HD5⟩
    rw [if_neg c] at h
    cases h
  rw [if_neg cm] at h
  rw [decide_eq_false cm] at HHI
  have HT:=qy.mk h
  clear h cm
  go_wp2_with (first|(go_at_call 56;refine HHI.out.mono ?_;rintro r w3 ⟨rfl,⟨nd,rfl⟩⟩))
  go_roundg k1
  case measure=>omega
  case rel=>exact ⟨j + 1,by rw [w64 (by omega) (by have:=HJ.out;have:=H0.out;omega)],⟨by omega,by have:=HI.out;omega⟩,HT,⟨HF.out.to (qd (Below.refl _ _) nd)⟩⟩
 rw [if_neg c] at h
 cases h
end Go.Proofs.Ytnffimpoekjkpaa.QFnExactRounds
