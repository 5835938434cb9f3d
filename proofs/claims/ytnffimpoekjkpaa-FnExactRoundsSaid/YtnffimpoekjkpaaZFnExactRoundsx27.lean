/- The program's solver: fresh. -/
import Derived.Test.YtnffimpoekjkpaaZFnExactRoundsx26
namespace Go.Proofs.Ytnffimpoekjkpaa.QFnExactRounds
open Go.RowKit Go.Proofs.YtnffimpoekjkpaaW.PrintWords Go.Proofs.YtnffimpoekjkpaaW.PrintLast Go.Proofs.YtnffimpoekjkpaaW.PrintMore
attribute [local go_sem] max2_int min2_int max_two min_two max_three min_three max_four min_four
set_option linter.unusedVariables false
set_option linter.unusedSimpArgs false
/-- Rows of zeros that are made and not yet stored. -/
def Pend (W : World) (base : Nat) (col : Nat → Nat) (c : Nat) (n : Nat) (o : Option Value) : Prop:=∀ v,o = some v → Kd.R (Kd.int .i64) 3 W base (fun k=>col k = c) v (List.replicate n 0)
def Frs (w0 W : World) (g : Nat) (N : Int) (Ae : Option Addr) (ce : Nat) (es : List (S51)) (vy vn vl va vb : Value) (s : SI) (o3 o4 o5 : Option Value) : Prop :=
 ∃ col,Sol w0 W g N Ae ce es col vy vn vl va vb s ∧ Pend W w0.heap.size col 3 s.nd.length o3 ∧ Pend W w0.heap.size col 4 s.nd.length o4 ∧ Pend W w0.heap.size col 5 s.nd.length o5
section
variable {w0 W W1 : World} {g : Nat} {N : Int} {Ae : Option Addr} {ce : Nat} {es : List (S51)} {col col' : Nat → Nat} {vy vn vl va vb v : Value} {s : SI} {o3 o4 o5 o : Option Value} {c n base : Nat}
theorem Pend.to (h : Pend W base col c n o) (hb : Below W.heap.size W W1) : Pend W1 base col c n o:=fun v hv=>Kd.R_below (h v hv) hb
theorem Pend.recol (h : Pend W base col c n o) (hc : ∀ k,k < W.heap.size → col' k = col k) : Pend W base col' c n o:=fun v hv =>
 Kd.R_mono (Kd.R_bound (h v hv)) (by rintro k ⟨h1,_,h2,_⟩;rw [hc k h2];exact h1)
theorem Pend.set {cells : Array Value} {j : Nat} {u : Value} (h : Pend W base col c n o) (hb : W.heap[g]? = some (.cells cells 47 (0,0))) : Pend (W.setCell ⟨g,j,none⟩ u) base col c n o:=fun v hv=>Kd.R_set (h v hv) hb t47_3 _ _
/-- A new row of a colour. -/
theorem new_col (h : Kd.R (Kd.int .i64) 3 W1 W.heap.size (fun _=>True) v (List.replicate n 0)) (hb : base ≤ W.heap.size) (c : Nat) : Kd.R (Kd.int .i64) 3 W1 base (fun k=>(if W.heap.size ≤ k then c else col k) = c) v (List.replicate n 0) :=
 Kd.R_lower (Kd.R_mono (Kd.R_bound h) (by rintro k ⟨_,h1,_⟩;rw [if_pos h1])) hb
theorem Frs.make (h : Frs w0 W g N Ae ce es vy vn vl va vb s o3 o4 o5) (ho : Kd.R (Kd.int .i64) 3 W1 W.heap.size (fun _=>True) v (List.replicate s.nd.length 0)) (hb : Below W.heap.size W W1) (c : Nat) :
  ∃ col,Sol w0 W1 g N Ae ce es col vy vn vl va vb s ∧ Pend W1 w0.heap.size col 3 s.nd.length o3 ∧ Pend W1 w0.heap.size col 4 s.nd.length o4 ∧ Pend W1 w0.heap.size col 5 s.nd.length o5 ∧ Kd.R (Kd.int .i64) 3 W1 w0.heap.size (fun k=>col k = c) v (List.replicate s.nd.length 0):=by
 obtain ⟨col,hS,h3,h4,h5⟩:=h
 have hc : ∀ k,k < W.heap.size → (if W.heap.size ≤ k then c else col k) = col k:=fun k hk=>by rw [if_neg (by omega)]
 exact ⟨fun k=>if W.heap.size ≤ k then c else col k,(hS.recol hc).to hb,(h3.recol hc).to hb,(h4.recol hc).to hb,(h5.recol hc).to hb,new_col ho hS.hb.size c⟩
theorem Frs.make3 (h : Frs w0 W g N Ae ce es vy vn vl va vb s none o4 o5) (ho : Kd.R (Kd.int .i64) 3 W1 W.heap.size (fun _=>True) v (List.replicate s.nd.length 0)) (hb : Below W.heap.size W W1) : Frs w0 W1 g N Ae ce es vy vn vl va vb s (some v) o4 o5:=by
 obtain ⟨col,hS,_,h4,h5,hn⟩:=h.make ho hb 3
 exact ⟨col,hS,fun v hv=>by injection hv with e;subst e;exact hn,h4,h5⟩
theorem Frs.make4 (h : Frs w0 W g N Ae ce es vy vn vl va vb s o3 none o5) (ho : Kd.R (Kd.int .i64) 3 W1 W.heap.size (fun _=>True) v (List.replicate s.nd.length 0)) (hb : Below W.heap.size W W1) : Frs w0 W1 g N Ae ce es vy vn vl va vb s o3 (some v) o5:=by
 obtain ⟨col,hS,h3,_,h5,hn⟩:=h.make ho hb 4
 exact ⟨col,hS,h3,fun v hv=>by injection hv with e;subst e;exact hn,h5⟩
theorem Frs.make5 (h : Frs w0 W g N Ae ce es vy vn vl va vb s o3 o4 none) (ho : Kd.R (Kd.int .i64) 3 W1 W.heap.size (fun _=>True) v (List.replicate s.nd.length 0)) (hb : Below W.heap.size W W1) : Frs w0 W1 g N Ae ce es vy vn vl va vb s o3 o4 (some v):=by
 obtain ⟨col,hS,h3,h4,_,hn⟩:=h.make ho hb 5
 exact ⟨col,hS,h3,h4,fun v hv=>by injection hv with e;subst e;exact hn⟩
theorem Frs.st3 (h : Frs w0 W g N Ae ce es vy vn vl va vb s (some v) o4 o5) : Frs w0 (W.setCell ⟨g,4,none⟩ v) g N Ae ce es vy vn v va vb { s with lb:=List.replicate s.nd.length 0 } none o4 o5:=by
 obtain ⟨col,hS,h3,h4,h5⟩:=h
 exact ⟨col,hS.fl (h3 v rfl),(fun _ h=>nomatch h),h4.set hS.blk,h5.set hS.blk⟩
theorem Frs.st4 (h : Frs w0 W g N Ae ce es vy vn vl va vb s o3 (some v) o5) : Frs w0 (W.setCell ⟨g,5,none⟩ v) g N Ae ce es vy vn vl v vb { s with ah:=List.replicate s.nd.length 0 } o3 none o5:=by
 obtain ⟨col,hS,h3,h4,h5⟩:=h
 exact ⟨col,hS.fa (h4 v rfl),h3.set hS.blk,(fun _ h=>nomatch h),h5.set hS.blk⟩
theorem Frs.st5 (h : Frs w0 W g N Ae ce es vy vn vl va vb s o3 o4 (some v)) : Frs w0 (W.setCell ⟨g,6,none⟩ v) g N Ae ce es vy vn vl va v { s with bk:=List.replicate s.nd.length 0 } o3 o4 none:=by
 obtain ⟨col,hS,h3,h4,h5⟩:=h
 exact ⟨col,hS.fb (h5 v rfl),h3.set hS.blk,h4.set hS.blk,(fun _ h=>nomatch h)⟩
theorem Frs.to (h : Frs w0 W g N Ae ce es vy vn vl va vb s o3 o4 o5) (hb : Below W.heap.size W W1) : Frs w0 W1 g N Ae ce es vy vn vl va vb s o3 o4 o5:=by
 obtain ⟨col,hS,h3,h4,h5⟩:=h
 exact ⟨col,hS.to hb,h3.to hb,h4.to hb,h5.to hb⟩
theorem Frs.cell (h : Frs w0 W g N Ae ce es vy vn vl va vb s o3 o4 o5) : W.cell? ⟨g,3,none⟩ = some vn:=h.elim fun col h=>h.1.cells.2.2.2.1
theorem Frs.cell4 (h : Frs w0 W g N Ae ce es vy vn vl va vb s o3 o4 o5) : W.cell? ⟨g,4,none⟩ = some vl ∧ W.frozen? ⟨g,4,none⟩ = false:=h.elim fun col h=>⟨h.1.cells.2.2.2.2.1,h.1.frz.2.2.1⟩
theorem Frs.cell5 (h : Frs w0 W g N Ae ce es vy vn vl va vb s o3 o4 o5) : W.cell? ⟨g,5,none⟩ = some va ∧ W.frozen? ⟨g,5,none⟩ = false:=h.elim fun col h=>⟨h.1.cells.2.2.2.2.2.1,h.1.frz.2.2.2.1⟩
theorem Frs.cell6 (h : Frs w0 W g N Ae ce es vy vn vl va vb s o3 o4 o5) : W.cell? ⟨g,6,none⟩ = some vb ∧ W.frozen? ⟨g,6,none⟩ = false:=h.elim fun col h=>⟨h.1.cells.2.2.2.2.2.2.1,h.1.frz.2.2.2.2.1⟩
end
/-- The labels anew, from a node on. -/
def freshF (nd : List (S60)) : Nat → Int → List Int → List Int → List Int → List Int × List Int × List Int
 | 0,_,lb,ah,bk=>(lb,ah,bk)
 | k + 1,i,lb,ah,bk=>if i < (nd.length : Int) then freshF nd k (i + 1) (if isTopB (rd_T60 nd i) = true ∧ (rd_T60 nd i).f3 = -1 then lb.set i.toNat 1 else lb) (ah.set i.toNat (-1)) (bk.set i.toNat (-1)) else (lb,ah,bk)
def freshI (nd : List (S60)) : List Int × List Int × List Int:=freshF nd (nd.length + 1) 0 (List.replicate nd.length 0) (List.replicate nd.length 0) (List.replicate nd.length 0)
theorem isTop_calls' {w0 W : World} {g : Nat} {N : Int} {Ae : Option Addr} {ce : Nat} {es : List (S51)} {col : Nat → Nat} {vy vn vl va vb : Value} {s : SI} (hS : Sol w0 W g N Ae ce es col vy vn vl va vb s) (n : Int) (r : Bool) (hn : inR n s.nd.length) (h : isTopB (rd_T60 s.nd n) = r) :
  Calls Try.prog 50 #[.pointer (some ⟨g,0,none⟩),.int .i64 n] W fun e w'=>e = .returned (.bool r) ∧ w' = W:=by
 subst h
 exact isTop_calls hS n hn
set_option maxHeartbeats 8000000 in
set_option maxRecDepth 100000 in
theorem fresh_calls {w0 W : World} {g : Nat} {N : Int} {Ae : Option Addr} {ce : Nat} {es : List (S51)} {col : Nat → Nat} {vy vn vl va vb : Value} {s : SI} (hS : Sol w0 W g N Ae ce es col vy vn vl va vb s) (hsz : s.nd.length ≤ 1000000) :
  Calls Try.prog 31 #[.pointer (some ⟨g,0,none⟩)] W fun r w'=>r = .returned (.tuple #[]) ∧ ∃ col vl va vb,Sol w0 w' g N Ae ce es col vy vn vl va vb { s with lb:=(freshI s.nd).1,ah:=(freshI s.nd).2.1,bk:=(freshI s.nd).2.2 }:=by
 have hu47:=Try.underlying47
 have hu60:=Try.underlying60
 have hu51:=Try.underlying51
 have hu29:=Try.underlying29
 have HS:=qy.mk hS
 clear hS
 have hu35:=Try.underlying35
 obtain ⟨An,cn,e_⟩:=Kd.R_slice HS.out.rn
 subst e_
 have H0:=qy.mk (And.intro trivial hsz)
 have HF0 : qy (Frs w0 W.drew g N Ae ce es vy (.slice An s.nd.length cn) vl va vb s none none none):=⟨⟨col,HS.out.to (qh (Below.refl _ _)),(fun _ h=>nomatch h),(fun _ h=>nomatch h),(fun _ h=>nomatch h)⟩⟩
 clear hsz
 go_enter Try.func31,Try.ntmps31
 go_wp2_with fail
 refine start_ (n:=30) (S:=fun w'=>w'.cell? ⟨g,3,none⟩ = some (.slice An s.nd.length cn)) (ds:=[29]) (Array.replicate 30 false) (by kernel_rfl) rfl rfl (HF0.out.cell) (fun hHeld=>?_)
 refine pa_ 0 3 (bz_ 30 1) ?_
 refine pa_ 1 4 (bz_ 30 3) ?_
 refine pa_ 2 5 (bz_ 30 7) ?_
 refine pa_ 3 6 (bz_ 30 15) ?_
 refine pa_ 4 7 (bz_ 30 31) ?_
 refine pa_ 5 8 (bz_ 30 63) ?_
 refine pa_ 9 12 (bz_ 30 575) ?_
 refine pa_ 10 13 (bz_ 30 1599) ?_
 refine pa_ 11 14 (bz_ 30 3647) ?_
 refine pa_ 15 18 (bz_ 30 36415) ?_
 refine pa_ 16 19 (bz_ 30 101951) ?_
 refine pa_ 17 20 (bz_ 30 233023) ?_
 refine take_ (i:=6) (N:=some 9) (v:=?_) (a':=?_) (bz_ 30 233087) rfl rfl (by kernel_rfl) (fun _ _ _ h=>h) (Or.inl ⟨by rfl,?_⟩) hHeld ?_ ?_
 rotate_left
 ·intro w' s0
  go_simp
  with_reducible rfl
 rotate_left
 ·simp only [Act.put,List.setIfInBounds_toArray,List.set_cons_zero,List.set_cons_succ,i64_w,i32_w]
  rfl
 refine pa_ 7 10 (bz_ 30 233215) ?_
 refine take_ (i:=12) (N:=some 15) (v:=?_) (a':=?_) (bz_ 30 237311) rfl rfl (by kernel_rfl) (fun _ _ _ h=>h) (Or.inl ⟨by rfl,?_⟩) hHeld ?_ ?_
 rotate_left
 ·intro w' s0
  go_simp
  with_reducible rfl
 rotate_left
 ·simp only [Act.put,List.setIfInBounds_toArray,List.set_cons_zero,List.set_cons_succ,i64_w,i32_w]
  rfl
 refine pa_ 13 16 (bz_ 30 245503) ?_
 refine take_ (i:=18) (N:=some 21) (v:=?_) (a':=?_) (bz_ 30 507647) rfl rfl (by kernel_rfl) (fun _ _ _ h=>h) (Or.inl ⟨by rfl,?_⟩) hHeld ?_ ?_
 rotate_left
 ·intro w' s0
  go_simp
  with_reducible rfl
 rotate_left
 ·simp only [Act.put,List.setIfInBounds_toArray,List.set_cons_zero,List.set_cons_succ,i64_w,i32_w]
  rfl
 refine pa_ 19 22 (bz_ 30 1031935) ?_
 refine join_ (σ:=(Option Addr × Nat) × (Option Addr × Nat) × (Option Addr × Nat)) 3 (bz_ 30 134217727) (fun z=>[(11,.slice z.1.1 s.nd.length z.1.2),(17,.slice z.2.1.1 s.nd.length z.2.1.2),(23,.slice z.2.2.1 s.nd.length z.2.2.2),(24,.pointer (some ⟨g,0,none⟩)),(25,.pointer (some ⟨g,4,none⟩)),(26,.pointer (some ⟨g,0,none⟩)),(27,.pointer (some ⟨g,5,none⟩))]) (fun z w'=>Frs w0 w' g N Ae ce es vy (.slice An s.nd.length cn) (.slice z.1.1 s.nd.length z.1.2) (.slice z.2.1.1 s.nd.length z.2.1.2) vb { s with lb:=List.replicate s.nd.length 0,ah:=List.replicate s.nd.length 0 } none none (some (.slice z.2.2.1 s.nd.length z.2.2.2))) ?_ ?_
 rotate_left
 ·intro hCont
  refine three_ (i:=8) (j:=14) (k:=20) (Ni:=some 11) (Nj:=some 17) (Nk:=some 23) (bz_ 30 1032191) (bz_ 30 1048319) (bz_ 30 2080511) rfl rfl rfl rfl rfl rfl (by kernel_rfl) (by decide) (by decide) (by decide) (fun K hK=>?_) (fun K hK=>?_) (fun K hK=>?_)
  ·skip
   refine Kd.R_make_step (Kd.int .i64) _ 3 (by rfl) (N:=11) rfl 35 _ _ rfl (s.nd.length : Int) (by rfl) (by rfl) Try.underlying35 (.int .i64 0) 8 info3 rfl (by decide) (by omega) 0 (ok:=fun _=>True) (okp:=fun _=>True) rfl (fun _ hk=>hk) trivial (by omega) (by have:=H0.out.2;omega) (Below.refl _ _) (Nat.le_refl _) ?_
   intro v11 wm0 ho hb _ _
   rw [Int.toNat_natCast] at ho
   obtain ⟨A11,c11,e_⟩:=Kd.R_slice ho
   rw [List.length_replicate] at e_
   subst e_
   have HF1:=qy.mk (HF0.out.make3 ho hb)
   clear ho hb
   refine hK.out _ _ (HF1.out.cell) (fun hHeld=>?_)
   clear hK K
   refine norm_ (a':=?_) ?_ ?_
   rotate_left
   ·show Act.put _ (some 11) _ = _
    simp only [Act.put,List.setIfInBounds_toArray,List.set_cons_zero,List.set_cons_succ,i64_w,i32_w]
    rfl
   refine pa_ 21 24 (bz_ 30 3129343) ?_
   refine pa_ 22 25 (bz_ 30 7323647) ?_
   refine three_ (i:=14) (j:=20) (k:=23) (Ni:=some 17) (Nj:=some 23) (Nk:=none) (bz_ 30 7340031) (bz_ 30 8372223) (bz_ 30 15712255) rfl rfl rfl rfl rfl rfl (by kernel_rfl) (by decide) (by decide) (by decide) (fun K hK=>?_) (fun K hK=>?_) (fun K hK=>?_)
   ·skip
    refine Kd.R_make_step (Kd.int .i64) _ 3 (by rfl) (N:=17) rfl 35 _ _ rfl (s.nd.length : Int) (by rfl) (by rfl) Try.underlying35 (.int .i64 0) 8 info3 rfl (by decide) (by omega) 0 (ok:=fun _=>True) (okp:=fun _=>True) rfl (fun _ hk=>hk) trivial (by omega) (by have:=H0.out.2;omega) (Below.refl _ _) (Nat.le_refl _) ?_
    intro v17 wm1 ho hb _ _
    rw [Int.toNat_natCast] at ho
    obtain ⟨A17,c17,e_⟩:=Kd.R_slice ho
    rw [List.length_replicate] at e_
    subst e_
    have HF2:=qy.mk (HF1.out.make4 ho hb)
    clear ho hb
    refine hK.out _ _ (HF2.out.cell) (fun hHeld=>?_)
    clear hK K
    refine norm_ (a':=?_) ?_ ?_
    rotate_left
    ·show Act.put _ (some 17) _ = _
     simp only [Act.put,List.setIfInBounds_toArray,List.set_cons_zero,List.set_cons_succ,i64_w,i32_w]
     rfl
    refine two_ (i:=20) (j:=23) (Ni:=some 23) (Nj:=none) (bz_ 30 8388607) (bz_ 30 15728639) rfl rfl rfl rfl (by kernel_rfl) (by decide) (by decide) (fun K hK=>?_) (fun K hK=>?_)
    ·skip
     refine Kd.R_make_step (Kd.int .i64) _ 3 (by rfl) (N:=23) rfl 35 _ _ rfl (s.nd.length : Int) (by rfl) (by rfl) Try.underlying35 (.int .i64 0) 8 info3 rfl (by decide) (by omega) 0 (ok:=fun _=>True) (okp:=fun _=>True) rfl (fun _ hk=>hk) trivial (by omega) (by have:=H0.out.2;omega) (Below.refl _ _) (Nat.le_refl _) ?_
     intro v23 wm2 ho hb _ _
     rw [Int.toNat_natCast] at ho
     obtain ⟨A23,c23,e_⟩:=Kd.R_slice ho
     rw [List.length_replicate] at e_
     subst e_
     have HF3:=qy.mk (HF2.out.make5 ho hb)
     clear ho hb
     refine hK.out _ _ (HF3.out.cell) (fun hHeld=>?_)
     clear hK K
     refine norm_ (a':=?_) ?_ ?_
     rotate_left
     ·show Act.put _ (some 23) _ = _
      simp only [Act.put,List.setIfInBounds_toArray,List.set_cons_zero,List.set_cons_succ,i64_w,i32_w]
      rfl
     refine one_ (i:=23) (N:=none) (bz_ 30 16777215) rfl rfl (by kernel_rfl) (by decide) (fun K hK=>?_)
     have hce:=HF3.out.cell4
     have HF4:=qy.mk (HF3.out.st3)
     refine skip_ (w1:=?_) (by rfl) rfl ?_ ?_
     rotate_left
     ·go_simp
      rfl
     clear hce
     refine hK.out _ _ (HF4.out.cell) (fun hHeld=>?_)
     clear hK K
     refine pa_ 24 26 (bz_ 30 33554431) ?_
     refine pa_ 25 27 (bz_ 30 67108863) ?_
     refine one_ (i:=26) (N:=none) (bz_ 30 134217727) rfl rfl (by kernel_rfl) (by decide) (fun K hK=>?_)
     have hce:=HF4.out.cell5
     have HF5:=qy.mk (HF4.out.st4)
     refine skip_ (w1:=?_) (by rfl) rfl ?_ ?_
     rotate_left
     ·go_simp
      rfl
     clear hce
     refine hK.out _ _ (HF5.out.cell) (fun hHeld=>?_)
     clear hK K
     exact norm_ (by simp only [putAll,Act.put,List.setIfInBounds_toArray,List.set_cons_zero,List.set_cons_succ]) (hCont ((A11,c11),(A17,c17),(A23,c23)) _ HF5.out)
    skip
    have hce:=HF2.out.cell4
    have HF3:=qy.mk (HF2.out.st3)
    refine skip_ (w1:=?_) (by rfl) rfl ?_ ?_
    rotate_left
    ·go_simp
     rfl
    clear hce
    refine hK.out _ _ (HF3.out.cell) (fun hHeld=>?_)
    clear hK K
    refine pa_ 24 26 (bz_ 30 32505855) ?_
    refine pa_ 25 27 (bz_ 30 66060287) ?_
    refine two_ (i:=20) (j:=26) (Ni:=some 23) (Nj:=none) (bz_ 30 67108863) (bz_ 30 133169151) rfl rfl rfl rfl (by kernel_rfl) (by decide) (by decide) (fun K hK=>?_) (fun K hK=>?_)
    ·skip
     refine Kd.R_make_step (Kd.int .i64) _ 3 (by rfl) (N:=23) rfl 35 _ _ rfl (s.nd.length : Int) (by rfl) (by rfl) Try.underlying35 (.int .i64 0) 8 info3 rfl (by decide) (by omega) 0 (ok:=fun _=>True) (okp:=fun _=>True) rfl (fun _ hk=>hk) trivial (by omega) (by have:=H0.out.2;omega) (Below.refl _ _) (Nat.le_refl _) ?_
     intro v23 wm3 ho hb _ _
     rw [Int.toNat_natCast] at ho
     obtain ⟨A23,c23,e_⟩:=Kd.R_slice ho
     rw [List.length_replicate] at e_
     subst e_
     have HF4:=qy.mk (HF3.out.make5 ho hb)
     clear ho hb
     refine hK.out _ _ (HF4.out.cell) (fun hHeld=>?_)
     clear hK K
     refine norm_ (a':=?_) ?_ ?_
     rotate_left
     ·show Act.put _ (some 23) _ = _
      simp only [Act.put,List.setIfInBounds_toArray,List.set_cons_zero,List.set_cons_succ,i64_w,i32_w]
      rfl
     refine one_ (i:=26) (N:=none) (bz_ 30 134217727) rfl rfl (by kernel_rfl) (by decide) (fun K hK=>?_)
     have hce:=HF4.out.cell5
     have HF5:=qy.mk (HF4.out.st4)
     refine skip_ (w1:=?_) (by rfl) rfl ?_ ?_
     rotate_left
     ·go_simp
      rfl
     clear hce
     refine hK.out _ _ (HF5.out.cell) (fun hHeld=>?_)
     clear hK K
     exact norm_ (by simp only [putAll,Act.put,List.setIfInBounds_toArray,List.set_cons_zero,List.set_cons_succ]) (hCont ((A11,c11),(A17,c17),(A23,c23)) _ HF5.out)
    skip
    have hce:=HF3.out.cell5
    have HF4:=qy.mk (HF3.out.st4)
    refine skip_ (w1:=?_) (by rfl) rfl ?_ ?_
    rotate_left
    ·go_simp
     rfl
    clear hce
    refine hK.out _ _ (HF4.out.cell) (fun hHeld=>?_)
    clear hK K
    refine one_ (i:=20) (N:=some 23) (bz_ 30 134217727) rfl rfl (by kernel_rfl) (by decide) (fun K hK=>?_)
    refine Kd.R_make_step (Kd.int .i64) _ 3 (by rfl) (N:=23) rfl 35 _ _ rfl (s.nd.length : Int) (by rfl) (by rfl) Try.underlying35 (.int .i64 0) 8 info3 rfl (by decide) (by omega) 0 (ok:=fun _=>True) (okp:=fun _=>True) rfl (fun _ hk=>hk) trivial (by omega) (by have:=H0.out.2;omega) (Below.refl _ _) (Nat.le_refl _) ?_
    intro v23 wm4 ho hb _ _
    rw [Int.toNat_natCast] at ho
    obtain ⟨A23,c23,e_⟩:=Kd.R_slice ho
    rw [List.length_replicate] at e_
    subst e_
    have HF5:=qy.mk (HF4.out.make5 ho hb)
    clear ho hb
    refine hK.out _ _ (HF5.out.cell) (fun hHeld=>?_)
    clear hK K
    refine norm_ (a':=?_) ?_ ?_
    rotate_left
    ·show Act.put _ (some 23) _ = _
     simp only [Act.put,List.setIfInBounds_toArray,List.set_cons_zero,List.set_cons_succ,i64_w,i32_w]
     rfl
    exact norm_ (by simp only [putAll,Act.put,List.setIfInBounds_toArray,List.set_cons_zero,List.set_cons_succ]) (hCont ((A11,c11),(A17,c17),(A23,c23)) _ HF5.out)
   ·skip
    refine Kd.R_make_step (Kd.int .i64) _ 3 (by rfl) (N:=23) rfl 35 _ _ rfl (s.nd.length : Int) (by rfl) (by rfl) Try.underlying35 (.int .i64 0) 8 info3 rfl (by decide) (by omega) 0 (ok:=fun _=>True) (okp:=fun _=>True) rfl (fun _ hk=>hk) trivial (by omega) (by have:=H0.out.2;omega) (Below.refl _ _) (Nat.le_refl _) ?_
    intro v23 wm1 ho hb _ _
    rw [Int.toNat_natCast] at ho
    obtain ⟨A23,c23,e_⟩:=Kd.R_slice ho
    rw [List.length_replicate] at e_
    subst e_
    have HF2:=qy.mk (HF1.out.make5 ho hb)
    clear ho hb
    refine hK.out _ _ (HF2.out.cell) (fun hHeld=>?_)
    clear hK K
    refine norm_ (a':=?_) ?_ ?_
    rotate_left
    ·show Act.put _ (some 23) _ = _
     simp only [Act.put,List.setIfInBounds_toArray,List.set_cons_zero,List.set_cons_succ,i64_w,i32_w]
     rfl
    refine two_ (i:=14) (j:=23) (Ni:=some 17) (Nj:=none) (bz_ 30 8388607) (bz_ 30 16760831) rfl rfl rfl rfl (by kernel_rfl) (by decide) (by decide) (fun K hK=>?_) (fun K hK=>?_)
    ·skip
     refine Kd.R_make_step (Kd.int .i64) _ 3 (by rfl) (N:=17) rfl 35 _ _ rfl (s.nd.length : Int) (by rfl) (by rfl) Try.underlying35 (.int .i64 0) 8 info3 rfl (by decide) (by omega) 0 (ok:=fun _=>True) (okp:=fun _=>True) rfl (fun _ hk=>hk) trivial (by omega) (by have:=H0.out.2;omega) (Below.refl _ _) (Nat.le_refl _) ?_
     intro v17 wm2 ho hb _ _
     rw [Int.toNat_natCast] at ho
     obtain ⟨A17,c17,e_⟩:=Kd.R_slice ho
     rw [List.length_replicate] at e_
     subst e_
     have HF3:=qy.mk (HF2.out.make4 ho hb)
     clear ho hb
     refine hK.out _ _ (HF3.out.cell) (fun hHeld=>?_)
     clear hK K
     refine norm_ (a':=?_) ?_ ?_
     rotate_left
     ·show Act.put _ (some 17) _ = _
      simp only [Act.put,List.setIfInBounds_toArray,List.set_cons_zero,List.set_cons_succ,i64_w,i32_w]
      rfl
     refine one_ (i:=23) (N:=none) (bz_ 30 16777215) rfl rfl (by kernel_rfl) (by decide) (fun K hK=>?_)
     have hce:=HF3.out.cell4
     have HF4:=qy.mk (HF3.out.st3)
     refine skip_ (w1:=?_) (by rfl) rfl ?_ ?_
     rotate_left
     ·go_simp
      rfl
     clear hce
     refine hK.out _ _ (HF4.out.cell) (fun hHeld=>?_)
     clear hK K
     refine pa_ 24 26 (bz_ 30 33554431) ?_
     refine pa_ 25 27 (bz_ 30 67108863) ?_
     refine one_ (i:=26) (N:=none) (bz_ 30 134217727) rfl rfl (by kernel_rfl) (by decide) (fun K hK=>?_)
     have hce:=HF4.out.cell5
     have HF5:=qy.mk (HF4.out.st4)
     refine skip_ (w1:=?_) (by rfl) rfl ?_ ?_
     rotate_left
     ·go_simp
      rfl
     clear hce
     refine hK.out _ _ (HF5.out.cell) (fun hHeld=>?_)
     clear hK K
     exact norm_ (by simp only [putAll,Act.put,List.setIfInBounds_toArray,List.set_cons_zero,List.set_cons_succ]) (hCont ((A11,c11),(A17,c17),(A23,c23)) _ HF5.out)
    skip
    have hce:=HF2.out.cell4
    have HF3:=qy.mk (HF2.out.st3)
    refine skip_ (w1:=?_) (by rfl) rfl ?_ ?_
    rotate_left
    ·go_simp
     rfl
    clear hce
    refine hK.out _ _ (HF3.out.cell) (fun hHeld=>?_)
    clear hK K
    refine one_ (i:=14) (N:=some 17) (bz_ 30 16777215) rfl rfl (by kernel_rfl) (by decide) (fun K hK=>?_)
    refine Kd.R_make_step (Kd.int .i64) _ 3 (by rfl) (N:=17) rfl 35 _ _ rfl (s.nd.length : Int) (by rfl) (by rfl) Try.underlying35 (.int .i64 0) 8 info3 rfl (by decide) (by omega) 0 (ok:=fun _=>True) (okp:=fun _=>True) rfl (fun _ hk=>hk) trivial (by omega) (by have:=H0.out.2;omega) (Below.refl _ _) (Nat.le_refl _) ?_
    intro v17 wm3 ho hb _ _
    rw [Int.toNat_natCast] at ho
    obtain ⟨A17,c17,e_⟩:=Kd.R_slice ho
    rw [List.length_replicate] at e_
    subst e_
    have HF4:=qy.mk (HF3.out.make4 ho hb)
    clear ho hb
    refine hK.out _ _ (HF4.out.cell) (fun hHeld=>?_)
    clear hK K
    refine norm_ (a':=?_) ?_ ?_
    rotate_left
    ·show Act.put _ (some 17) _ = _
     simp only [Act.put,List.setIfInBounds_toArray,List.set_cons_zero,List.set_cons_succ,i64_w,i32_w]
     rfl
    refine pa_ 24 26 (bz_ 30 33554431) ?_
    refine pa_ 25 27 (bz_ 30 67108863) ?_
    refine one_ (i:=26) (N:=none) (bz_ 30 134217727) rfl rfl (by kernel_rfl) (by decide) (fun K hK=>?_)
    have hce:=HF4.out.cell5
    have HF5:=qy.mk (HF4.out.st4)
    refine skip_ (w1:=?_) (by rfl) rfl ?_ ?_
    rotate_left
    ·go_simp
     rfl
    clear hce
    refine hK.out _ _ (HF5.out.cell) (fun hHeld=>?_)
    clear hK K
    exact norm_ (by simp only [putAll,Act.put,List.setIfInBounds_toArray,List.set_cons_zero,List.set_cons_succ]) (hCont ((A11,c11),(A17,c17),(A23,c23)) _ HF5.out)
   skip
   have hce:=HF1.out.cell4
   have HF2:=qy.mk (HF1.out.st3)
   refine skip_ (w1:=?_) (by rfl) rfl ?_ ?_
   rotate_left
   ·go_simp
    rfl
   clear hce
   refine hK.out _ _ (HF2.out.cell) (fun hHeld=>?_)
   clear hK K
   refine two_ (i:=14) (j:=20) (Ni:=some 17) (Nj:=some 23) (bz_ 30 15728639) (bz_ 30 16760831) rfl rfl rfl rfl (by kernel_rfl) (by decide) (by decide) (fun K hK=>?_) (fun K hK=>?_)
   ·skip
    refine Kd.R_make_step (Kd.int .i64) _ 3 (by rfl) (N:=17) rfl 35 _ _ rfl (s.nd.length : Int) (by rfl) (by rfl) Try.underlying35 (.int .i64 0) 8 info3 rfl (by decide) (by omega) 0 (ok:=fun _=>True) (okp:=fun _=>True) rfl (fun _ hk=>hk) trivial (by omega) (by have:=H0.out.2;omega) (Below.refl _ _) (Nat.le_refl _) ?_
    intro v17 wm2 ho hb _ _
    rw [Int.toNat_natCast] at ho
    obtain ⟨A17,c17,e_⟩:=Kd.R_slice ho
    rw [List.length_replicate] at e_
    subst e_
    have HF3:=qy.mk (HF2.out.make4 ho hb)
    clear ho hb
    refine hK.out _ _ (HF3.out.cell) (fun hHeld=>?_)
    clear hK K
    refine norm_ (a':=?_) ?_ ?_
    rotate_left
    ·show Act.put _ (some 17) _ = _
     simp only [Act.put,List.setIfInBounds_toArray,List.set_cons_zero,List.set_cons_succ,i64_w,i32_w]
     rfl
    refine pa_ 24 26 (bz_ 30 32505855) ?_
    refine pa_ 25 27 (bz_ 30 66060287) ?_
    refine two_ (i:=20) (j:=26) (Ni:=some 23) (Nj:=none) (bz_ 30 67108863) (bz_ 30 133169151) rfl rfl rfl rfl (by kernel_rfl) (by decide) (by decide) (fun K hK=>?_) (fun K hK=>?_)
    ·skip
     refine Kd.R_make_step (Kd.int .i64) _ 3 (by rfl) (N:=23) rfl 35 _ _ rfl (s.nd.length : Int) (by rfl) (by rfl) Try.underlying35 (.int .i64 0) 8 info3 rfl (by decide) (by omega) 0 (ok:=fun _=>True) (okp:=fun _=>True) rfl (fun _ hk=>hk) trivial (by omega) (by have:=H0.out.2;omega) (Below.refl _ _) (Nat.le_refl _) ?_
     intro v23 wm3 ho hb _ _
     rw [Int.toNat_natCast] at ho
     obtain ⟨A23,c23,e_⟩:=Kd.R_slice ho
     rw [List.length_replicate] at e_
     subst e_
     have HF4:=qy.mk (HF3.out.make5 ho hb)
     clear ho hb
     refine hK.out _ _ (HF4.out.cell) (fun hHeld=>?_)
     clear hK K
     refine norm_ (a':=?_) ?_ ?_
     rotate_left
     ·show Act.put _ (some 23) _ = _
      simp only [Act.put,List.setIfInBounds_toArray,List.set_cons_zero,List.set_cons_succ,i64_w,i32_w]
      rfl
     refine one_ (i:=26) (N:=none) (bz_ 30 134217727) rfl rfl (by kernel_rfl) (by decide) (fun K hK=>?_)
     have hce:=HF4.out.cell5
     have HF5:=qy.mk (HF4.out.st4)
     refine skip_ (w1:=?_) (by rfl) rfl ?_ ?_
     rotate_left
     ·go_simp
      rfl
     clear hce
     refine hK.out _ _ (HF5.out.cell) (fun hHeld=>?_)
     clear hK K
     exact norm_ (by simp only [putAll,Act.put,List.setIfInBounds_toArray,List.set_cons_zero,List.set_cons_succ]) (hCont ((A11,c11),(A17,c17),(A23,c23)) _ HF5.out)
    skip
    have hce:=HF3.out.cell5
    have HF4:=qy.mk (HF3.out.st4)
    refine skip_ (w1:=?_) (by rfl) rfl ?_ ?_
    rotate_left
    ·go_simp
     rfl
    clear hce
    refine hK.out _ _ (HF4.out.cell) (fun hHeld=>?_)
    clear hK K
    refine one_ (i:=20) (N:=some 23) (bz_ 30 134217727) rfl rfl (by kernel_rfl) (by decide) (fun K hK=>?_)
    refine Kd.R_make_step (Kd.int .i64) _ 3 (by rfl) (N:=23) rfl 35 _ _ rfl (s.nd.length : Int) (by rfl) (by rfl) Try.underlying35 (.int .i64 0) 8 info3 rfl (by decide) (by omega) 0 (ok:=fun _=>True) (okp:=fun _=>True) rfl (fun _ hk=>hk) trivial (by omega) (by have:=H0.out.2;omega) (Below.refl _ _) (Nat.le_refl _) ?_
    intro v23 wm4 ho hb _ _
    rw [Int.toNat_natCast] at ho
    obtain ⟨A23,c23,e_⟩:=Kd.R_slice ho
    rw [List.length_replicate] at e_
    subst e_
    have HF5:=qy.mk (HF4.out.make5 ho hb)
    clear ho hb
    refine hK.out _ _ (HF5.out.cell) (fun hHeld=>?_)
    clear hK K
    refine norm_ (a':=?_) ?_ ?_
    rotate_left
    ·show Act.put _ (some 23) _ = _
     simp only [Act.put,List.setIfInBounds_toArray,List.set_cons_zero,List.set_cons_succ,i64_w,i32_w]
     rfl
    exact norm_ (by simp only [putAll,Act.put,List.setIfInBounds_toArray,List.set_cons_zero,List.set_cons_succ]) (hCont ((A11,c11),(A17,c17),(A23,c23)) _ HF5.out)
   skip
   refine Kd.R_make_step (Kd.int .i64) _ 3 (by rfl) (N:=23) rfl 35 _ _ rfl (s.nd.length : Int) (by rfl) (by rfl) Try.underlying35 (.int .i64 0) 8 info3 rfl (by decide) (by omega) 0 (ok:=fun _=>True) (okp:=fun _=>True) rfl (fun _ hk=>hk) trivial (by omega) (by have:=H0.out.2;omega) (Below.refl _ _) (Nat.le_refl _) ?_
   intro v23 wm2 ho hb _ _
   rw [Int.toNat_natCast] at ho
   obtain ⟨A23,c23,e_⟩:=Kd.R_slice ho
   rw [List.length_replicate] at e_
   subst e_
   have HF3:=qy.mk (HF2.out.make5 ho hb)
   clear ho hb
   refine hK.out _ _ (HF3.out.cell) (fun hHeld=>?_)
   clear hK K
   refine norm_ (a':=?_) ?_ ?_
   rotate_left
   ·show Act.put _ (some 23) _ = _
    simp only [Act.put,List.setIfInBounds_toArray,List.set_cons_zero,List.set_cons_succ,i64_w,i32_w]
    rfl
   refine one_ (i:=14) (N:=some 17) (bz_ 30 16777215) rfl rfl (by kernel_rfl) (by decide) (fun K hK=>?_)
   refine Kd.R_make_step (Kd.int .i64) _ 3 (by rfl) (N:=17) rfl 35 _ _ rfl (s.nd.length : Int) (by rfl) (by rfl) Try.underlying35 (.int .i64 0) 8 info3 rfl (by decide) (by omega) 0 (ok:=fun _=>True) (okp:=fun _=>True) rfl (fun _ hk=>hk) trivial (by omega) (by have:=H0.out.2;omega) (Below.refl _ _) (Nat.le_refl _) ?_
   intro v17 wm3 ho hb _ _
   rw [Int.toNat_natCast] at ho
   obtain ⟨A17,c17,e_⟩:=Kd.R_slice ho
   rw [List.length_replicate] at e_
   subst e_
   have HF4:=qy.mk (HF3.out.make4 ho hb)
   clear ho hb
   refine hK.out _ _ (HF4.out.cell) (fun hHeld=>?_)
   clear hK K
   refine norm_ (a':=?_) ?_ ?_
   rotate_left
   ·show Act.put _ (some 17) _ = _
    simp only [Act.put,List.setIfInBounds_toArray,List.set_cons_zero,List.set_cons_succ,i64_w,i32_w]
    rfl
   refine pa_ 24 26 (bz_ 30 33554431) ?_
   refine pa_ 25 27 (bz_ 30 67108863) ?_
   refine one_ (i:=26) (N:=none) (bz_ 30 134217727) rfl rfl (by kernel_rfl) (by decide) (fun K hK=>?_)
   have hce:=HF4.out.cell5
   have HF5:=qy.mk (HF4.out.st4)
   refine skip_ (w1:=?_) (by rfl) rfl ?_ ?_
   rotate_left
   ·go_simp
    rfl
   clear hce
   refine hK.out _ _ (HF5.out.cell) (fun hHeld=>?_)
   clear hK K
   exact norm_ (by simp only [putAll,Act.put,List.setIfInBounds_toArray,List.set_cons_zero,List.set_cons_succ]) (hCont ((A11,c11),(A17,c17),(A23,c23)) _ HF5.out)
  ·skip
   refine Kd.R_make_step (Kd.int .i64) _ 3 (by rfl) (N:=17) rfl 35 _ _ rfl (s.nd.length : Int) (by rfl) (by rfl) Try.underlying35 (.int .i64 0) 8 info3 rfl (by decide) (by omega) 0 (ok:=fun _=>True) (okp:=fun _=>True) rfl (fun _ hk=>hk) trivial (by omega) (by have:=H0.out.2;omega) (Below.refl _ _) (Nat.le_refl _) ?_
   intro v17 wm0 ho hb _ _
   rw [Int.toNat_natCast] at ho
   obtain ⟨A17,c17,e_⟩:=Kd.R_slice ho
   rw [List.length_replicate] at e_
   subst e_
   have HF1:=qy.mk (HF0.out.make4 ho hb)
   clear ho hb
   refine hK.out _ _ (HF1.out.cell) (fun hHeld=>?_)
   clear hK K
   refine norm_ (a':=?_) ?_ ?_
   rotate_left
   ·show Act.put _ (some 17) _ = _
    simp only [Act.put,List.setIfInBounds_toArray,List.set_cons_zero,List.set_cons_succ,i64_w,i32_w]
    rfl
   refine two_ (i:=8) (j:=20) (Ni:=some 11) (Nj:=some 23) (bz_ 30 1048575) (bz_ 30 2096895) rfl rfl rfl rfl (by kernel_rfl) (by decide) (by decide) (fun K hK=>?_) (fun K hK=>?_)
   ·skip
    refine Kd.R_make_step (Kd.int .i64) _ 3 (by rfl) (N:=11) rfl 35 _ _ rfl (s.nd.length : Int) (by rfl) (by rfl) Try.underlying35 (.int .i64 0) 8 info3 rfl (by decide) (by omega) 0 (ok:=fun _=>True) (okp:=fun _=>True) rfl (fun _ hk=>hk) trivial (by omega) (by have:=H0.out.2;omega) (Below.refl _ _) (Nat.le_refl _) ?_
    intro v11 wm1 ho hb _ _
    rw [Int.toNat_natCast] at ho
    obtain ⟨A11,c11,e_⟩:=Kd.R_slice ho
    rw [List.length_replicate] at e_
    subst e_
    have HF2:=qy.mk (HF1.out.make3 ho hb)
    clear ho hb
    refine hK.out _ _ (HF2.out.cell) (fun hHeld=>?_)
    clear hK K
    refine norm_ (a':=?_) ?_ ?_
    rotate_left
    ·show Act.put _ (some 11) _ = _
     simp only [Act.put,List.setIfInBounds_toArray,List.set_cons_zero,List.set_cons_succ,i64_w,i32_w]
     rfl
    refine pa_ 21 24 (bz_ 30 3145727) ?_
    refine pa_ 22 25 (bz_ 30 7340031) ?_
    refine two_ (i:=20) (j:=23) (Ni:=some 23) (Nj:=none) (bz_ 30 8388607) (bz_ 30 15728639) rfl rfl rfl rfl (by kernel_rfl) (by decide) (by decide) (fun K hK=>?_) (fun K hK=>?_)
    ·skip
     refine Kd.R_make_step (Kd.int .i64) _ 3 (by rfl) (N:=23) rfl 35 _ _ rfl (s.nd.length : Int) (by rfl) (by rfl) Try.underlying35 (.int .i64 0) 8 info3 rfl (by decide) (by omega) 0 (ok:=fun _=>True) (okp:=fun _=>True) rfl (fun _ hk=>hk) trivial (by omega) (by have:=H0.out.2;omega) (Below.refl _ _) (Nat.le_refl _) ?_
     intro v23 wm2 ho hb _ _
     rw [Int.toNat_natCast] at ho
     obtain ⟨A23,c23,e_⟩:=Kd.R_slice ho
     rw [List.length_replicate] at e_
     subst e_
     have HF3:=qy.mk (HF2.out.make5 ho hb)
     clear ho hb
     refine hK.out _ _ (HF3.out.cell) (fun hHeld=>?_)
     clear hK K
     refine norm_ (a':=?_) ?_ ?_
     rotate_left
     ·show Act.put _ (some 23) _ = _
      simp only [Act.put,List.setIfInBounds_toArray,List.set_cons_zero,List.set_cons_succ,i64_w,i32_w]
      rfl
     refine one_ (i:=23) (N:=none) (bz_ 30 16777215) rfl rfl (by kernel_rfl) (by decide) (fun K hK=>?_)
     have hce:=HF3.out.cell4
     have HF4:=qy.mk (HF3.out.st3)
     refine skip_ (w1:=?_) (by rfl) rfl ?_ ?_
     rotate_left
     ·go_simp
      rfl
     clear hce
     refine hK.out _ _ (HF4.out.cell) (fun hHeld=>?_)
     clear hK K
     refine pa_ 24 26 (bz_ 30 33554431) ?_
     refine pa_ 25 27 (bz_ 30 67108863) ?_
     refine one_ (i:=26) (N:=none) (bz_ 30 134217727) rfl rfl (by kernel_rfl) (by decide) (fun K hK=>?_)
     have hce:=HF4.out.cell5
     have HF5:=qy.mk (HF4.out.st4)
     refine skip_ (w1:=?_) (by rfl) rfl ?_ ?_
     rotate_left
     ·go_simp
      rfl
     clear hce
     refine hK.out _ _ (HF5.out.cell) (fun hHeld=>?_)
     clear hK K
     exact norm_ (by simp only [putAll,Act.put,List.setIfInBounds_toArray,List.set_cons_zero,List.set_cons_succ]) (hCont ((A11,c11),(A17,c17),(A23,c23)) _ HF5.out)
    skip
    have hce:=HF2.out.cell4
    have HF3:=qy.mk (HF2.out.st3)
    refine skip_ (w1:=?_) (by rfl) rfl ?_ ?_
    rotate_left
    ·go_simp
     rfl
    clear hce
    refine hK.out _ _ (HF3.out.cell) (fun hHeld=>?_)
    clear hK K
    refine pa_ 24 26 (bz_ 30 32505855) ?_
    refine pa_ 25 27 (bz_ 30 66060287) ?_
    refine two_ (i:=20) (j:=26) (Ni:=some 23) (Nj:=none) (bz_ 30 67108863) (bz_ 30 133169151) rfl rfl rfl rfl (by kernel_rfl) (by decide) (by decide) (fun K hK=>?_) (fun K hK=>?_)
    ·skip
     refine Kd.R_make_step (Kd.int .i64) _ 3 (by rfl) (N:=23) rfl 35 _ _ rfl (s.nd.length : Int) (by rfl) (by rfl) Try.underlying35 (.int .i64 0) 8 info3 rfl (by decide) (by omega) 0 (ok:=fun _=>True) (okp:=fun _=>True) rfl (fun _ hk=>hk) trivial (by omega) (by have:=H0.out.2;omega) (Below.refl _ _) (Nat.le_refl _) ?_
     intro v23 wm3 ho hb _ _
     rw [Int.toNat_natCast] at ho
     obtain ⟨A23,c23,e_⟩:=Kd.R_slice ho
     rw [List.length_replicate] at e_
     subst e_
     have HF4:=qy.mk (HF3.out.make5 ho hb)
     clear ho hb
     refine hK.out _ _ (HF4.out.cell) (fun hHeld=>?_)
     clear hK K
     refine norm_ (a':=?_) ?_ ?_
     rotate_left
     ·show Act.put _ (some 23) _ = _
      simp only [Act.put,List.setIfInBounds_toArray,List.set_cons_zero,List.set_cons_succ,i64_w,i32_w]
      rfl
     refine one_ (i:=26) (N:=none) (bz_ 30 134217727) rfl rfl (by kernel_rfl) (by decide) (fun K hK=>?_)
     have hce:=HF4.out.cell5
     have HF5:=qy.mk (HF4.out.st4)
     refine skip_ (w1:=?_) (by rfl) rfl ?_ ?_
     rotate_left
     ·go_simp
      rfl
     clear hce
     refine hK.out _ _ (HF5.out.cell) (fun hHeld=>?_)
     clear hK K
     exact norm_ (by simp only [putAll,Act.put,List.setIfInBounds_toArray,List.set_cons_zero,List.set_cons_succ]) (hCont ((A11,c11),(A17,c17),(A23,c23)) _ HF5.out)
    skip
    have hce:=HF3.out.cell5
    have HF4:=qy.mk (HF3.out.st4)
    refine skip_ (w1:=?_) (by rfl) rfl ?_ ?_
    rotate_left
    ·go_simp
     rfl
    clear hce
    refine hK.out _ _ (HF4.out.cell) (fun hHeld=>?_)
    clear hK K
    refine one_ (i:=20) (N:=some 23) (bz_ 30 134217727) rfl rfl (by kernel_rfl) (by decide) (fun K hK=>?_)
    refine Kd.R_make_step (Kd.int .i64) _ 3 (by rfl) (N:=23) rfl 35 _ _ rfl (s.nd.length : Int) (by rfl) (by rfl) Try.underlying35 (.int .i64 0) 8 info3 rfl (by decide) (by omega) 0 (ok:=fun _=>True) (okp:=fun _=>True) rfl (fun _ hk=>hk) trivial (by omega) (by have:=H0.out.2;omega) (Below.refl _ _) (Nat.le_refl _) ?_
    intro v23 wm4 ho hb _ _
    rw [Int.toNat_natCast] at ho
    obtain ⟨A23,c23,e_⟩:=Kd.R_slice ho
    rw [List.length_replicate] at e_
    subst e_
    have HF5:=qy.mk (HF4.out.make5 ho hb)
    clear ho hb
    refine hK.out _ _ (HF5.out.cell) (fun hHeld=>?_)
    clear hK K
    refine norm_ (a':=?_) ?_ ?_
    rotate_left
    ·show Act.put _ (some 23) _ = _
     simp only [Act.put,List.setIfInBounds_toArray,List.set_cons_zero,List.set_cons_succ,i64_w,i32_w]
     rfl
    exact norm_ (by simp only [putAll,Act.put,List.setIfInBounds_toArray,List.set_cons_zero,List.set_cons_succ]) (hCont ((A11,c11),(A17,c17),(A23,c23)) _ HF5.out)
   skip
   refine Kd.R_make_step (Kd.int .i64) _ 3 (by rfl) (N:=23) rfl 35 _ _ rfl (s.nd.length : Int) (by rfl) (by rfl) Try.underlying35 (.int .i64 0) 8 info3 rfl (by decide) (by omega) 0 (ok:=fun _=>True) (okp:=fun _=>True) rfl (fun _ hk=>hk) trivial (by omega) (by have:=H0.out.2;omega) (Below.refl _ _) (Nat.le_refl _) ?_
   intro v23 wm1 ho hb _ _
   rw [Int.toNat_natCast] at ho
   obtain ⟨A23,c23,e_⟩:=Kd.R_slice ho
   rw [List.length_replicate] at e_
   subst e_
   have HF2:=qy.mk (HF1.out.make5 ho hb)
   clear ho hb
   refine hK.out _ _ (HF2.out.cell) (fun hHeld=>?_)
   clear hK K
   refine norm_ (a':=?_) ?_ ?_
   rotate_left
   ·show Act.put _ (some 23) _ = _
    simp only [Act.put,List.setIfInBounds_toArray,List.set_cons_zero,List.set_cons_succ,i64_w,i32_w]
    rfl
   refine one_ (i:=8) (N:=some 11) (bz_ 30 2097151) rfl rfl (by kernel_rfl) (by decide) (fun K hK=>?_)
   refine Kd.R_make_step (Kd.int .i64) _ 3 (by rfl) (N:=11) rfl 35 _ _ rfl (s.nd.length : Int) (by rfl) (by rfl) Try.underlying35 (.int .i64 0) 8 info3 rfl (by decide) (by omega) 0 (ok:=fun _=>True) (okp:=fun _=>True) rfl (fun _ hk=>hk) trivial (by omega) (by have:=H0.out.2;omega) (Below.refl _ _) (Nat.le_refl _) ?_
   intro v11 wm2 ho hb _ _
   rw [Int.toNat_natCast] at ho
   obtain ⟨A11,c11,e_⟩:=Kd.R_slice ho
   rw [List.length_replicate] at e_
   subst e_
   have HF3:=qy.mk (HF2.out.make3 ho hb)
   clear ho hb
   refine hK.out _ _ (HF3.out.cell) (fun hHeld=>?_)
   clear hK K
   refine norm_ (a':=?_) ?_ ?_
   rotate_left
   ·show Act.put _ (some 11) _ = _
    simp only [Act.put,List.setIfInBounds_toArray,List.set_cons_zero,List.set_cons_succ,i64_w,i32_w]
    rfl
   refine pa_ 21 24 (bz_ 30 4194303) ?_
   refine pa_ 22 25 (bz_ 30 8388607) ?_
   refine one_ (i:=23) (N:=none) (bz_ 30 16777215) rfl rfl (by kernel_rfl) (by decide) (fun K hK=>?_)
   have hce:=HF3.out.cell4
   have HF4:=qy.mk (HF3.out.st3)
   refine skip_ (w1:=?_) (by rfl) rfl ?_ ?_
   rotate_left
   ·go_simp
    rfl
   clear hce
   refine hK.out _ _ (HF4.out.cell) (fun hHeld=>?_)
   clear hK K
   refine pa_ 24 26 (bz_ 30 33554431) ?_
   refine pa_ 25 27 (bz_ 30 67108863) ?_
   refine one_ (i:=26) (N:=none) (bz_ 30 134217727) rfl rfl (by kernel_rfl) (by decide) (fun K hK=>?_)
   have hce:=HF4.out.cell5
   have HF5:=qy.mk (HF4.out.st4)
   refine skip_ (w1:=?_) (by rfl) rfl ?_ ?_
   rotate_left
   ·go_simp
    rfl
   clear hce
   refine hK.out _ _ (HF5.out.cell) (fun hHeld=>?_)
   clear hK K
   exact norm_ (by simp only [putAll,Act.put,List.setIfInBounds_toArray,List.set_cons_zero,List.set_cons_succ]) (hCont ((A11,c11),(A17,c17),(A23,c23)) _ HF5.out)
  skip
  refine Kd.R_make_step (Kd.int .i64) _ 3 (by rfl) (N:=23) rfl 35 _ _ rfl (s.nd.length : Int) (by rfl) (by rfl) Try.underlying35 (.int .i64 0) 8 info3 rfl (by decide) (by omega) 0 (ok:=fun _=>True) (okp:=fun _=>True) rfl (fun _ hk=>hk) trivial (by omega) (by have:=H0.out.2;omega) (Below.refl _ _) (Nat.le_refl _) ?_
  intro v23 wm0 ho hb _ _
  rw [Int.toNat_natCast] at ho
  obtain ⟨A23,c23,e_⟩:=Kd.R_slice ho
  rw [List.length_replicate] at e_
  subst e_
  have HF1:=qy.mk (HF0.out.make5 ho hb)
  clear ho hb
  refine hK.out _ _ (HF1.out.cell) (fun hHeld=>?_)
  clear hK K
  refine norm_ (a':=?_) ?_ ?_
  rotate_left
  ·show Act.put _ (some 23) _ = _
   simp only [Act.put,List.setIfInBounds_toArray,List.set_cons_zero,List.set_cons_succ,i64_w,i32_w]
   rfl
  refine two_ (i:=8) (j:=14) (Ni:=some 11) (Nj:=some 17) (bz_ 30 2080767) (bz_ 30 2096895) rfl rfl rfl rfl (by kernel_rfl) (by decide) (by decide) (fun K hK=>?_) (fun K hK=>?_)
  ·skip
   refine Kd.R_make_step (Kd.int .i64) _ 3 (by rfl) (N:=11) rfl 35 _ _ rfl (s.nd.length : Int) (by rfl) (by rfl) Try.underlying35 (.int .i64 0) 8 info3 rfl (by decide) (by omega) 0 (ok:=fun _=>True) (okp:=fun _=>True) rfl (fun _ hk=>hk) trivial (by omega) (by have:=H0.out.2;omega) (Below.refl _ _) (Nat.le_refl _) ?_
   intro v11 wm1 ho hb _ _
   rw [Int.toNat_natCast] at ho
   obtain ⟨A11,c11,e_⟩:=Kd.R_slice ho
   rw [List.length_replicate] at e_
   subst e_
   have HF2:=qy.mk (HF1.out.make3 ho hb)
   clear ho hb
   refine hK.out _ _ (HF2.out.cell) (fun hHeld=>?_)
   clear hK K
   refine norm_ (a':=?_) ?_ ?_
   rotate_left
   ·show Act.put _ (some 11) _ = _
    simp only [Act.put,List.setIfInBounds_toArray,List.set_cons_zero,List.set_cons_succ,i64_w,i32_w]
    rfl
   refine pa_ 21 24 (bz_ 30 4177919) ?_
   refine pa_ 22 25 (bz_ 30 8372223) ?_
   refine two_ (i:=14) (j:=23) (Ni:=some 17) (Nj:=none) (bz_ 30 8388607) (bz_ 30 16760831) rfl rfl rfl rfl (by kernel_rfl) (by decide) (by decide) (fun K hK=>?_) (fun K hK=>?_)
   ·skip
    refine Kd.R_make_step (Kd.int .i64) _ 3 (by rfl) (N:=17) rfl 35 _ _ rfl (s.nd.length : Int) (by rfl) (by rfl) Try.underlying35 (.int .i64 0) 8 info3 rfl (by decide) (by omega) 0 (ok:=fun _=>True) (okp:=fun _=>True) rfl (fun _ hk=>hk) trivial (by omega) (by have:=H0.out.2;omega) (Below.refl _ _) (Nat.le_refl _) ?_
    intro v17 wm2 ho hb _ _
    rw [Int.toNat_natCast] at ho
    obtain ⟨A17,c17,e_⟩:=Kd.R_slice ho
    rw [List.length_replicate] at e_
    subst e_
    have HF3:=qy.mk (HF2.out.make4 ho hb)
    clear ho hb
    refine hK.out _ _ (HF3.out.cell) (fun hHeld=>?_)
    clear hK K
    refine norm_ (a':=?_) ?_ ?_
    rotate_left
    ·show Act.put _ (some 17) _ = _
     simp only [Act.put,List.setIfInBounds_toArray,List.set_cons_zero,List.set_cons_succ,i64_w,i32_w]
     rfl
    refine one_ (i:=23) (N:=none) (bz_ 30 16777215) rfl rfl (by kernel_rfl) (by decide) (fun K hK=>?_)
    have hce:=HF3.out.cell4
    have HF4:=qy.mk (HF3.out.st3)
    refine skip_ (w1:=?_) (by rfl) rfl ?_ ?_
    rotate_left
    ·go_simp
     rfl
    clear hce
    refine hK.out _ _ (HF4.out.cell) (fun hHeld=>?_)
    clear hK K
    refine pa_ 24 26 (bz_ 30 33554431) ?_
    refine pa_ 25 27 (bz_ 30 67108863) ?_
    refine one_ (i:=26) (N:=none) (bz_ 30 134217727) rfl rfl (by kernel_rfl) (by decide) (fun K hK=>?_)
    have hce:=HF4.out.cell5
    have HF5:=qy.mk (HF4.out.st4)
    refine skip_ (w1:=?_) (by rfl) rfl ?_ ?_
    rotate_left
    ·go_simp
     rfl
    clear hce
    refine hK.out _ _ (HF5.out.cell) (fun hHeld=>?_)
    clear hK K
    exact norm_ (by simp only [putAll,Act.put,List.setIfInBounds_toArray,List.set_cons_zero,List.set_cons_succ]) (hCont ((A11,c11),(A17,c17),(A23,c23)) _ HF5.out)
   skip
   have hce:=HF2.out.cell4
   have HF3:=qy.mk (HF2.out.st3)
   refine skip_ (w1:=?_) (by rfl) rfl ?_ ?_
   rotate_left
   ·go_simp
    rfl
   clear hce
   refine hK.out _ _ (HF3.out.cell) (fun hHeld=>?_)
   clear hK K
   refine one_ (i:=14) (N:=some 17) (bz_ 30 16777215) rfl rfl (by kernel_rfl) (by decide) (fun K hK=>?_)
   refine Kd.R_make_step (Kd.int .i64) _ 3 (by rfl) (N:=17) rfl 35 _ _ rfl (s.nd.length : Int) (by rfl) (by rfl) Try.underlying35 (.int .i64 0) 8 info3 rfl (by decide) (by omega) 0 (ok:=fun _=>True) (okp:=fun _=>True) rfl (fun _ hk=>hk) trivial (by omega) (by have:=H0.out.2;omega) (Below.refl _ _) (Nat.le_refl _) ?_
   intro v17 wm3 ho hb _ _
   rw [Int.toNat_natCast] at ho
   obtain ⟨A17,c17,e_⟩:=Kd.R_slice ho
   rw [List.length_replicate] at e_
   subst e_
   have HF4:=qy.mk (HF3.out.make4 ho hb)
   clear ho hb
   refine hK.out _ _ (HF4.out.cell) (fun hHeld=>?_)
   clear hK K
   refine norm_ (a':=?_) ?_ ?_
   rotate_left
   ·show Act.put _ (some 17) _ = _
    simp only [Act.put,List.setIfInBounds_toArray,List.set_cons_zero,List.set_cons_succ,i64_w,i32_w]
    rfl
   refine pa_ 24 26 (bz_ 30 33554431) ?_
   refine pa_ 25 27 (bz_ 30 67108863) ?_
   refine one_ (i:=26) (N:=none) (bz_ 30 134217727) rfl rfl (by kernel_rfl) (by decide) (fun K hK=>?_)
   have hce:=HF4.out.cell5
   have HF5:=qy.mk (HF4.out.st4)
   refine skip_ (w1:=?_) (by rfl) rfl ?_ ?_
   rotate_left
   ·go_simp
    rfl
   clear hce
   refine hK.out _ _ (HF5.out.cell) (fun hHeld=>?_)
   clear hK K
   exact norm_ (by simp only [putAll,Act.put,List.setIfInBounds_toArray,List.set_cons_zero,List.set_cons_succ]) (hCont ((A11,c11),(A17,c17),(A23,c23)) _ HF5.out)
  skip
  refine Kd.R_make_step (Kd.int .i64) _ 3 (by rfl) (N:=17) rfl 35 _ _ rfl (s.nd.length : Int) (by rfl) (by rfl) Try.underlying35 (.int .i64 0) 8 info3 rfl (by decide) (by omega) 0 (ok:=fun _=>True) (okp:=fun _=>True) rfl (fun _ hk=>hk) trivial (by omega) (by have:=H0.out.2;omega) (Below.refl _ _) (Nat.le_refl _) ?_
  intro v17 wm1 ho hb _ _
  rw [Int.toNat_natCast] at ho
  obtain ⟨A17,c17,e_⟩:=Kd.R_slice ho
  rw [List.length_replicate] at e_
  subst e_
  have HF2:=qy.mk (HF1.out.make4 ho hb)
  clear ho hb
  refine hK.out _ _ (HF2.out.cell) (fun hHeld=>?_)
  clear hK K
  refine norm_ (a':=?_) ?_ ?_
  rotate_left
  ·show Act.put _ (some 17) _ = _
   simp only [Act.put,List.setIfInBounds_toArray,List.set_cons_zero,List.set_cons_succ,i64_w,i32_w]
   rfl
  refine one_ (i:=8) (N:=some 11) (bz_ 30 2097151) rfl rfl (by kernel_rfl) (by decide) (fun K hK=>?_)
  refine Kd.R_make_step (Kd.int .i64) _ 3 (by rfl) (N:=11) rfl 35 _ _ rfl (s.nd.length : Int) (by rfl) (by rfl) Try.underlying35 (.int .i64 0) 8 info3 rfl (by decide) (by omega) 0 (ok:=fun _=>True) (okp:=fun _=>True) rfl (fun _ hk=>hk) trivial (by omega) (by have:=H0.out.2;omega) (Below.refl _ _) (Nat.le_refl _) ?_
  intro v11 wm2 ho hb _ _
  rw [Int.toNat_natCast] at ho
  obtain ⟨A11,c11,e_⟩:=Kd.R_slice ho
  rw [List.length_replicate] at e_
  subst e_
  have HF3:=qy.mk (HF2.out.make3 ho hb)
  clear ho hb
  refine hK.out _ _ (HF3.out.cell) (fun hHeld=>?_)
  clear hK K
  refine norm_ (a':=?_) ?_ ?_
  rotate_left
  ·show Act.put _ (some 11) _ = _
   simp only [Act.put,List.setIfInBounds_toArray,List.set_cons_zero,List.set_cons_succ,i64_w,i32_w]
   rfl
  refine pa_ 21 24 (bz_ 30 4194303) ?_
  refine pa_ 22 25 (bz_ 30 8388607) ?_
  refine one_ (i:=23) (N:=none) (bz_ 30 16777215) rfl rfl (by kernel_rfl) (by decide) (fun K hK=>?_)
  have hce:=HF3.out.cell4
  have HF4:=qy.mk (HF3.out.st3)
  refine skip_ (w1:=?_) (by rfl) rfl ?_ ?_
  rotate_left
  ·go_simp
   rfl
  clear hce
  refine hK.out _ _ (HF4.out.cell) (fun hHeld=>?_)
  clear hK K
  refine pa_ 24 26 (bz_ 30 33554431) ?_
  refine pa_ 25 27 (bz_ 30 67108863) ?_
  refine one_ (i:=26) (N:=none) (bz_ 30 134217727) rfl rfl (by kernel_rfl) (by decide) (fun K hK=>?_)
  have hce:=HF4.out.cell5
  have HF5:=qy.mk (HF4.out.st4)
  refine skip_ (w1:=?_) (by rfl) rfl ?_ ?_
  rotate_left
  ·go_simp
   rfl
  clear hce
  refine hK.out _ _ (HF5.out.cell) (fun hHeld=>?_)
  clear hK K
  exact norm_ (by simp only [putAll,Act.put,List.setIfInBounds_toArray,List.set_cons_zero,List.set_cons_succ]) (hCont ((A11,c11),(A17,c17),(A23,c23)) _ HF5.out)
 rintro ⟨⟨A11,c11⟩,⟨A17,c17⟩,⟨A23,c23⟩⟩ w4 hF
 have HF:=qy.mk hF
 clear hF
 have hHeld : w4.cell? ⟨g,3,none⟩ = some (.slice An s.nd.length cn):=HF.out.cell
 refine norm_ (a':=?_) ?_ ?_
 rotate_left
 ·simp only [putAll,Act.put,List.setIfInBounds_toArray,List.set_cons_zero,List.set_cons_succ]
  rfl
 refine pa_ 27 28 (bz_ 30 268435455) ?_
 refine pa_ 28 29 (bz_ 30 536870911) ?_
 refine last_ (i:=29) (N:=none) (bz_ 30 1073741823) rfl rfl (by kernel_rfl) (by decide) (fun K hK=>?_)
 have hce:=HF.out.cell6
 refine skip_ (w1:=?_) (by rfl) rfl ?_ ?_
 rotate_left
 ·go_simp
  rfl
 refine hK.out _ _ ?_
 clear hK K
 refine done_ (by kernel_rfl) ?_
 go_wp2_with fail
 have HF2:=qy.mk HF.out.st5
 clear HF HF0 hHeld
 generalize w4.setCell _ _ = w5 at HF2 ⊢
 obtain ⟨col2,hS2,-⟩:=HF2.out
 have HS2:=qy.mk hS2
 clear hS2 HF2 HS
 go_loopg [35] (s.nd.length + 1) (fun kq v35 w'=>∃ (i : Int) (lb ah bk : List Int),v35 = .int .i64 i ∧ qy (0 ≤ i ∧ i + kq = s.nd.length + 1 ∧ i ≤ s.nd.length) ∧ qy (freshF s.nd kq i lb ah bk = freshI s.nd) ∧ qy (lb.length = s.nd.length ∧ ah.length = s.nd.length ∧ bk.length = s.nd.length) ∧ qy (Sol w0 w' g N Ae ce es col2 vy (.slice An s.nd.length cn) (.slice A11 s.nd.length c11) (.slice A17 s.nd.length c17) (.slice A23 s.nd.length c23) { s with lb:=lb,ah:=ah,bk:=bk }))
 case atStart=>exact ⟨0,_,_,_,rfl,⟨by omega,by omega,by omega⟩,⟨rfl⟩,⟨List.length_replicate,List.length_replicate,List.length_replicate⟩,HS2⟩
 clear HS2
 obtain ⟨i,lb,ah,bk,rfl,HI,HT,HL,HS⟩:=hrel
 have h:=HT.out
 clear HT
 cases gk with
 | zero =>
  exfalso
  have h1:=HI.out
  omega
 | succ k1 =>
  rw [freshF] at h
  by_cases c : i < (s.nd.length : Int)
  ·rw [if_pos c] at h
   have cl0 : decide (i < (s.nd.length : Int)) = true:=decide_eq_true c
   have hi0:=HI.out.1
   have pi:=eq_true hi0
   have qi:=eq_true c
   have HIL:=qy.mk c
   have HIN : qy (inR i s.nd.length):=⟨hi0,c⟩
   have hp0 : 0 < s.nd.length:=by omega
   obtain ⟨bn,_,e_,-⟩:=row_at HS.out.rn hp0
   injection e_ with e_ e2_ e3_
   clear e2_ e3_
   subst e_
   obtain ⟨bl,_,e_,-⟩:=row_at HS.out.rl (by show 0 < lb.length;rw [HL.out.1];exact hp0)
   injection e_ with e_ e2_ e3_
   clear e2_ e3_
   subst e_
   obtain ⟨ba,_,e_,-⟩:=row_at HS.out.ra (by show 0 < ah.length;rw [HL.out.2.1];exact hp0)
   injection e_ with e_ e2_ e3_
   clear e2_ e3_
   subst e_
   obtain ⟨bb,_,e_,-⟩:=row_at HS.out.rb (by show 0 < bk.length;rw [HL.out.2.2];exact hp0)
   injection e_ with e_ e2_ e3_
   clear e2_ e3_
   subst e_
   clear hp0
   have hc:=HS.out.cells
   obtain ⟨xa,fa⟩:=int_at HS.out.ra i hi0 (by show i < (ah.length : Int);have:=HL.out.2.1;omega)
   obtain ⟨xb,fb⟩:=int_at HS.out.rb i hi0 (by show i < (bk.length : Int);have:=HL.out.2.2;omega)
   have HSa:=qy.mk (HS.out.sa i (-1))
   have HSb:=qy.mk (HSa.out.sb i (-1))
   obtain ⟨xb2,fb2⟩:=int_at HSa.out.rb i hi0 (by show i < (bk.length : Int);have:=HL.out.2.2;omega)
   have hca:=HSa.out.cells
   clear c
   go_wp2_with fail
   refine start_ (n:=14) (S:=fun w'=>w'.cell? ⟨g,5,none⟩ = some (.slice (some ⟨ba,0,none⟩) s.nd.length c17) ∧ w'.cell? ⟨g,6,none⟩ = some (.slice (some ⟨bb,0,none⟩) s.nd.length c23)) (ds:=[13]) (Array.replicate 14 false) (by kernel_rfl) rfl rfl ⟨hc.2.2.2.2.2.1,hc.2.2.2.2.2.2.1⟩ (fun hHeld=>?_)
   refine pa_ 0 38 (bz_ 14 1) ?_
   refine pa_ 1 39 (bz_ 14 3) ?_
   refine pa_ 2 40 (bz_ 14 7) ?_
   refine pa_ 4 42 (bz_ 14 23) ?_
   refine pa_ 5 43 (bz_ 14 55) ?_
   refine pa_ 6 44 (bz_ 14 119) ?_
   refine pa_ 7 45 (bz_ 14 247) ?_
   refine pa_ 9 47 (bz_ 14 759) ?_
   refine ta_ 3 41 (bz_ 14 767) hHeld (hy:=Or.inl ⟨by rfl,by rintro w' ⟨s0,s1⟩;go_simp;with_reducible rfl⟩) (h:=?_)
   refine ta_ 8 46 (bz_ 14 1023) hHeld (hy:=Or.inl ⟨by rfl,by rintro w' ⟨s0,s1⟩;go_simp;with_reducible rfl⟩) (h:=?_)
   refine pa_ 10 48 (bz_ 14 2047) ?_
   refine one_ (i:=11) (N:=none) (bz_ 14 4095) rfl rfl (by kernel_rfl) (by decide) (fun K hK=>?_)
   refine skip_ (w1:=?_) (by rfl) rfl ?_ ?_
   rotate_left
   ·go_simp
    rfl
   refine hK.out _ _ ⟨hca.2.2.2.2.2.1,hca.2.2.2.2.2.2.1⟩ (fun hHeld=>?_)
   clear hK K
   refine pa_ 12 49 (bz_ 14 8191) ?_
   refine last_ (i:=13) (N:=none) (bz_ 14 16383) rfl rfl (by kernel_rfl) (by decide) (fun K hK=>?_)
   refine skip_ (w1:=?_) (by rfl) rfl ?_ ?_
   rotate_left
   ·go_simp
    rfl
   refine hK.out _ _ ?_
   clear hK K
   refine done_ (by kernel_rfl) ?_
   replace HSb:=qy.mk (HSb.out.to (qh (Below.refl _ _)))
   clear xa fa xb fb xb2 fb2 hc hca HSa HS
   generalize ((wr.setCell _ _).setCell _ _).drew = w6 at HSb ⊢
   have hc:=HSb.out.cells
   obtain ⟨A0n,c0n,A1n,c1n,nx0,nx1,nx2,nx3,nx4,nx5,nx6,nf2,nf3,nf5,nf6,-⟩:=HSb.out.node_at i hi0 (of_eq_true qi)
   obtain ⟨xl,fl⟩:=int_at HSb.out.rl i hi0 (by show i < (lb.length : Int);have:=HL.out.1;have:=HIL.out;omega)
   have HSl:=qy.mk (HSb.out.sl i 1)
   by_cases ct : isTopB (rd_T60 s.nd i) = true ∧ (rd_T60 s.nd i).f3 = -1
   ·rw [if_pos ct] at h
    have HT:=qy.mk h
    obtain ⟨ct1,ct2⟩:=ct
    have cm : ((rd_T60 s.nd i).f3 == -1) = true:=by simpa using ct2
    clear h ct2
    go_wp2_with (first|(go_at_call 50;(with_reducible refine (isTop_calls' HSb.out i true HIN.out ct1).mono ?_);rintro e w7 ⟨rfl,h2⟩;replace h2:=h2.symm;subst h2))
    go_roundg k1
    case measure=>omega
    case rel=>exact ⟨i + 1,_,_,_,by rw [w64 (by omega) (by have:=HIL.out;have:=H0.out;omega)],⟨by omega,by have:=HI.out;omega,by have:=HIL.out;omega⟩,HT,⟨by rw [List.length_set];exact HL.out.1,by rw [List.length_set];exact HL.out.2.1,by rw [List.length_set];exact HL.out.2.2⟩,HSl⟩
   rw [if_neg ct] at h
   have HT:=qy.mk h
   clear h
   by_cases ct1 : isTopB (rd_T60 s.nd i) = true
   ·have ct2 : ((rd_T60 s.nd i).f3 == -1) = false:=by
     have : ¬ (rd_T60 s.nd i).f3 = -1:=fun h=>ct ⟨ct1,h⟩
     simpa using this
    clear ct
    go_wp2_with (first|(go_at_call 50;(with_reducible refine (isTop_calls' HSb.out i true HIN.out ct1).mono ?_);rintro e w7 ⟨rfl,h2⟩;replace h2:=h2.symm;subst h2))
    go_roundg k1
    case measure=>omega
    case rel=>exact ⟨i + 1,_,_,_,by rw [w64 (by omega) (by have:=HIL.out;have:=H0.out;omega)],⟨by omega,by have:=HI.out;omega,by have:=HIL.out;omega⟩,HT,⟨HL.out.1,by rw [List.length_set];exact HL.out.2.1,by rw [List.length_set];exact HL.out.2.2⟩,HSb⟩
   replace ct1 : isTopB (rd_T60 s.nd i) = false:=by simpa using ct1
   clear ct
   go_wp2_with (first|(go_at_call 50;(with_reducible refine (isTop_calls' HSb.out i false HIN.out ct1).mono ?_);rintro e w7 ⟨rfl,h2⟩;replace h2:=h2.symm;subst h2))
   go_roundg k1
   case measure=>omega
   case rel=>exact ⟨i + 1,_,_,_,by rw [w64 (by omega) (by have:=HIL.out;have:=H0.out;omega)],⟨by omega,by have:=HI.out;omega,by have:=HIL.out;omega⟩,HT,⟨HL.out.1,by rw [List.length_set];exact HL.out.2.1,by rw [List.length_set];exact HL.out.2.2⟩,HSb⟩
  rw [if_neg c] at h
  have cl0 : decide (i < (s.nd.length : Int)) = false:=decide_eq_false c
  clear c
  go_wp2_with fail
  go_end0
  rw [← h]
  exact ⟨rfl,_,_,_,_,HS.out⟩
end Go.Proofs.Ytnffimpoekjkpaa.QFnExactRounds
