import Derived.Test.YtnffimpoekjkpaaGreatZFnExactSolvex26
set_option linter.all false
namespace Go.Proofs.YtnffimpoekjkpaaGreat.QFnExactSolve
open Go.RowKit Go.Proofs.YtnffimpoekjkpaaGreatW.PrintWords Go.Proofs.YtnffimpoekjkpaaGreatW.PrintLast Go.Proofs.YtnffimpoekjkpaaGreatW.PrintMore
set_option maxHeartbeats 8000000
set_option maxRecDepth 100000
attribute [local go_sem] Od' Pd' Xd' Yd' Jd' Kd' Qd' Rd'
def Kg' (W : World) (base : Nat) (col : Nat → Nat) (c : Nat) (n : Nat) (o : Option Value) : Prop:=∀ v,o = some v → Kd.R (Kd.int .i64) 3 W base (fun k=>col k = c) v (List.replicate n 0)
def Frs (w0 W : World) (g : Nat) (N : Int) (Ae : Option Addr) (ce : Nat) (es : List (S73)) (vy vn vl va vb : Value) (s : SI) (o3 o4 o5 : Option Value) : Prop :=
 ∃ col,Sol w0 W g N Ae ce es col vy vn vl va vb s ∧ Kg' W w0.heap.size col 3 s.nd.length o3 ∧ Kg' W w0.heap.size col 4 s.nd.length o4 ∧ Kg' W w0.heap.size col 5 s.nd.length o5
section
variable {w0 W W1 : World} {g : Nat} {N : Int} {Ae : Option Addr} {ce : Nat} {es : List (S73)} {col col' : Nat → Nat} {vy vn vl va vb v : Value} {s : SI} {o3 o4 o5 o : Option Value} {c n base : Nat}
theorem Kg'.to (h : Kg' W base col c n o) (hb : Below W.heap.size W W1) : Kg' W1 base col c n o:=fun v hv=>Kd.R_below (h v hv) hb
theorem Kg'.recol (h : Kg' W base col c n o) (hc : ∀ k,k < W.heap.size → col' k = col k) : Kg' W base col' c n o:=fun v hv =>
 Kd.R_mono (Kd.R_bound (h v hv)) Qb'
theorem Kg'.set {cells : Array Value} {j : Nat} {u : Value} (h : Kg' W base col c n o) (hb : W.heap[g]? = some (.cells cells 87 (0,0))) : Kg' (W.setCell ⟨g,j,none⟩ u) base col c n o:=fun v hv=>Kd.R_set (h v hv) hb Te' _ _
theorem new_col (h : Kd.R (Kd.int .i64) 3 W1 W.heap.size (fun _=>True) v (List.replicate n 0)) (hb : base ≤ W.heap.size) (c : Nat) : Kd.R (Kd.int .i64) 3 W1 base (fun k=>(if W.heap.size ≤ k then c else col k) = c) v (List.replicate n 0) :=
 Kd.R_lower (Kd.R_mono (Kd.R_bound h) nc') hb
theorem Frs.make (h : Frs w0 W g N Ae ce es vy vn vl va vb s o3 o4 o5) (ho : Kd.R (Kd.int .i64) 3 W1 W.heap.size (fun _=>True) v (List.replicate s.nd.length 0)) (hb : Below W.heap.size W W1) (c : Nat) :
  ∃ col,Sol w0 W1 g N Ae ce es col vy vn vl va vb s ∧ Kg' W1 w0.heap.size col 3 s.nd.length o3 ∧ Kg' W1 w0.heap.size col 4 s.nd.length o4 ∧ Kg' W1 w0.heap.size col 5 s.nd.length o5 ∧ Kd.R (Kd.int .i64) 3 W1 w0.heap.size (fun k=>col k = c) v (List.replicate s.nd.length 0):=by
 obtain ⟨col,hS,h3,h4,h5⟩:=h
 have hc : ∀ k,k < W.heap.size → (if W.heap.size ≤ k then c else col k) = col k:=fun k hk=>by rw [if_neg aa']
 exact ⟨fun k=>if W.heap.size ≤ k then c else col k,(hS.recol hc).to hb,(h3.recol hc).to hb,(h4.recol hc).to hb,(h5.recol hc).to hb,new_col ho hS.hb.size c⟩
theorem Frs.make3 (h : Frs w0 W g N Ae ce es vy vn vl va vb s none o4 o5) (ho : Kd.R (Kd.int .i64) 3 W1 W.heap.size (fun _=>True) v (List.replicate s.nd.length 0)) (hb : Below W.heap.size W W1) : Frs w0 W1 g N Ae ce es vy vn vl va vb s (some v) o4 o5:=by
 obtain ⟨col,hS,_,h4,h5,hn⟩:=h.make ho hb 3
 exact ⟨col,hS,fun v hv=>by injection hv with e;subst e;exact hn,h4,h5⟩
theorem Frs.make4 (h : Frs w0 W g N Ae ce es vy vn vl va vb s o3 none o5) (ho : Kd.R (Kd.int .i64) 3 W1 W.heap.size (fun _=>True) v (List.replicate s.nd.length 0)) (hb : Below W.heap.size W W1) : Frs w0 W1 g N Ae ce es vy vn vl va vb s o3 (some v) o5:=by
 obtain ⟨col,hS,h3,_,h5,hn⟩:=h.make ho hb 4
 exact ⟨col,hS,h3,fun v hv=>by injection hv with e;subst e;exact hn,h5⟩
theorem Frs.make5 (h : Frs w0 W g N Ae ce es vy vn vl va vb s o3 o4 none) (ho : Kd.R (Kd.int .i64) 3 W1 W.heap.size (fun _=>True) v (List.replicate s.nd.length 0)) (hb : Below W.heap.size W W1) : Frs w0 W1 g N Ae ce es vy vn vl va vb s o3 o4 (some v):=by
 obtain ⟨col,hS,h3,h4,_,hn⟩:=h.make ho hb 5
 exact ⟨col,hS,h3,h4,fun v hv=>by injection hv with e;subst e;exact hn⟩
theorem Frs.st3 (h : Frs w0 W g N Ae ce es vy vn vl va vb s (some v) o4 o5) : Frs w0 (W.setCell ⟨g,4,none⟩ v) g N Ae ce es vy vn v va vb { s with lb:=List.replicate s.nd.length 0 } none o4 o5:=by
 obtain ⟨col,hS,h3,h4,h5⟩:=h
 exact ⟨col,hS.fl (h3 v rfl),(fun _ h=>nomatch h),h4.set hS.blk,h5.set hS.blk⟩
theorem Frs.st4 (h : Frs w0 W g N Ae ce es vy vn vl va vb s o3 (some v) o5) : Frs w0 (W.setCell ⟨g,5,none⟩ v) g N Ae ce es vy vn vl v vb { s with ah:=List.replicate s.nd.length 0 } o3 none o5:=by
 obtain ⟨col,hS,h3,h4,h5⟩:=h
 exact ⟨col,hS.fa (h4 v rfl),h3.set hS.blk,(fun _ h=>nomatch h),h5.set hS.blk⟩
theorem Frs.st5 (h : Frs w0 W g N Ae ce es vy vn vl va vb s o3 o4 (some v)) : Frs w0 (W.setCell ⟨g,6,none⟩ v) g N Ae ce es vy vn vl va v { s with bk:=List.replicate s.nd.length 0 } o3 o4 none:=by
 obtain ⟨col,hS,h3,h4,h5⟩:=h
 exact ⟨col,hS.fb (h5 v rfl),h3.set hS.blk,h4.set hS.blk,(fun _ h=>nomatch h)⟩
theorem Frs.cell (h : Frs w0 W g N Ae ce es vy vn vl va vb s o3 o4 o5) : W.cell? ⟨g,3,none⟩ = some vn:=h.elim fun col h=>h.1.cells.2.2.2.1
theorem Frs.cell4 (h : Frs w0 W g N Ae ce es vy vn vl va vb s o3 o4 o5) : W.cell? ⟨g,4,none⟩ = some vl ∧ W.frozen? ⟨g,4,none⟩ = false:=h.elim fun col h=>⟨h.1.cells.2.2.2.2.1,h.1.frz.2.2.1⟩
theorem Frs.cell5 (h : Frs w0 W g N Ae ce es vy vn vl va vb s o3 o4 o5) : W.cell? ⟨g,5,none⟩ = some va ∧ W.frozen? ⟨g,5,none⟩ = false:=h.elim fun col h=>⟨h.1.cells.2.2.2.2.2.1,h.1.frz.2.2.2.1⟩
theorem Frs.cell6 (h : Frs w0 W g N Ae ce es vy vn vl va vb s o3 o4 o5) : W.cell? ⟨g,6,none⟩ = some vb ∧ W.frozen? ⟨g,6,none⟩ = false:=h.elim fun col h=>⟨h.1.cells.2.2.2.2.2.2.1,h.1.frz.2.2.2.2.1⟩
end
def Uf' (nd : List (S89)) : Nat → Int → List Int → List Int → List Int → List Int × List Int × List Int
 | 0,_,lb,ah,bk=>(lb,ah,bk)
 | k + 1,i,lb,ah,bk=>if i < (nd.length : Int) then Uf' nd k (i + 1) (if Dd' (td' nd i) = true ∧ (td' nd i).f3 = -1 then lb.set i.toNat 1 else lb) (ah.set i.toNat (-1)) (bk.set i.toNat (-1)) else (lb,ah,bk)
def Ge' (nd : List (S89)) : List Int × List Int × List Int:=Uf' nd (nd.length + 1) 0 (List.replicate nd.length 0) (List.replicate nd.length 0) (List.replicate nd.length 0)
theorem me' {w0 W : World} {g : Nat} {N : Int} {Ae : Option Addr} {ce : Nat} {es : List (S73)} {col : Nat → Nat} {vy vn vl va vb : Value} {s : SI} (hS : Sol w0 W g N Ae ce es col vy vn vl va vb s) (n : Int) (r : Bool) (hn : inR n s.nd.length) (h : Dd' (td' s.nd n) = r) :
  Calls Tryz.prog 53 #[.pointer (some ⟨g,0,none⟩),.int .i64 n] W fun e w'=>e = .returned (.bool r) ∧ w' = W:=by
 subst h
 exact In' hS n hn
theorem Ln' {w0 W : World} {g : Nat} {N : Int} {Ae : Option Addr} {ce : Nat} {es : List (S73)} {col : Nat → Nat} {vy vn vl va vb : Value} {s : SI} (hS : Sol w0 W g N Ae ce es col vy vn vl va vb s) (hsz : s.nd.length ≤ 1000000) :
  Calls Tryz.prog 63 #[.pointer (some ⟨g,0,none⟩)] W fun r w'=>r = .returned (.tuple #[]) ∧ ∃ col vl va vb,Sol w0 w' g N Ae ce es col vy vn vl va vb { s with lb:=(Ge' s.nd).1,ah:=(Ge' s.nd).2.1,bk:=(Ge' s.nd).2.2 }:=by
 have hu87:=Tryz.underlying87
 have hu89:=Tryz.underlying89
 have hu73:=Tryz.underlying73
 have hu35:=Tryz.underlying35
 have HS:=qz.mk hS
 clear hS
 have hu27:=Tryz.underlying27
 obtain ⟨An,cn,e_⟩:=Kd.R_slice HS.o.rn
 subst e_
 have H0:=qz.mk (And.intro trivial hsz)
 have HF0 : qz (Frs w0 W.drew g N Ae ce es vy (.slice An s.nd.length cn) vl va vb s none none none):=⟨⟨col,HS.o.to (qh (Below.refl _ _)),(fun _ h=>nomatch h),(fun _ h=>nomatch h),(fun _ h=>nomatch h)⟩⟩
 clear hsz
 go_enter Tryz.func63,Tryz.ntmps63
 go_wp2_with fail
 refine Md' (n:=30) (S:=fun w'=>w'.cell? ⟨g,3,none⟩ = some (.slice An s.nd.length cn)) (ds:=[29]) (Array.replicate 30 false) da' rfl rfl (HF0.o.cell) (fun hHeld=>?_)
 refine pa_ 0 3 (bz_ 30 1) ?_
 refine pa_ 1 4 (bz_ 30 3) ?_
 refine pa_ 2 5 (bz_ 30 7) ?_
 refine pa_ 3 6 (bz_ 30 15) ?_
 refine pa_ 4 7 (bz_ 30 31) ?_
 refine pa_ 5 8 (bz_ 30 63) ?_
 refine pa_ 9 12 (bz_ 30 575) ?_
 refine pa_ 10 13 (bz_ 30 1599) ?_
 refine pa_ 11 14 (bz_ 30 3647) ?_
 refine pa_ 15 18 (bz_ 30 36415) ?_
 refine pa_ 16 19 (bz_ 30 101951) ?_
 refine pa_ 17 20 (bz_ 30 233023) ?_
 refine Kj' (i:=6) (N:=some 9) (v:=?_) (a':=?_) (bz_ 30 233087) rfl rfl da' (fun _ _ _ h=>h) (Or.inl ⟨ca',?_⟩) hHeld ?_ ?_
 rotate_left
 ·intro w' s0
  go_simp
  with_reducible rfl
 rotate_left
 ·simp only [Act.put,List.setIfInBounds_toArray,List.set_cons_zero,List.set_cons_succ,Bd',Cd']
  rfl
 refine pa_ 7 10 (bz_ 30 233215) ?_
 refine Kj' (i:=12) (N:=some 15) (v:=?_) (a':=?_) (bz_ 30 237311) rfl rfl da' (fun _ _ _ h=>h) (Or.inl ⟨ca',?_⟩) hHeld ?_ ?_
 rotate_left
 ·intro w' s0
  go_simp
  with_reducible rfl
 rotate_left
 ·simp only [Act.put,List.setIfInBounds_toArray,List.set_cons_zero,List.set_cons_succ,Bd',Cd']
  rfl
 refine pa_ 13 16 (bz_ 30 245503) ?_
 refine Kj' (i:=18) (N:=some 21) (v:=?_) (a':=?_) (bz_ 30 507647) rfl rfl da' (fun _ _ _ h=>h) (Or.inl ⟨ca',?_⟩) hHeld ?_ ?_
 rotate_left
 ·intro w' s0
  go_simp
  with_reducible rfl
 rotate_left
 ·simp only [Act.put,List.setIfInBounds_toArray,List.set_cons_zero,List.set_cons_succ,Bd',Cd']
  rfl
 refine pa_ 19 22 (bz_ 30 1031935) ?_
 refine join_ (σ:=(Option Addr × Nat) × (Option Addr × Nat) × (Option Addr × Nat)) 3 (bz_ 30 134217727) (fun z=>[(11,.slice z.1.1 s.nd.length z.1.2),(17,.slice z.2.1.1 s.nd.length z.2.1.2),(23,.slice z.2.2.1 s.nd.length z.2.2.2),(24,.pointer (some ⟨g,0,none⟩)),(25,.pointer (some ⟨g,4,none⟩)),(26,.pointer (some ⟨g,0,none⟩)),(27,.pointer (some ⟨g,5,none⟩))]) (fun z w'=>Frs w0 w' g N Ae ce es vy (.slice An s.nd.length cn) (.slice z.1.1 s.nd.length z.1.2) (.slice z.2.1.1 s.nd.length z.2.1.2) vb { s with lb:=List.replicate s.nd.length 0,ah:=List.replicate s.nd.length 0 } none none (some (.slice z.2.2.1 s.nd.length z.2.2.2))) ?_ ?_
 rotate_left
 ·intro hCont
  refine xm' (i:=8) (j:=14) (k:=20) (Ni:=some 11) (Nj:=some 17) (Nk:=some 23) (bz_ 30 1032191) (bz_ 30 1048319) (bz_ 30 2080511) rfl rfl rfl rfl rfl rfl da' ba' ba' ba' (fun K hK=>?_) (fun K hK=>?_) (fun K hK=>?_)
  ·skip
   refine Kd.R_make_step (Kd.int .i64) _ 3 ca' (N:=11) rfl 27 _ _ rfl (s.nd.length : Int) ca' ca' Tryz.underlying27 (.int .i64 0) 8 Ud' rfl ba' aa' 0 (ok:=fun _=>True) (okp:=fun _=>True) rfl (fun _ hk=>hk) trivial aa' ka' (Below.refl _ _) (Nat.le_refl _) ?_
   intro v11 wm0 ho hb _ _
   rw [Int.toNat_natCast] at ho
   obtain ⟨A11,c11,e_⟩:=Kd.R_slice ho
   rw [List.length_replicate] at e_
   subst e_
   have HF1:=qz.mk (HF0.o.make3 ho hb)
   clear ho hb
   refine hK.out _ _ (HF1.o.cell) (fun hHeld=>?_)
   clear hK K
   refine zd' (a':=?_) ?_ ?_
   rotate_left
   ·show Act.put _ (some 11) _ = _
    simp only [Act.put,List.setIfInBounds_toArray,List.set_cons_zero,List.set_cons_succ,Bd',Cd']
    rfl
   refine pa_ 21 24 (bz_ 30 3129343) ?_
   refine pa_ 22 25 (bz_ 30 7323647) ?_
   refine xm' (i:=14) (j:=20) (k:=23) (Ni:=some 17) (Nj:=some 23) (Nk:=none) (bz_ 30 7340031) (bz_ 30 8372223) (bz_ 30 15712255) rfl rfl rfl rfl rfl rfl da' ba' ba' ba' (fun K hK=>?_) (fun K hK=>?_) (fun K hK=>?_)
   ·skip
    refine Kd.R_make_step (Kd.int .i64) _ 3 ca' (N:=17) rfl 27 _ _ rfl (s.nd.length : Int) ca' ca' Tryz.underlying27 (.int .i64 0) 8 Ud' rfl ba' aa' 0 (ok:=fun _=>True) (okp:=fun _=>True) rfl (fun _ hk=>hk) trivial aa' ka' (Below.refl _ _) (Nat.le_refl _) ?_
    intro v17 wm1 ho hb _ _
    rw [Int.toNat_natCast] at ho
    obtain ⟨A17,c17,e_⟩:=Kd.R_slice ho
    rw [List.length_replicate] at e_
    subst e_
    have HF2:=qz.mk (HF1.o.make4 ho hb)
    clear ho hb
    refine hK.out _ _ (HF2.o.cell) (fun hHeld=>?_)
    clear hK K
    refine zd' (a':=?_) ?_ ?_
    rotate_left
    ·show Act.put _ (some 17) _ = _
     simp only [Act.put,List.setIfInBounds_toArray,List.set_cons_zero,List.set_cons_succ,Bd',Cd']
     rfl
    refine Vg' (i:=20) (j:=23) (Ni:=some 23) (Nj:=none) (bz_ 30 8388607) (bz_ 30 15728639) rfl rfl rfl rfl da' ba' ba' (fun K hK=>?_) (fun K hK=>?_)
    ·skip
     refine Kd.R_make_step (Kd.int .i64) _ 3 ca' (N:=23) rfl 27 _ _ rfl (s.nd.length : Int) ca' ca' Tryz.underlying27 (.int .i64 0) 8 Ud' rfl ba' aa' 0 (ok:=fun _=>True) (okp:=fun _=>True) rfl (fun _ hk=>hk) trivial aa' ka' (Below.refl _ _) (Nat.le_refl _) ?_
     intro v23 wm2 ho hb _ _
     rw [Int.toNat_natCast] at ho
     obtain ⟨A23,c23,e_⟩:=Kd.R_slice ho
     rw [List.length_replicate] at e_
     subst e_
     have HF3:=qz.mk (HF2.o.make5 ho hb)
     clear ho hb
     refine hK.out _ _ (HF3.o.cell) (fun hHeld=>?_)
     clear hK K
     refine zd' (a':=?_) ?_ ?_
     rotate_left
     ·show Act.put _ (some 23) _ = _
      simp only [Act.put,List.setIfInBounds_toArray,List.set_cons_zero,List.set_cons_succ,Bd',Cd']
      rfl
     refine Td' (i:=23) (N:=none) (bz_ 30 16777215) rfl rfl da' ba' (fun K hK=>?_)
     have hce:=HF3.o.cell4
     have HF4:=qz.mk (HF3.o.st3)
     refine Id' (w1:=?_) ca' rfl ?_ ?_
     rotate_left
     ·go_simp
      rfl
     clear hce
     refine hK.out _ _ (HF4.o.cell) (fun hHeld=>?_)
     clear hK K
     refine pa_ 24 26 (bz_ 30 33554431) ?_
     refine pa_ 25 27 (bz_ 30 67108863) ?_
     refine Td' (i:=26) (N:=none) (bz_ 30 134217727) rfl rfl da' ba' (fun K hK=>?_)
     have hce:=HF4.o.cell5
     have HF5:=qz.mk (HF4.o.st4)
     refine Id' (w1:=?_) ca' rfl ?_ ?_
     rotate_left
     ·go_simp
      rfl
     clear hce
     refine hK.out _ _ (HF5.o.cell) (fun hHeld=>?_)
     clear hK K
     exact zd' ua' (hCont ((A11,c11),(A17,c17),(A23,c23)) _ HF5.o)
    skip
    have hce:=HF2.o.cell4
    have HF3:=qz.mk (HF2.o.st3)
    refine Id' (w1:=?_) ca' rfl ?_ ?_
    rotate_left
    ·go_simp
     rfl
    clear hce
    refine hK.out _ _ (HF3.o.cell) (fun hHeld=>?_)
    clear hK K
    refine pa_ 24 26 (bz_ 30 32505855) ?_
    refine pa_ 25 27 (bz_ 30 66060287) ?_
    refine Vg' (i:=20) (j:=26) (Ni:=some 23) (Nj:=none) (bz_ 30 67108863) (bz_ 30 133169151) rfl rfl rfl rfl da' ba' ba' (fun K hK=>?_) (fun K hK=>?_)
    ·skip
     refine Kd.R_make_step (Kd.int .i64) _ 3 ca' (N:=23) rfl 27 _ _ rfl (s.nd.length : Int) ca' ca' Tryz.underlying27 (.int .i64 0) 8 Ud' rfl ba' aa' 0 (ok:=fun _=>True) (okp:=fun _=>True) rfl (fun _ hk=>hk) trivial aa' ka' (Below.refl _ _) (Nat.le_refl _) ?_
     intro v23 wm3 ho hb _ _
     rw [Int.toNat_natCast] at ho
     obtain ⟨A23,c23,e_⟩:=Kd.R_slice ho
     rw [List.length_replicate] at e_
     subst e_
     have HF4:=qz.mk (HF3.o.make5 ho hb)
     clear ho hb
     refine hK.out _ _ (HF4.o.cell) (fun hHeld=>?_)
     clear hK K
     refine zd' (a':=?_) ?_ ?_
     rotate_left
     ·show Act.put _ (some 23) _ = _
      simp only [Act.put,List.setIfInBounds_toArray,List.set_cons_zero,List.set_cons_succ,Bd',Cd']
      rfl
     refine Td' (i:=26) (N:=none) (bz_ 30 134217727) rfl rfl da' ba' (fun K hK=>?_)
     have hce:=HF4.o.cell5
     have HF5:=qz.mk (HF4.o.st4)
     refine Id' (w1:=?_) ca' rfl ?_ ?_
     rotate_left
     ·go_simp
      rfl
     clear hce
     refine hK.out _ _ (HF5.o.cell) (fun hHeld=>?_)
     clear hK K
     exact zd' ua' (hCont ((A11,c11),(A17,c17),(A23,c23)) _ HF5.o)
    skip
    have hce:=HF3.o.cell5
    have HF4:=qz.mk (HF3.o.st4)
    refine Id' (w1:=?_) ca' rfl ?_ ?_
    rotate_left
    ·go_simp
     rfl
    clear hce
    refine hK.out _ _ (HF4.o.cell) (fun hHeld=>?_)
    clear hK K
    refine Td' (i:=20) (N:=some 23) (bz_ 30 134217727) rfl rfl da' ba' (fun K hK=>?_)
    refine Kd.R_make_step (Kd.int .i64) _ 3 ca' (N:=23) rfl 27 _ _ rfl (s.nd.length : Int) ca' ca' Tryz.underlying27 (.int .i64 0) 8 Ud' rfl ba' aa' 0 (ok:=fun _=>True) (okp:=fun _=>True) rfl (fun _ hk=>hk) trivial aa' ka' (Below.refl _ _) (Nat.le_refl _) ?_
    intro v23 wm4 ho hb _ _
    rw [Int.toNat_natCast] at ho
    obtain ⟨A23,c23,e_⟩:=Kd.R_slice ho
    rw [List.length_replicate] at e_
    subst e_
    have HF5:=qz.mk (HF4.o.make5 ho hb)
    clear ho hb
    refine hK.out _ _ (HF5.o.cell) (fun hHeld=>?_)
    clear hK K
    refine zd' (a':=?_) ?_ ?_
    rotate_left
    ·show Act.put _ (some 23) _ = _
     simp only [Act.put,List.setIfInBounds_toArray,List.set_cons_zero,List.set_cons_succ,Bd',Cd']
     rfl
    exact zd' ua' (hCont ((A11,c11),(A17,c17),(A23,c23)) _ HF5.o)
   ·skip
    refine Kd.R_make_step (Kd.int .i64) _ 3 ca' (N:=23) rfl 27 _ _ rfl (s.nd.length : Int) ca' ca' Tryz.underlying27 (.int .i64 0) 8 Ud' rfl ba' aa' 0 (ok:=fun _=>True) (okp:=fun _=>True) rfl (fun _ hk=>hk) trivial aa' ka' (Below.refl _ _) (Nat.le_refl _) ?_
    intro v23 wm1 ho hb _ _
    rw [Int.toNat_natCast] at ho
    obtain ⟨A23,c23,e_⟩:=Kd.R_slice ho
    rw [List.length_replicate] at e_
    subst e_
    have HF2:=qz.mk (HF1.o.make5 ho hb)
    clear ho hb
    refine hK.out _ _ (HF2.o.cell) (fun hHeld=>?_)
    clear hK K
    refine zd' (a':=?_) ?_ ?_
    rotate_left
    ·show Act.put _ (some 23) _ = _
     simp only [Act.put,List.setIfInBounds_toArray,List.set_cons_zero,List.set_cons_succ,Bd',Cd']
     rfl
    refine Vg' (i:=14) (j:=23) (Ni:=some 17) (Nj:=none) (bz_ 30 8388607) (bz_ 30 16760831) rfl rfl rfl rfl da' ba' ba' (fun K hK=>?_) (fun K hK=>?_)
    ·skip
     refine Kd.R_make_step (Kd.int .i64) _ 3 ca' (N:=17) rfl 27 _ _ rfl (s.nd.length : Int) ca' ca' Tryz.underlying27 (.int .i64 0) 8 Ud' rfl ba' aa' 0 (ok:=fun _=>True) (okp:=fun _=>True) rfl (fun _ hk=>hk) trivial aa' ka' (Below.refl _ _) (Nat.le_refl _) ?_
     intro v17 wm2 ho hb _ _
     rw [Int.toNat_natCast] at ho
     obtain ⟨A17,c17,e_⟩:=Kd.R_slice ho
     rw [List.length_replicate] at e_
     subst e_
     have HF3:=qz.mk (HF2.o.make4 ho hb)
     clear ho hb
     refine hK.out _ _ (HF3.o.cell) (fun hHeld=>?_)
     clear hK K
     refine zd' (a':=?_) ?_ ?_
     rotate_left
     ·show Act.put _ (some 17) _ = _
      simp only [Act.put,List.setIfInBounds_toArray,List.set_cons_zero,List.set_cons_succ,Bd',Cd']
      rfl
     refine Td' (i:=23) (N:=none) (bz_ 30 16777215) rfl rfl da' ba' (fun K hK=>?_)
     have hce:=HF3.o.cell4
     have HF4:=qz.mk (HF3.o.st3)
     refine Id' (w1:=?_) ca' rfl ?_ ?_
     rotate_left
     ·go_simp
      rfl
     clear hce
     refine hK.out _ _ (HF4.o.cell) (fun hHeld=>?_)
     clear hK K
     refine pa_ 24 26 (bz_ 30 33554431) ?_
     refine pa_ 25 27 (bz_ 30 67108863) ?_
     refine Td' (i:=26) (N:=none) (bz_ 30 134217727) rfl rfl da' ba' (fun K hK=>?_)
     have hce:=HF4.o.cell5
     have HF5:=qz.mk (HF4.o.st4)
     refine Id' (w1:=?_) ca' rfl ?_ ?_
     rotate_left
     ·go_simp
      rfl
     clear hce
     refine hK.out _ _ (HF5.o.cell) (fun hHeld=>?_)
     clear hK K
     exact zd' ua' (hCont ((A11,c11),(A17,c17),(A23,c23)) _ HF5.o)
    skip
    have hce:=HF2.o.cell4
    have HF3:=qz.mk (HF2.o.st3)
    refine Id' (w1:=?_) ca' rfl ?_ ?_
    rotate_left
    ·go_simp
     rfl
    clear hce
    refine hK.out _ _ (HF3.o.cell) (fun hHeld=>?_)
    clear hK K
    refine Td' (i:=14) (N:=some 17) (bz_ 30 16777215) rfl rfl da' ba' (fun K hK=>?_)
    refine Kd.R_make_step (Kd.int .i64) _ 3 ca' (N:=17) rfl 27 _ _ rfl (s.nd.length : Int) ca' ca' Tryz.underlying27 (.int .i64 0) 8 Ud' rfl ba' aa' 0 (ok:=fun _=>True) (okp:=fun _=>True) rfl (fun _ hk=>hk) trivial aa' ka' (Below.refl _ _) (Nat.le_refl _) ?_
    intro v17 wm3 ho hb _ _
    rw [Int.toNat_natCast] at ho
    obtain ⟨A17,c17,e_⟩:=Kd.R_slice ho
    rw [List.length_replicate] at e_
    subst e_
    have HF4:=qz.mk (HF3.o.make4 ho hb)
    clear ho hb
    refine hK.out _ _ (HF4.o.cell) (fun hHeld=>?_)
    clear hK K
    refine zd' (a':=?_) ?_ ?_
    rotate_left
    ·show Act.put _ (some 17) _ = _
     simp only [Act.put,List.setIfInBounds_toArray,List.set_cons_zero,List.set_cons_succ,Bd',Cd']
     rfl
    refine pa_ 24 26 (bz_ 30 33554431) ?_
    refine pa_ 25 27 (bz_ 30 67108863) ?_
    refine Td' (i:=26) (N:=none) (bz_ 30 134217727) rfl rfl da' ba' (fun K hK=>?_)
    have hce:=HF4.o.cell5
    have HF5:=qz.mk (HF4.o.st4)
    refine Id' (w1:=?_) ca' rfl ?_ ?_
    rotate_left
    ·go_simp
     rfl
    clear hce
    refine hK.out _ _ (HF5.o.cell) (fun hHeld=>?_)
    clear hK K
    exact zd' ua' (hCont ((A11,c11),(A17,c17),(A23,c23)) _ HF5.o)
   skip
   have hce:=HF1.o.cell4
   have HF2:=qz.mk (HF1.o.st3)
   refine Id' (w1:=?_) ca' rfl ?_ ?_
   rotate_left
   ·go_simp
    rfl
   clear hce
   refine hK.out _ _ (HF2.o.cell) (fun hHeld=>?_)
   clear hK K
   refine Vg' (i:=14) (j:=20) (Ni:=some 17) (Nj:=some 23) (bz_ 30 15728639) (bz_ 30 16760831) rfl rfl rfl rfl da' ba' ba' (fun K hK=>?_) (fun K hK=>?_)
   ·skip
    refine Kd.R_make_step (Kd.int .i64) _ 3 ca' (N:=17) rfl 27 _ _ rfl (s.nd.length : Int) ca' ca' Tryz.underlying27 (.int .i64 0) 8 Ud' rfl ba' aa' 0 (ok:=fun _=>True) (okp:=fun _=>True) rfl (fun _ hk=>hk) trivial aa' ka' (Below.refl _ _) (Nat.le_refl _) ?_
    intro v17 wm2 ho hb _ _
    rw [Int.toNat_natCast] at ho
    obtain ⟨A17,c17,e_⟩:=Kd.R_slice ho
    rw [List.length_replicate] at e_
    subst e_
    have HF3:=qz.mk (HF2.o.make4 ho hb)
    clear ho hb
    refine hK.out _ _ (HF3.o.cell) (fun hHeld=>?_)
    clear hK K
    refine zd' (a':=?_) ?_ ?_
    rotate_left
    ·show Act.put _ (some 17) _ = _
     simp only [Act.put,List.setIfInBounds_toArray,List.set_cons_zero,List.set_cons_succ,Bd',Cd']
     rfl
    refine pa_ 24 26 (bz_ 30 32505855) ?_
    refine pa_ 25 27 (bz_ 30 66060287) ?_
    refine Vg' (i:=20) (j:=26) (Ni:=some 23) (Nj:=none) (bz_ 30 67108863) (bz_ 30 133169151) rfl rfl rfl rfl da' ba' ba' (fun K hK=>?_) (fun K hK=>?_)
    ·skip
     refine Kd.R_make_step (Kd.int .i64) _ 3 ca' (N:=23) rfl 27 _ _ rfl (s.nd.length : Int) ca' ca' Tryz.underlying27 (.int .i64 0) 8 Ud' rfl ba' aa' 0 (ok:=fun _=>True) (okp:=fun _=>True) rfl (fun _ hk=>hk) trivial aa' ka' (Below.refl _ _) (Nat.le_refl _) ?_
     intro v23 wm3 ho hb _ _
     rw [Int.toNat_natCast] at ho
     obtain ⟨A23,c23,e_⟩:=Kd.R_slice ho
     rw [List.length_replicate] at e_
     subst e_
     have HF4:=qz.mk (HF3.o.make5 ho hb)
     clear ho hb
     refine hK.out _ _ (HF4.o.cell) (fun hHeld=>?_)
     clear hK K
     refine zd' (a':=?_) ?_ ?_
     rotate_left
     ·show Act.put _ (some 23) _ = _
      simp only [Act.put,List.setIfInBounds_toArray,List.set_cons_zero,List.set_cons_succ,Bd',Cd']
      rfl
     refine Td' (i:=26) (N:=none) (bz_ 30 134217727) rfl rfl da' ba' (fun K hK=>?_)
     have hce:=HF4.o.cell5
     have HF5:=qz.mk (HF4.o.st4)
     refine Id' (w1:=?_) ca' rfl ?_ ?_
     rotate_left
     ·go_simp
      rfl
     clear hce
     refine hK.out _ _ (HF5.o.cell) (fun hHeld=>?_)
     clear hK K
     exact zd' ua' (hCont ((A11,c11),(A17,c17),(A23,c23)) _ HF5.o)
    skip
    have hce:=HF3.o.cell5
    have HF4:=qz.mk (HF3.o.st4)
    refine Id' (w1:=?_) ca' rfl ?_ ?_
    rotate_left
    ·go_simp
     rfl
    clear hce
    refine hK.out _ _ (HF4.o.cell) (fun hHeld=>?_)
    clear hK K
    refine Td' (i:=20) (N:=some 23) (bz_ 30 134217727) rfl rfl da' ba' (fun K hK=>?_)
    refine Kd.R_make_step (Kd.int .i64) _ 3 ca' (N:=23) rfl 27 _ _ rfl (s.nd.length : Int) ca' ca' Tryz.underlying27 (.int .i64 0) 8 Ud' rfl ba' aa' 0 (ok:=fun _=>True) (okp:=fun _=>True) rfl (fun _ hk=>hk) trivial aa' ka' (Below.refl _ _) (Nat.le_refl _) ?_
    intro v23 wm4 ho hb _ _
    rw [Int.toNat_natCast] at ho
    obtain ⟨A23,c23,e_⟩:=Kd.R_slice ho
    rw [List.length_replicate] at e_
    subst e_
    have HF5:=qz.mk (HF4.o.make5 ho hb)
    clear ho hb
    refine hK.out _ _ (HF5.o.cell) (fun hHeld=>?_)
    clear hK K
    refine zd' (a':=?_) ?_ ?_
    rotate_left
    ·show Act.put _ (some 23) _ = _
     simp only [Act.put,List.setIfInBounds_toArray,List.set_cons_zero,List.set_cons_succ,Bd',Cd']
     rfl
    exact zd' ua' (hCont ((A11,c11),(A17,c17),(A23,c23)) _ HF5.o)
   skip
   refine Kd.R_make_step (Kd.int .i64) _ 3 ca' (N:=23) rfl 27 _ _ rfl (s.nd.length : Int) ca' ca' Tryz.underlying27 (.int .i64 0) 8 Ud' rfl ba' aa' 0 (ok:=fun _=>True) (okp:=fun _=>True) rfl (fun _ hk=>hk) trivial aa' ka' (Below.refl _ _) (Nat.le_refl _) ?_
   intro v23 wm2 ho hb _ _
   rw [Int.toNat_natCast] at ho
   obtain ⟨A23,c23,e_⟩:=Kd.R_slice ho
   rw [List.length_replicate] at e_
   subst e_
   have HF3:=qz.mk (HF2.o.make5 ho hb)
   clear ho hb
   refine hK.out _ _ (HF3.o.cell) (fun hHeld=>?_)
   clear hK K
   refine zd' (a':=?_) ?_ ?_
   rotate_left
   ·show Act.put _ (some 23) _ = _
    simp only [Act.put,List.setIfInBounds_toArray,List.set_cons_zero,List.set_cons_succ,Bd',Cd']
    rfl
   refine Td' (i:=14) (N:=some 17) (bz_ 30 16777215) rfl rfl da' ba' (fun K hK=>?_)
   refine Kd.R_make_step (Kd.int .i64) _ 3 ca' (N:=17) rfl 27 _ _ rfl (s.nd.length : Int) ca' ca' Tryz.underlying27 (.int .i64 0) 8 Ud' rfl ba' aa' 0 (ok:=fun _=>True) (okp:=fun _=>True) rfl (fun _ hk=>hk) trivial aa' ka' (Below.refl _ _) (Nat.le_refl _) ?_
   intro v17 wm3 ho hb _ _
   rw [Int.toNat_natCast] at ho
   obtain ⟨A17,c17,e_⟩:=Kd.R_slice ho
   rw [List.length_replicate] at e_
   subst e_
   have HF4:=qz.mk (HF3.o.make4 ho hb)
   clear ho hb
   refine hK.out _ _ (HF4.o.cell) (fun hHeld=>?_)
   clear hK K
   refine zd' (a':=?_) ?_ ?_
   rotate_left
   ·show Act.put _ (some 17) _ = _
    simp only [Act.put,List.setIfInBounds_toArray,List.set_cons_zero,List.set_cons_succ,Bd',Cd']
    rfl
   refine pa_ 24 26 (bz_ 30 33554431) ?_
   refine pa_ 25 27 (bz_ 30 67108863) ?_
   refine Td' (i:=26) (N:=none) (bz_ 30 134217727) rfl rfl da' ba' (fun K hK=>?_)
   have hce:=HF4.o.cell5
   have HF5:=qz.mk (HF4.o.st4)
   refine Id' (w1:=?_) ca' rfl ?_ ?_
   rotate_left
   ·go_simp
    rfl
   clear hce
   refine hK.out _ _ (HF5.o.cell) (fun hHeld=>?_)
   clear hK K
   exact zd' ua' (hCont ((A11,c11),(A17,c17),(A23,c23)) _ HF5.o)
  ·skip
   refine Kd.R_make_step (Kd.int .i64) _ 3 ca' (N:=17) rfl 27 _ _ rfl (s.nd.length : Int) ca' ca' Tryz.underlying27 (.int .i64 0) 8 Ud' rfl ba' aa' 0 (ok:=fun _=>True) (okp:=fun _=>True) rfl (fun _ hk=>hk) trivial aa' ka' (Below.refl _ _) (Nat.le_refl _) ?_
   intro v17 wm0 ho hb _ _
   rw [Int.toNat_natCast] at ho
   obtain ⟨A17,c17,e_⟩:=Kd.R_slice ho
   rw [List.length_replicate] at e_
   subst e_
   have HF1:=qz.mk (HF0.o.make4 ho hb)
   clear ho hb
   refine hK.out _ _ (HF1.o.cell) (fun hHeld=>?_)
   clear hK K
   refine zd' (a':=?_) ?_ ?_
   rotate_left
   ·show Act.put _ (some 17) _ = _
    simp only [Act.put,List.setIfInBounds_toArray,List.set_cons_zero,List.set_cons_succ,Bd',Cd']
    rfl
   refine Vg' (i:=8) (j:=20) (Ni:=some 11) (Nj:=some 23) (bz_ 30 1048575) (bz_ 30 2096895) rfl rfl rfl rfl da' ba' ba' (fun K hK=>?_) (fun K hK=>?_)
   ·skip
    refine Kd.R_make_step (Kd.int .i64) _ 3 ca' (N:=11) rfl 27 _ _ rfl (s.nd.length : Int) ca' ca' Tryz.underlying27 (.int .i64 0) 8 Ud' rfl ba' aa' 0 (ok:=fun _=>True) (okp:=fun _=>True) rfl (fun _ hk=>hk) trivial aa' ka' (Below.refl _ _) (Nat.le_refl _) ?_
    intro v11 wm1 ho hb _ _
    rw [Int.toNat_natCast] at ho
    obtain ⟨A11,c11,e_⟩:=Kd.R_slice ho
    rw [List.length_replicate] at e_
    subst e_
    have HF2:=qz.mk (HF1.o.make3 ho hb)
    clear ho hb
    refine hK.out _ _ (HF2.o.cell) (fun hHeld=>?_)
    clear hK K
    refine zd' (a':=?_) ?_ ?_
    rotate_left
    ·show Act.put _ (some 11) _ = _
     simp only [Act.put,List.setIfInBounds_toArray,List.set_cons_zero,List.set_cons_succ,Bd',Cd']
     rfl
    refine pa_ 21 24 (bz_ 30 3145727) ?_
    refine pa_ 22 25 (bz_ 30 7340031) ?_
    refine Vg' (i:=20) (j:=23) (Ni:=some 23) (Nj:=none) (bz_ 30 8388607) (bz_ 30 15728639) rfl rfl rfl rfl da' ba' ba' (fun K hK=>?_) (fun K hK=>?_)
    ·skip
     refine Kd.R_make_step (Kd.int .i64) _ 3 ca' (N:=23) rfl 27 _ _ rfl (s.nd.length : Int) ca' ca' Tryz.underlying27 (.int .i64 0) 8 Ud' rfl ba' aa' 0 (ok:=fun _=>True) (okp:=fun _=>True) rfl (fun _ hk=>hk) trivial aa' ka' (Below.refl _ _) (Nat.le_refl _) ?_
     intro v23 wm2 ho hb _ _
     rw [Int.toNat_natCast] at ho
     obtain ⟨A23,c23,e_⟩:=Kd.R_slice ho
     rw [List.length_replicate] at e_
     subst e_
     have HF3:=qz.mk (HF2.o.make5 ho hb)
     clear ho hb
     refine hK.out _ _ (HF3.o.cell) (fun hHeld=>?_)
     clear hK K
     refine zd' (a':=?_) ?_ ?_
     rotate_left
     ·show Act.put _ (some 23) _ = _
      simp only [Act.put,List.setIfInBounds_toArray,List.set_cons_zero,List.set_cons_succ,Bd',Cd']
      rfl
     refine Td' (i:=23) (N:=none) (bz_ 30 16777215) rfl rfl da' ba' (fun K hK=>?_)
     have hce:=HF3.o.cell4
     have HF4:=qz.mk (HF3.o.st3)
     refine Id' (w1:=?_) ca' rfl ?_ ?_
     rotate_left
     ·go_simp
      rfl
     clear hce
     refine hK.out _ _ (HF4.o.cell) (fun hHeld=>?_)
     clear hK K
     refine pa_ 24 26 (bz_ 30 33554431) ?_
     refine pa_ 25 27 (bz_ 30 67108863) ?_
     refine Td' (i:=26) (N:=none) (bz_ 30 134217727) rfl rfl da' ba' (fun K hK=>?_)
     have hce:=HF4.o.cell5
     have HF5:=qz.mk (HF4.o.st4)
     refine Id' (w1:=?_) ca' rfl ?_ ?_
     rotate_left
     ·go_simp
      rfl
     clear hce
     refine hK.out _ _ (HF5.o.cell) (fun hHeld=>?_)
     clear hK K
     exact zd' ua' (hCont ((A11,c11),(A17,c17),(A23,c23)) _ HF5.o)
    skip
    have hce:=HF2.o.cell4
    have HF3:=qz.mk (HF2.o.st3)
    refine Id' (w1:=?_) ca' rfl ?_ ?_
    rotate_left
    ·go_simp
     rfl
    clear hce
    refine hK.out _ _ (HF3.o.cell) (fun hHeld=>?_)
    clear hK K
    refine pa_ 24 26 (bz_ 30 32505855) ?_
    refine pa_ 25 27 (bz_ 30 66060287) ?_
    refine Vg' (i:=20) (j:=26) (Ni:=some 23) (Nj:=none) (bz_ 30 67108863) (bz_ 30 133169151) rfl rfl rfl rfl da' ba' ba' (fun K hK=>?_) (fun K hK=>?_)
    ·skip
     refine Kd.R_make_step (Kd.int .i64) _ 3 ca' (N:=23) rfl 27 _ _ rfl (s.nd.length : Int) ca' ca' Tryz.underlying27 (.int .i64 0) 8 Ud' rfl ba' aa' 0 (ok:=fun _=>True) (okp:=fun _=>True) rfl (fun _ hk=>hk) trivial aa' ka' (Below.refl _ _) (Nat.le_refl _) ?_
     intro v23 wm3 ho hb _ _
     rw [Int.toNat_natCast] at ho
     obtain ⟨A23,c23,e_⟩:=Kd.R_slice ho
     rw [List.length_replicate] at e_
     subst e_
     have HF4:=qz.mk (HF3.o.make5 ho hb)
     clear ho hb
     refine hK.out _ _ (HF4.o.cell) (fun hHeld=>?_)
     clear hK K
     refine zd' (a':=?_) ?_ ?_
     rotate_left
     ·show Act.put _ (some 23) _ = _
      simp only [Act.put,List.setIfInBounds_toArray,List.set_cons_zero,List.set_cons_succ,Bd',Cd']
      rfl
     refine Td' (i:=26) (N:=none) (bz_ 30 134217727) rfl rfl da' ba' (fun K hK=>?_)
     have hce:=HF4.o.cell5
     have HF5:=qz.mk (HF4.o.st4)
     refine Id' (w1:=?_) ca' rfl ?_ ?_
     rotate_left
     ·go_simp
      rfl
     clear hce
     refine hK.out _ _ (HF5.o.cell) (fun hHeld=>?_)
     clear hK K
     exact zd' ua' (hCont ((A11,c11),(A17,c17),(A23,c23)) _ HF5.o)
    skip
    have hce:=HF3.o.cell5
    have HF4:=qz.mk (HF3.o.st4)
    refine Id' (w1:=?_) ca' rfl ?_ ?_
    rotate_left
    ·go_simp
     rfl
    clear hce
    refine hK.out _ _ (HF4.o.cell) (fun hHeld=>?_)
    clear hK K
    refine Td' (i:=20) (N:=some 23) (bz_ 30 134217727) rfl rfl da' ba' (fun K hK=>?_)
    refine Kd.R_make_step (Kd.int .i64) _ 3 ca' (N:=23) rfl 27 _ _ rfl (s.nd.length : Int) ca' ca' Tryz.underlying27 (.int .i64 0) 8 Ud' rfl ba' aa' 0 (ok:=fun _=>True) (okp:=fun _=>True) rfl (fun _ hk=>hk) trivial aa' ka' (Below.refl _ _) (Nat.le_refl _) ?_
    intro v23 wm4 ho hb _ _
    rw [Int.toNat_natCast] at ho
    obtain ⟨A23,c23,e_⟩:=Kd.R_slice ho
    rw [List.length_replicate] at e_
    subst e_
    have HF5:=qz.mk (HF4.o.make5 ho hb)
    clear ho hb
    refine hK.out _ _ (HF5.o.cell) (fun hHeld=>?_)
    clear hK K
    refine zd' (a':=?_) ?_ ?_
    rotate_left
    ·show Act.put _ (some 23) _ = _
     simp only [Act.put,List.setIfInBounds_toArray,List.set_cons_zero,List.set_cons_succ,Bd',Cd']
     rfl
    exact zd' ua' (hCont ((A11,c11),(A17,c17),(A23,c23)) _ HF5.o)
   skip
   refine Kd.R_make_step (Kd.int .i64) _ 3 ca' (N:=23) rfl 27 _ _ rfl (s.nd.length : Int) ca' ca' Tryz.underlying27 (.int .i64 0) 8 Ud' rfl ba' aa' 0 (ok:=fun _=>True) (okp:=fun _=>True) rfl (fun _ hk=>hk) trivial aa' ka' (Below.refl _ _) (Nat.le_refl _) ?_
   intro v23 wm1 ho hb _ _
   rw [Int.toNat_natCast] at ho
   obtain ⟨A23,c23,e_⟩:=Kd.R_slice ho
   rw [List.length_replicate] at e_
   subst e_
   have HF2:=qz.mk (HF1.o.make5 ho hb)
   clear ho hb
   refine hK.out _ _ (HF2.o.cell) (fun hHeld=>?_)
   clear hK K
   refine zd' (a':=?_) ?_ ?_
   rotate_left
   ·show Act.put _ (some 23) _ = _
    simp only [Act.put,List.setIfInBounds_toArray,List.set_cons_zero,List.set_cons_succ,Bd',Cd']
    rfl
   refine Td' (i:=8) (N:=some 11) (bz_ 30 2097151) rfl rfl da' ba' (fun K hK=>?_)
   refine Kd.R_make_step (Kd.int .i64) _ 3 ca' (N:=11) rfl 27 _ _ rfl (s.nd.length : Int) ca' ca' Tryz.underlying27 (.int .i64 0) 8 Ud' rfl ba' aa' 0 (ok:=fun _=>True) (okp:=fun _=>True) rfl (fun _ hk=>hk) trivial aa' ka' (Below.refl _ _) (Nat.le_refl _) ?_
   intro v11 wm2 ho hb _ _
   rw [Int.toNat_natCast] at ho
   obtain ⟨A11,c11,e_⟩:=Kd.R_slice ho
   rw [List.length_replicate] at e_
   subst e_
   have HF3:=qz.mk (HF2.o.make3 ho hb)
   clear ho hb
   refine hK.out _ _ (HF3.o.cell) (fun hHeld=>?_)
   clear hK K
   refine zd' (a':=?_) ?_ ?_
   rotate_left
   ·show Act.put _ (some 11) _ = _
    simp only [Act.put,List.setIfInBounds_toArray,List.set_cons_zero,List.set_cons_succ,Bd',Cd']
    rfl
   refine pa_ 21 24 (bz_ 30 4194303) ?_
   refine pa_ 22 25 (bz_ 30 8388607) ?_
   refine Td' (i:=23) (N:=none) (bz_ 30 16777215) rfl rfl da' ba' (fun K hK=>?_)
   have hce:=HF3.o.cell4
   have HF4:=qz.mk (HF3.o.st3)
   refine Id' (w1:=?_) ca' rfl ?_ ?_
   rotate_left
   ·go_simp
    rfl
   clear hce
   refine hK.out _ _ (HF4.o.cell) (fun hHeld=>?_)
   clear hK K
   refine pa_ 24 26 (bz_ 30 33554431) ?_
   refine pa_ 25 27 (bz_ 30 67108863) ?_
   refine Td' (i:=26) (N:=none) (bz_ 30 134217727) rfl rfl da' ba' (fun K hK=>?_)
   have hce:=HF4.o.cell5
   have HF5:=qz.mk (HF4.o.st4)
   refine Id' (w1:=?_) ca' rfl ?_ ?_
   rotate_left
   ·go_simp
    rfl
   clear hce
   refine hK.out _ _ (HF5.o.cell) (fun hHeld=>?_)
   clear hK K
   exact zd' ua' (hCont ((A11,c11),(A17,c17),(A23,c23)) _ HF5.o)
  skip
  refine Kd.R_make_step (Kd.int .i64) _ 3 ca' (N:=23) rfl 27 _ _ rfl (s.nd.length : Int) ca' ca' Tryz.underlying27 (.int .i64 0) 8 Ud' rfl ba' aa' 0 (ok:=fun _=>True) (okp:=fun _=>True) rfl (fun _ hk=>hk) trivial aa' ka' (Below.refl _ _) (Nat.le_refl _) ?_
  intro v23 wm0 ho hb _ _
  rw [Int.toNat_natCast] at ho
  obtain ⟨A23,c23,e_⟩:=Kd.R_slice ho
  rw [List.length_replicate] at e_
  subst e_
  have HF1:=qz.mk (HF0.o.make5 ho hb)
  clear ho hb
  refine hK.out _ _ (HF1.o.cell) (fun hHeld=>?_)
  clear hK K
  refine zd' (a':=?_) ?_ ?_
  rotate_left
  ·show Act.put _ (some 23) _ = _
   simp only [Act.put,List.setIfInBounds_toArray,List.set_cons_zero,List.set_cons_succ,Bd',Cd']
   rfl
  refine Vg' (i:=8) (j:=14) (Ni:=some 11) (Nj:=some 17) (bz_ 30 2080767) (bz_ 30 2096895) rfl rfl rfl rfl da' ba' ba' (fun K hK=>?_) (fun K hK=>?_)
  ·skip
   refine Kd.R_make_step (Kd.int .i64) _ 3 ca' (N:=11) rfl 27 _ _ rfl (s.nd.length : Int) ca' ca' Tryz.underlying27 (.int .i64 0) 8 Ud' rfl ba' aa' 0 (ok:=fun _=>True) (okp:=fun _=>True) rfl (fun _ hk=>hk) trivial aa' ka' (Below.refl _ _) (Nat.le_refl _) ?_
   intro v11 wm1 ho hb _ _
   rw [Int.toNat_natCast] at ho
   obtain ⟨A11,c11,e_⟩:=Kd.R_slice ho
   rw [List.length_replicate] at e_
   subst e_
   have HF2:=qz.mk (HF1.o.make3 ho hb)
   clear ho hb
   refine hK.out _ _ (HF2.o.cell) (fun hHeld=>?_)
   clear hK K
   refine zd' (a':=?_) ?_ ?_
   rotate_left
   ·show Act.put _ (some 11) _ = _
    simp only [Act.put,List.setIfInBounds_toArray,List.set_cons_zero,List.set_cons_succ,Bd',Cd']
    rfl
   refine pa_ 21 24 (bz_ 30 4177919) ?_
   refine pa_ 22 25 (bz_ 30 8372223) ?_
   refine Vg' (i:=14) (j:=23) (Ni:=some 17) (Nj:=none) (bz_ 30 8388607) (bz_ 30 16760831) rfl rfl rfl rfl da' ba' ba' (fun K hK=>?_) (fun K hK=>?_)
   ·skip
    refine Kd.R_make_step (Kd.int .i64) _ 3 ca' (N:=17) rfl 27 _ _ rfl (s.nd.length : Int) ca' ca' Tryz.underlying27 (.int .i64 0) 8 Ud' rfl ba' aa' 0 (ok:=fun _=>True) (okp:=fun _=>True) rfl (fun _ hk=>hk) trivial aa' ka' (Below.refl _ _) (Nat.le_refl _) ?_
    intro v17 wm2 ho hb _ _
    rw [Int.toNat_natCast] at ho
    obtain ⟨A17,c17,e_⟩:=Kd.R_slice ho
    rw [List.length_replicate] at e_
    subst e_
    have HF3:=qz.mk (HF2.o.make4 ho hb)
    clear ho hb
    refine hK.out _ _ (HF3.o.cell) (fun hHeld=>?_)
    clear hK K
    refine zd' (a':=?_) ?_ ?_
    rotate_left
    ·show Act.put _ (some 17) _ = _
     simp only [Act.put,List.setIfInBounds_toArray,List.set_cons_zero,List.set_cons_succ,Bd',Cd']
     rfl
    refine Td' (i:=23) (N:=none) (bz_ 30 16777215) rfl rfl da' ba' (fun K hK=>?_)
    have hce:=HF3.o.cell4
    have HF4:=qz.mk (HF3.o.st3)
    refine Id' (w1:=?_) ca' rfl ?_ ?_
    rotate_left
    ·go_simp
     rfl
    clear hce
    refine hK.out _ _ (HF4.o.cell) (fun hHeld=>?_)
    clear hK K
    refine pa_ 24 26 (bz_ 30 33554431) ?_
    refine pa_ 25 27 (bz_ 30 67108863) ?_
    refine Td' (i:=26) (N:=none) (bz_ 30 134217727) rfl rfl da' ba' (fun K hK=>?_)
    have hce:=HF4.o.cell5
    have HF5:=qz.mk (HF4.o.st4)
    refine Id' (w1:=?_) ca' rfl ?_ ?_
    rotate_left
    ·go_simp
     rfl
    clear hce
    refine hK.out _ _ (HF5.o.cell) (fun hHeld=>?_)
    clear hK K
    exact zd' ua' (hCont ((A11,c11),(A17,c17),(A23,c23)) _ HF5.o)
   skip
   have hce:=HF2.o.cell4
   have HF3:=qz.mk (HF2.o.st3)
   refine Id' (w1:=?_) ca' rfl ?_ ?_
   rotate_left
   ·go_simp
    rfl
   clear hce
   refine hK.out _ _ (HF3.o.cell) (fun hHeld=>?_)
   clear hK K
   refine Td' (i:=14) (N:=some 17) (bz_ 30 16777215) rfl rfl da' ba' (fun K hK=>?_)
   refine Kd.R_make_step (Kd.int .i64) _ 3 ca' (N:=17) rfl 27 _ _ rfl (s.nd.length : Int) ca' ca' Tryz.underlying27 (.int .i64 0) 8 Ud' rfl ba' aa' 0 (ok:=fun _=>True) (okp:=fun _=>True) rfl (fun _ hk=>hk) trivial aa' ka' (Below.refl _ _) (Nat.le_refl _) ?_
   intro v17 wm3 ho hb _ _
   rw [Int.toNat_natCast] at ho
   obtain ⟨A17,c17,e_⟩:=Kd.R_slice ho
   rw [List.length_replicate] at e_
   subst e_
   have HF4:=qz.mk (HF3.o.make4 ho hb)
   clear ho hb
   refine hK.out _ _ (HF4.o.cell) (fun hHeld=>?_)
   clear hK K
   refine zd' (a':=?_) ?_ ?_
   rotate_left
   ·show Act.put _ (some 17) _ = _
    simp only [Act.put,List.setIfInBounds_toArray,List.set_cons_zero,List.set_cons_succ,Bd',Cd']
    rfl
   refine pa_ 24 26 (bz_ 30 33554431) ?_
   refine pa_ 25 27 (bz_ 30 67108863) ?_
   refine Td' (i:=26) (N:=none) (bz_ 30 134217727) rfl rfl da' ba' (fun K hK=>?_)
   have hce:=HF4.o.cell5
   have HF5:=qz.mk (HF4.o.st4)
   refine Id' (w1:=?_) ca' rfl ?_ ?_
   rotate_left
   ·go_simp
    rfl
   clear hce
   refine hK.out _ _ (HF5.o.cell) (fun hHeld=>?_)
   clear hK K
   exact zd' ua' (hCont ((A11,c11),(A17,c17),(A23,c23)) _ HF5.o)
  skip
  refine Kd.R_make_step (Kd.int .i64) _ 3 ca' (N:=17) rfl 27 _ _ rfl (s.nd.length : Int) ca' ca' Tryz.underlying27 (.int .i64 0) 8 Ud' rfl ba' aa' 0 (ok:=fun _=>True) (okp:=fun _=>True) rfl (fun _ hk=>hk) trivial aa' ka' (Below.refl _ _) (Nat.le_refl _) ?_
  intro v17 wm1 ho hb _ _
  rw [Int.toNat_natCast] at ho
  obtain ⟨A17,c17,e_⟩:=Kd.R_slice ho
  rw [List.length_replicate] at e_
  subst e_
  have HF2:=qz.mk (HF1.o.make4 ho hb)
  clear ho hb
  refine hK.out _ _ (HF2.o.cell) (fun hHeld=>?_)
  clear hK K
  refine zd' (a':=?_) ?_ ?_
  rotate_left
  ·show Act.put _ (some 17) _ = _
   simp only [Act.put,List.setIfInBounds_toArray,List.set_cons_zero,List.set_cons_succ,Bd',Cd']
   rfl
  refine Td' (i:=8) (N:=some 11) (bz_ 30 2097151) rfl rfl da' ba' (fun K hK=>?_)
  refine Kd.R_make_step (Kd.int .i64) _ 3 ca' (N:=11) rfl 27 _ _ rfl (s.nd.length : Int) ca' ca' Tryz.underlying27 (.int .i64 0) 8 Ud' rfl ba' aa' 0 (ok:=fun _=>True) (okp:=fun _=>True) rfl (fun _ hk=>hk) trivial aa' ka' (Below.refl _ _) (Nat.le_refl _) ?_
  intro v11 wm2 ho hb _ _
  rw [Int.toNat_natCast] at ho
  obtain ⟨A11,c11,e_⟩:=Kd.R_slice ho
  rw [List.length_replicate] at e_
  subst e_
  have HF3:=qz.mk (HF2.o.make3 ho hb)
  clear ho hb
  refine hK.out _ _ (HF3.o.cell) (fun hHeld=>?_)
  clear hK K
  refine zd' (a':=?_) ?_ ?_
  rotate_left
  ·show Act.put _ (some 11) _ = _
   simp only [Act.put,List.setIfInBounds_toArray,List.set_cons_zero,List.set_cons_succ,Bd',Cd']
   rfl
  refine pa_ 21 24 (bz_ 30 4194303) ?_
  refine pa_ 22 25 (bz_ 30 8388607) ?_
  refine Td' (i:=23) (N:=none) (bz_ 30 16777215) rfl rfl da' ba' (fun K hK=>?_)
  have hce:=HF3.o.cell4
  have HF4:=qz.mk (HF3.o.st3)
  refine Id' (w1:=?_) ca' rfl ?_ ?_
  rotate_left
  ·go_simp
   rfl
  clear hce
  refine hK.out _ _ (HF4.o.cell) (fun hHeld=>?_)
  clear hK K
  refine pa_ 24 26 (bz_ 30 33554431) ?_
  refine pa_ 25 27 (bz_ 30 67108863) ?_
  refine Td' (i:=26) (N:=none) (bz_ 30 134217727) rfl rfl da' ba' (fun K hK=>?_)
  have hce:=HF4.o.cell5
  have HF5:=qz.mk (HF4.o.st4)
  refine Id' (w1:=?_) ca' rfl ?_ ?_
  rotate_left
  ·go_simp
   rfl
  clear hce
  refine hK.out _ _ (HF5.o.cell) (fun hHeld=>?_)
  clear hK K
  exact zd' ua' (hCont ((A11,c11),(A17,c17),(A23,c23)) _ HF5.o)
 rintro ⟨⟨A11,c11⟩,⟨A17,c17⟩,⟨A23,c23⟩⟩ w4 hF
 have HF:=qz.mk hF
 clear hF
 have hHeld : w4.cell? ⟨g,3,none⟩ = some (.slice An s.nd.length cn):=HF.o.cell
 refine zd' (a':=?_) ?_ ?_
 rotate_left
 ·simp only [bi',Act.put,List.setIfInBounds_toArray,List.set_cons_zero,List.set_cons_succ]
  rfl
 refine pa_ 27 28 (bz_ 30 268435455) ?_
 refine pa_ 28 29 (bz_ 30 536870911) ?_
 refine de' (i:=29) (N:=none) (bz_ 30 1073741823) rfl rfl da' ba' (fun K hK=>?_)
 have hce:=HF.o.cell6
 refine Id' (w1:=?_) ca' rfl ?_ ?_
 rotate_left
 ·go_simp
  rfl
 refine hK.out _ _ ?_
 clear hK K
 refine Wd' da' ?_
 go_wp2_with fail
 have HF2:=qz.mk HF.o.st5
 clear HF HF0 hHeld
 generalize w4.setCell _ _ = w5 at HF2 ⊢
 obtain ⟨col2,hS2,-⟩:=HF2.o
 have HS2:=qz.mk hS2
 clear hS2 HF2 HS
 go_loopg [35] (s.nd.length + 1) (fun kq v35 w'=>∃ (i : Int) (lb ah bk : List Int),v35 = .int .i64 i ∧ qz (0 ≤ i ∧ i + kq = s.nd.length + 1 ∧ i ≤ s.nd.length) ∧ qz (Uf' s.nd kq i lb ah bk = Ge' s.nd) ∧ qz (lb.length = s.nd.length ∧ ah.length = s.nd.length ∧ bk.length = s.nd.length) ∧ qz (Sol w0 w' g N Ae ce es col2 vy (.slice An s.nd.length cn) (.slice A11 s.nd.length c11) (.slice A17 s.nd.length c17) (.slice A23 s.nd.length c23) { s with lb:=lb,ah:=ah,bk:=bk }))
 case atStart=>exact ⟨0,_,_,_,rfl,⟨aa',aa',aa'⟩,⟨rfl⟩,⟨List.length_replicate,List.length_replicate,List.length_replicate⟩,HS2⟩
 clear HS2
 obtain ⟨i,lb,ah,bk,rfl,HI,HT,HL,HS⟩:=hrel
 have h:=HT.o
 clear HT
 cases gk with
 | zero =>
  exfalso
  have h1:=HI.o
  omega
 | succ k1 =>
  rw [Uf'] at h
  by_cases c : i < (s.nd.length : Int)
  ·rw [if_pos c] at h
   have cl0 : decide (i < (s.nd.length : Int)) = true:=decide_eq_true c
   have hi0:=HI.o.1
   have pi:=eq_true hi0
   have qi:=eq_true c
   have HIL:=qz.mk c
   have HIN : qz (inR i s.nd.length):=⟨hi0,c⟩
   have hp0 : 0 < s.nd.length:=by omega
   obtain ⟨bn,_,e_,-⟩:=fe' HS.o.rn hp0
   injection e_ with e_ e2_ e3_
   clear e2_ e3_
   subst e_
   obtain ⟨bl,_,e_,-⟩:=fe' HS.o.rl (by show 0 < lb.length;rw [HL.o.1];exact hp0)
   injection e_ with e_ e2_ e3_
   clear e2_ e3_
   subst e_
   obtain ⟨ba,_,e_,-⟩:=fe' HS.o.ra (by show 0 < ah.length;rw [HL.o.2.1];exact hp0)
   injection e_ with e_ e2_ e3_
   clear e2_ e3_
   subst e_
   obtain ⟨bb,_,e_,-⟩:=fe' HS.o.rb (by show 0 < bk.length;rw [HL.o.2.2];exact hp0)
   injection e_ with e_ e2_ e3_
   clear e2_ e3_
   subst e_
   clear hp0
   have hc:=HS.o.cells
   obtain ⟨xa,fa⟩:=Gd' HS.o.ra i hi0 (by show i < (ah.length : Int);have:=HL.o.2.1;omega)
   obtain ⟨xb,fb⟩:=Gd' HS.o.rb i hi0 Kc'
   have HSa:=qz.mk (HS.o.sa i (-1))
   have HSb:=qz.mk (HSa.o.sb i (-1))
   obtain ⟨xb2,fb2⟩:=Gd' HSa.o.rb i hi0 Kc'
   have hca:=HSa.o.cells
   clear c
   go_wp2_with fail
   refine Md' (n:=14) (S:=fun w'=>w'.cell? ⟨g,5,none⟩ = some (.slice (some ⟨ba,0,none⟩) s.nd.length c17) ∧ w'.cell? ⟨g,6,none⟩ = some (.slice (some ⟨bb,0,none⟩) s.nd.length c23)) (ds:=[13]) (Array.replicate 14 false) da' rfl rfl ⟨hc.2.2.2.2.2.1,hc.2.2.2.2.2.2.1⟩ (fun hHeld=>?_)
   refine pa_ 0 38 (bz_ 14 1) ?_
   refine pa_ 1 39 (bz_ 14 3) ?_
   refine pa_ 2 40 (bz_ 14 7) ?_
   refine pa_ 4 42 (bz_ 14 23) ?_
   refine pa_ 5 43 (bz_ 14 55) ?_
   refine pa_ 6 44 (bz_ 14 119) ?_
   refine pa_ 7 45 (bz_ 14 247) ?_
   refine pa_ 9 47 (bz_ 14 759) ?_
   refine ta_ 3 41 (bz_ 14 767) hHeld (hy:=Or.inl ⟨ca',ja'⟩) (h:=?_)
   refine ta_ 8 46 (bz_ 14 1023) hHeld (hy:=Or.inl ⟨ca',ja'⟩) (h:=?_)
   refine pa_ 10 48 (bz_ 14 2047) ?_
   refine Td' (i:=11) (N:=none) (bz_ 14 4095) rfl rfl da' ba' (fun K hK=>?_)
   refine Id' (w1:=?_) ca' rfl ?_ ?_
   rotate_left
   ·go_simp
    rfl
   refine hK.out _ _ ⟨hca.2.2.2.2.2.1,hca.2.2.2.2.2.2.1⟩ (fun hHeld=>?_)
   clear hK K
   refine pa_ 12 49 (bz_ 14 8191) ?_
   refine de' (i:=13) (N:=none) (bz_ 14 16383) rfl rfl da' ba' (fun K hK=>?_)
   refine Id' (w1:=?_) ca' rfl ?_ ?_
   rotate_left
   ·go_simp
    rfl
   refine hK.out _ _ ?_
   clear hK K
   refine Wd' da' ?_
   replace HSb:=qz.mk (HSb.o.to (qh (Below.refl _ _)))
   clear xa fa xb fb xb2 fb2 hc hca HSa HS
   generalize ((wr.setCell _ _).setCell _ _).drew = w6 at HSb ⊢
   have hc:=HSb.o.cells
   obtain ⟨A0n,c0n,A1n,c1n,nx0,nx1,nx2,nx3,nx4,nx5,nx6,nf2,nf3,nf5,nf6,-⟩:=HSb.o.node_at i hi0 (of_eq_true qi)
   obtain ⟨xl,fl⟩:=Gd' HSb.o.rl i hi0 (by show i < (lb.length : Int);have:=HL.o.1;have:=HIL.o;omega)
   have HSl:=qz.mk (HSb.o.sl i 1)
   by_cases ct : Dd' (td' s.nd i) = true ∧ (td' s.nd i).f3 = -1
   ·rw [if_pos ct] at h
    have HT:=qz.mk h
    obtain ⟨ct1,ct2⟩:=ct
    have cm : ((td' s.nd i).f3 == -1) = true:=by simpa using ct2
    clear h ct2
    go_wp2_with (first|(go_at_call 53;(with_reducible refine (me' HSb.o i true HIN.o ct1).mono ?_);rintro e w7 ⟨rfl,h2⟩;replace h2:=h2.symm;subst h2))
    go_roundg k1
    case measure=>omega
    case rel=>exact ⟨i + 1,_,_,_,Da',⟨aa',fa',ga'⟩,HT,⟨by rw [List.length_set];exact HL.o.1,oc',Rb'⟩,HSl⟩
   rw [if_neg ct] at h
   have HT:=qz.mk h
   clear h
   by_cases ct1 : Dd' (td' s.nd i) = true
   ·have ct2 : ((td' s.nd i).f3 == -1) = false:=by
     have : ¬ (td' s.nd i).f3 = -1:=fun h=>ct ⟨ct1,h⟩
     simpa using this
    clear ct
    go_wp2_with (first|(go_at_call 53;(with_reducible refine (me' HSb.o i true HIN.o ct1).mono ?_);rintro e w7 ⟨rfl,h2⟩;replace h2:=h2.symm;subst h2))
    go_roundg k1
    case measure=>omega
    case rel=>exact ⟨i + 1,_,_,_,Da',⟨aa',fa',ga'⟩,HT,⟨HL.o.1,oc',Rb'⟩,HSb⟩
   replace ct1 : Dd' (td' s.nd i) = false:=by simpa using ct1
   clear ct
   go_wp2_with (first|(go_at_call 53;(with_reducible refine (me' HSb.o i false HIN.o ct1).mono ?_);rintro e w7 ⟨rfl,h2⟩;replace h2:=h2.symm;subst h2))
   go_roundg k1
   case measure=>omega
   case rel=>exact ⟨i + 1,_,_,_,Da',⟨aa',fa',ga'⟩,HT,⟨HL.o.1,oc',Rb'⟩,HSb⟩
  rw [if_neg c] at h
  have cl0 : decide (i < (s.nd.length : Int)) = false:=decide_eq_false c
  clear c
  go_wp2_with fail
  go_end0
  rw [← h]
  exact ⟨rfl,_,_,_,_,HS.o⟩
end Go.Proofs.YtnffimpoekjkpaaGreat.QFnExactSolve
