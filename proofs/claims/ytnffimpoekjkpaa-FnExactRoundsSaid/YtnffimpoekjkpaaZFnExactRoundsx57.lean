/- The reference's solver: l10Label. -/
import Derived.Test.YtnffimpoekjkpaaZFnExactRoundsx56
namespace Go.Proofs.Ytnffimpoekjkpaa.QFnExactRounds
open Go.RowKit Go.Proofs.YtnffimpoekjkpaaW.PrintWords Go.Proofs.YtnffimpoekjkpaaW.PrintLast Go.Proofs.YtnffimpoekjkpaaW.PrintMore
attribute [local go_sem] max2_int min2_int max_two min_two max_three min_three max_four min_four
set_option linter.unusedVariables false
set_option linter.unusedSimpArgs false
theorem link_at {W : World} {base b n c : Nat} {ok : Nat → Prop} {xs : List S77} (h : Kd.R k77 77 W base ok (.slice (some ⟨b,0,none⟩) n c) xs) (i : Int) (h0 : 0 ≤ i) (h1 : i < (xs.length : Int)) :
  W.cell? ⟨b,i.toNat * 2,none⟩ = some (.int .i64 (rd_T77 xs i).f0) ∧ W.cell? ⟨b,i.toNat * 2 + 1,none⟩ = some (.int .i64 (rd_T77 xs i).f1) ∧ W.frozen? ⟨b,i.toNat * 2,none⟩ = false ∧ W.frozen? ⟨b,i.toNat * 2 + 1,none⟩ = false:=by
 have hn:=(Kd.R_reads' h).1
 obtain ⟨cl,hcl,hM,hcc,hfr⟩:=Kd.R_elem h z77 i h0 (by omega)
 have e:=k77_openM hM
 have hcc' : ∀ j u,cl[j]? = some u → W.cell? ⟨b,i.toNat * 2 + j,none⟩ = some u:=hcc
 rw [e] at hcc'
 exact ⟨hcc' 0 _ rfl,hcc' 1 _ rfl,hfr 0,hfr 1⟩
theorem Tp.lower {W : World} {base base' gt : Nat} {col : Nat → Nat} {vl va vr : Value} {t : TI} (h : Tp W base gt col vl va vr t) (hb : base' ≤ base) : Tp W base' gt col vl va vr t :=
 ⟨h.blk,Nat.le_trans hb h.ge,h.cg,Kd.R_lower h.rl hb,Kd.R_lower h.ra hb,Kd.R_lower h.rr hb⟩
/-- Rows of zeros that are made and not yet in a struct. -/
def Mk3 (W W' : World) (col : Nat → Nat) (n : Nat) (o4 o5 o6 : Option Value) : Prop :=
 ∃ col' : Nat → Nat,(∀ k,k < W.heap.size → col' k = col k) ∧ Below W.heap.size W W' ∧ (∀ v,o4 = some v → Kd.R (Kd.int .i64) 3 W' W.heap.size (fun k=>col' k = 4) v (List.replicate n 0)) ∧ (∀ v,o5 = some v → Kd.R k77 77 W' W.heap.size (fun k=>col' k = 5) v (List.replicate n ⟨0,0⟩)) ∧ (∀ v,o6 = some v → Kd.R (Kd.int .i64) 3 W' W.heap.size (fun k=>col' k = 6) v (List.replicate n 0))
section
variable {W W' W1 : World} {col : Nat → Nat} {n : Nat} {o4 o5 o6 : Option Value} {v : Value}
theorem mk_recol {α : Type} {d : Kd α} {e base c c' m : Nat} {col' : Nat → Nat} {o : Option Value} {xs : List α} (h : ∀ v,o = some v → d.R e W' base (fun k=>col' k = c) v xs) (hb : Below W'.heap.size W' W1) (hm : m = W'.heap.size) : ∀ v,o = some v → d.R e W1 base (fun k=>(if m ≤ k then c' else col' k) = c) v xs :=
 fun v hv=>Kd.R_below (Kd.R_mono (Kd.R_bound (h v hv)) (by rintro k ⟨h1,_,h2,_⟩;rw [if_neg (by omega)];exact h1)) hb
theorem mk_col {m c : Nat} {col' : Nat → Nat} (hc : ∀ k,k < W.heap.size → col' k = col k) (hs : W.heap.size ≤ m) : ∀ k,k < W.heap.size → (if m ≤ k then c else col' k) = col k:=fun k hk=>by rw [if_neg (by omega)];exact hc k hk
theorem Mk3.make4 (h : Mk3 W W' col n none o5 o6) (ho : Kd.R (Kd.int .i64) 3 W1 W'.heap.size (fun _=>True) v (List.replicate n 0)) (hb : Below W'.heap.size W' W1) : Mk3 W W1 col n (some v) o5 o6:=by
 obtain ⟨col',hc,hB,h4,h5,h6⟩:=h
 exact ⟨fun k=>if W'.heap.size ≤ k then 4 else col' k,mk_col hc hB.size,qx hB hb,fun u hu=>by cases hu;exact new_rowK ho hB.size 4,mk_recol h5 hb rfl,mk_recol h6 hb rfl⟩
theorem Mk3.make5 (h : Mk3 W W' col n o4 none o6) (ho : Kd.R k77 77 W1 W'.heap.size (fun _=>True) v (List.replicate n ⟨0,0⟩)) (hb : Below W'.heap.size W' W1) : Mk3 W W1 col n o4 (some v) o6:=by
 obtain ⟨col',hc,hB,h4,h5,h6⟩:=h
 exact ⟨fun k=>if W'.heap.size ≤ k then 5 else col' k,mk_col hc hB.size,qx hB hb,mk_recol h4 hb rfl,fun u hu=>by cases hu;exact new_rowK ho hB.size 5,mk_recol h6 hb rfl⟩
theorem Mk3.make6 (h : Mk3 W W' col n o4 o5 none) (ho : Kd.R (Kd.int .i64) 3 W1 W'.heap.size (fun _=>True) v (List.replicate n 0)) (hb : Below W'.heap.size W' W1) : Mk3 W W1 col n o4 o5 (some v):=by
 obtain ⟨col',hc,hB,h4,h5,h6⟩:=h
 exact ⟨fun k=>if W'.heap.size ≤ k then 6 else col' k,mk_col hc hB.size,qx hB hb,mk_recol h4 hb rfl,mk_recol h5 hb rfl,fun u hu=>by cases hu;exact new_rowK ho hB.size 6⟩
theorem Mk3.box {v4 v5 v6 : Value} (h : Mk3 W W' col n (some v4) (some v5) (some v6)) : ∃ col' : Nat → Nat,(∀ k,k < W.heap.size → col' k = col k) ∧ Below W.heap.size W (W'.alloc (.cells #[v4,v5,v6] 68)) ∧ Tp (W'.alloc (.cells #[v4,v5,v6] 68)) W.heap.size W'.heap.size col' v4 v5 v6 ⟨List.replicate n 0,List.replicate n ⟨0,0⟩,List.replicate n 0⟩:=by
 obtain ⟨col',hc,hB,h4,h5,h6⟩:=h
 have hb:=qo (Below.refl W'.heap.size W') (.cells #[v4,v5,v6] 68)
 exact ⟨fun k=>if W'.heap.size ≤ k then 7 else col' k,mk_col hc hB.size,qx hB hb,blk_new W' _,hB.size,if_pos (Nat.le_refl _),mk_recol h4 hb rfl v4 rfl,mk_recol h5 hb rfl v5 rfl,mk_recol h6 hb rfl v6 rfl⟩
end
/-- The labels at the start, from a node on. -/
def startF (nd : List S55) (mt : List S77) : Nat → Int → TI → TI
 | 0,_,t=>t
 | k + 1,i,t=>if i < (nd.length : Int) then startF nd mt k (i + 1) (if isTop5 (rd_T55 nd i) = true ∧ (mateL (cvs nd) i mt).2 = false then { t with lb:=t.lb.set i.toNat 1,rt:=t.rt.set i.toNat i } else t) else t
def zeroT (n : Nat) : TI:=⟨List.replicate n 0,List.replicate n ⟨0,0⟩,List.replicate n 0⟩
def startT (nd : List S55) (mt : List S77) : TI:=startF nd mt (nd.length + 1) 0 (zeroT nd.length)
/-- An edge that is passed over. -/
def skipP (N : Int) (y : List Int) (nd : List S60) (lb : List Int) (x : S51) : Prop :=
 topI nd x.f0 = topI nd x.f1 ∨ slackS N y nd x ≠ 0 ∨ (rd lb (topI nd x.f0) ≠ 1 ∧ rd lb (topI nd x.f1) ≠ 1) ∨ rd lb (topI nd x.f0) = 2 ∨ rd lb (topI nd x.f1) = 2
instance (N : Int) (y : List Int) (nd : List S60) (lb : List Int) (x : S51) : Decidable (skipP N y nd lb x):=by unfold skipP;infer_instance
def scanF (N : Int) (y : List Int) (nd : List S60) (lb : List Int) (es : List S51) : Nat → Int → Int
 | 0,_=>-1
 | k + 1,i=>if i < (es.length : Int) then if skipP N y nd lb (rd_T51 es i) then scanF N y nd lb es k (i + 1) else i else -1
def growT (t : TI) (a b : Int) (l m : S77) (c : Int) : TI :=
 { lb:=(t.lb.set b.toNat 2).set c.toNat 1,ah:=(t.ah.set b.toNat l).set c.toNat m,rt:=(t.rt.set b.toNat (rd t.rt a)).set c.toNat (rd (t.rt.set b.toNat (rd t.rt a)) a) }
def nextT (nd : List S60) (mt : List S77) (t : TI) (a b : Int) (l : S77) : TI:=growT t a b l (mateL nd b mt).1 (topI nd (mateL nd b mt).1.f1)
def linkT (nd : List S60) (mt : List S77) (t : TI) (x : S51) : TI :=
 if rd t.lb (topI nd x.f0) = 1 then nextT nd mt t (topI nd x.f0) (topI nd x.f1) ⟨x.f0,x.f1⟩ else nextT nd mt t (topI nd x.f1) (topI nd x.f0) ⟨x.f1,x.f0⟩
def labelF (N : Int) (y : List Int) (nd : List S60) (mt : List S77) (es : List S51) : Nat → TI → Option (TI × Int)
 | 0,_=>none
 | k + 1,t =>
  if scanF N y nd t.lb es (es.length + 1) 0 = -1 then some (t,-1)
  else if rd t.lb (topI nd (rd_T51 es (scanF N y nd t.lb es (es.length + 1) 0)).f0) = 1 ∧ rd t.lb (topI nd (rd_T51 es (scanF N y nd t.lb es (es.length + 1) 0)).f1) = 1 then some (t,scanF N y nd t.lb es (es.length + 1) 0)
  else labelF N y nd mt es k (linkT nd mt t (rd_T51 es (scanF N y nd t.lb es (es.length + 1) 0)))
theorem mateL_in {nd : List S60} {t : Int} : ∀ {mt : List S77},(∀ x ∈ mt,inR x.f0 nd.length ∧ inR x.f1 nd.length) → 0 < nd.length → inR (mateL nd t mt).1.f0 nd.length ∧ inR (mateL nd t mt).1.f1 nd.length
 | [],_,h0=>⟨⟨Int.le_refl 0,by show (0 : Int) < _;omega⟩,⟨Int.le_refl 0,by show (0 : Int) < _;omega⟩⟩
 | x :: l,hm,h0=>by
  rw [mateL]
  split
  ·exact hm x List.mem_cons_self
  split
  ·exact (hm x List.mem_cons_self).symm
  exact mateL_in (fun y hy=>hm y (List.mem_cons_of_mem _ hy)) h0
set_option maxHeartbeats 8000000 in
set_option maxRecDepth 100000 in
theorem l10Label_calls {w0 W : World} {Z : Nat → Prop} {wz : World} {g : Nat} {N : Int} {Ae : Option Addr} {ce : Nat} {es : List (S51)} {col : Nat → Nat} {vy vn vm : Value} {s : RI} (hS : Rn w0 W Z wz g N Ae ce es col vy vn vm s) (hw : WFn (cvs s.nd)) (hm : ∀ x ∈ s.mt,inR x.f0 s.nd.length ∧ inR x.f1 s.nd.length) (hsm : s.mt.length ≤ 1000000) (hsz : s.nd.length ≤ 1000000) (ho : EOk es s.nd.length) (hoy : EOk es s.y.length) (hN : 0 ≤ N) (k : Nat) (T : TI) (r : Int)
  (h : labelF N s.y (cvs s.nd) s.mt es k (startT s.nd s.mt) = some (T,r)) :
  Calls Try.prog 26 #[.pointer (some ⟨g,0,none⟩)] W fun e w'=>∃ (gt : Nat) (col' : Nat → Nat) (vl va vr : Value),e = .returned (.tuple #[.pointer (some ⟨gt,0,none⟩),.int .i64 r]) ∧ Tp w' w0.heap.size gt col' vl va vr T ∧ (∀ k,k < W.heap.size → col' k = col k) ∧ Below W.heap.size W w' ∧ (T.lb.length = s.nd.length ∧ T.ah.length = s.nd.length ∧ T.rt.length = s.nd.length):=by
 have hu39:=Try.underlying39
 have hu55:=Try.underlying55
 have hu77:=Try.underlying77
 have hu51:=Try.underlying51
 have hu29:=Try.underlying29
 have HS:=qy.mk hS
 clear hS
 have hu35:=Try.underlying35
 have hu37:=Try.underlying37
 have hu68:=Try.underlying68
 obtain ⟨An,cn,e_⟩:=Kd.R_slice HS.out.rn
 subst e_
 have H0:=qy.mk (And.intro hsm hsz)
 have HW:=qy.mk hw
 have HM:=qy.mk hm
 have HE:=qy.mk (And.intro ho hoy)
 have HN:=qy.mk hN
 have HT:=qy.mk h
 have hc:=HS.out.cells
 have HF0 : qy (Mk3 W W.drew col s.nd.length none none none):=⟨⟨col,fun _ _=>rfl,qh (Below.refl _ _),(fun _ h=>nomatch h),(fun _ h=>nomatch h),(fun _ h=>nomatch h)⟩⟩
 clear hw hm hsm hsz ho hoy hN h
 go_enter Try.func26,Try.ntmps26
 go_upto_region 2 with fail
 refine start_ (n:=9) (S:=fun w'=>True) (ds:=[7]) (Array.replicate 9 false) (by kernel_rfl) rfl rfl trivial (fun hHeld=>?_)
 refine pa_ 0 23 (bz_ 9 1) ?_
 refine pa_ 2 25 (bz_ 9 5) ?_
 refine pa_ 4 27 (bz_ 9 21) ?_
 refine join_ (σ:=(Option Addr × Nat) × (Option Addr × Nat) × (Option Addr × Nat)) 3 (bz_ 9 63) (fun z=>[(24,.slice z.1.1 s.nd.length z.1.2),(26,.slice z.2.1.1 s.nd.length z.2.1.2),(28,.slice z.2.2.1 s.nd.length z.2.2.2)]) (fun z w'=>Mk3 W w' col s.nd.length (some (.slice z.1.1 s.nd.length z.1.2)) (some (.slice z.2.1.1 s.nd.length z.2.1.2)) (some (.slice z.2.2.1 s.nd.length z.2.2.2))) ?_ ?_
 rotate_left
 ·intro hCont
  refine three_ (i:=1) (j:=3) (k:=5) (Ni:=some 24) (Nj:=some 26) (Nk:=some 28) (bz_ 9 23) (bz_ 9 29) (bz_ 9 53) rfl rfl rfl rfl rfl rfl (by kernel_rfl) (by decide) (by decide) (by decide) (fun K hK=>?_) (fun K hK=>?_) (fun K hK=>?_)
  ·skip
   refine Kd.R_make_step (Kd.int .i64) _ 3 (by rfl) (N:=24) rfl 35 _ _ rfl (s.nd.length : Int) (by rfl) (by rfl) Try.underlying35 (.int .i64 0) 8 info3 rfl (by decide) (by omega) 0 (ok:=fun _=>True) (okp:=fun _=>True) rfl (fun _ hk=>hk) trivial (by omega) (by have:=H0.out.2;omega) (Below.refl _ _) (Nat.le_refl _) ?_
   intro v24 wm0 ho hb _ _
   rw [Int.toNat_natCast] at ho
   obtain ⟨A24,c24,e_⟩:=Kd.R_slice ho
   rw [List.length_replicate] at e_
   subst e_
   have HF1:=qy.mk (HF0.out.make4 ho hb)
   clear ho hb
   refine hK.out _ _ trivial (fun hHeld=>?_)
   clear hK K
   refine norm_ (a':=?_) ?_ ?_
   rotate_left
   ·show Act.put _ (some 24) _ = _
    simp only [Act.put,List.setIfInBounds_toArray,List.set_cons_zero,List.set_cons_succ,i64_w,i32_w]
    rfl
   refine two_ (i:=3) (j:=5) (Ni:=some 26) (Nj:=some 28) (bz_ 9 31) (bz_ 9 55) rfl rfl rfl rfl (by kernel_rfl) (by decide) (by decide) (fun K hK=>?_) (fun K hK=>?_)
   ·skip
    refine Kd.R_make_step k77 _ 77 (by rfl) (N:=26) rfl 37 _ _ rfl (s.nd.length : Int) (by rfl) (by rfl) Try.underlying37 (.agg #[.int .i64 0,.int .i64 0]) 16 info77 rfl (by decide) (by omega) (⟨0,0⟩ : S77) (ok:=fun _=>True) (okp:=fun _=>True) (k77_mkM _ _ _ (⟨0,0⟩ : S77)) (fun _ hk=>hk) trivial (by omega) (by have:=H0.out.2;omega) (Below.refl _ _) (Nat.le_refl _) ?_
    intro v26 wm1 ho hb _ _
    rw [Int.toNat_natCast] at ho
    obtain ⟨A26,c26,e_⟩:=Kd.R_slice ho
    rw [List.length_replicate] at e_
    subst e_
    have HF2:=qy.mk (HF1.out.make5 ho hb)
    clear ho hb
    refine hK.out _ _ trivial (fun hHeld=>?_)
    clear hK K
    refine norm_ (a':=?_) ?_ ?_
    rotate_left
    ·show Act.put _ (some 26) _ = _
     simp only [Act.put,List.setIfInBounds_toArray,List.set_cons_zero,List.set_cons_succ,i64_w,i32_w]
     rfl
    refine one_ (i:=5) (N:=some 28) (bz_ 9 63) rfl rfl (by kernel_rfl) (by decide) (fun K hK=>?_)
    refine Kd.R_make_step (Kd.int .i64) _ 3 (by rfl) (N:=28) rfl 35 _ _ rfl (s.nd.length : Int) (by rfl) (by rfl) Try.underlying35 (.int .i64 0) 8 info3 rfl (by decide) (by omega) 0 (ok:=fun _=>True) (okp:=fun _=>True) rfl (fun _ hk=>hk) trivial (by omega) (by have:=H0.out.2;omega) (Below.refl _ _) (Nat.le_refl _) ?_
    intro v28 wm2 ho hb _ _
    rw [Int.toNat_natCast] at ho
    obtain ⟨A28,c28,e_⟩:=Kd.R_slice ho
    rw [List.length_replicate] at e_
    subst e_
    have HF3:=qy.mk (HF2.out.make6 ho hb)
    clear ho hb
    refine hK.out _ _ trivial (fun hHeld=>?_)
    clear hK K
    refine norm_ (a':=?_) ?_ ?_
    rotate_left
    ·show Act.put _ (some 28) _ = _
     simp only [Act.put,List.setIfInBounds_toArray,List.set_cons_zero,List.set_cons_succ,i64_w,i32_w]
     rfl
    exact norm_ (by simp only [putAll,Act.put,List.setIfInBounds_toArray,List.set_cons_zero,List.set_cons_succ]) (hCont ((A24,c24),(A26,c26),(A28,c28)) _ HF3.out)
   skip
   refine Kd.R_make_step (Kd.int .i64) _ 3 (by rfl) (N:=28) rfl 35 _ _ rfl (s.nd.length : Int) (by rfl) (by rfl) Try.underlying35 (.int .i64 0) 8 info3 rfl (by decide) (by omega) 0 (ok:=fun _=>True) (okp:=fun _=>True) rfl (fun _ hk=>hk) trivial (by omega) (by have:=H0.out.2;omega) (Below.refl _ _) (Nat.le_refl _) ?_
   intro v28 wm1 ho hb _ _
   rw [Int.toNat_natCast] at ho
   obtain ⟨A28,c28,e_⟩:=Kd.R_slice ho
   rw [List.length_replicate] at e_
   subst e_
   have HF2:=qy.mk (HF1.out.make6 ho hb)
   clear ho hb
   refine hK.out _ _ trivial (fun hHeld=>?_)
   clear hK K
   refine norm_ (a':=?_) ?_ ?_
   rotate_left
   ·show Act.put _ (some 28) _ = _
    simp only [Act.put,List.setIfInBounds_toArray,List.set_cons_zero,List.set_cons_succ,i64_w,i32_w]
    rfl
   refine one_ (i:=3) (N:=some 26) (bz_ 9 63) rfl rfl (by kernel_rfl) (by decide) (fun K hK=>?_)
   refine Kd.R_make_step k77 _ 77 (by rfl) (N:=26) rfl 37 _ _ rfl (s.nd.length : Int) (by rfl) (by rfl) Try.underlying37 (.agg #[.int .i64 0,.int .i64 0]) 16 info77 rfl (by decide) (by omega) (⟨0,0⟩ : S77) (ok:=fun _=>True) (okp:=fun _=>True) (k77_mkM _ _ _ (⟨0,0⟩ : S77)) (fun _ hk=>hk) trivial (by omega) (by have:=H0.out.2;omega) (Below.refl _ _) (Nat.le_refl _) ?_
   intro v26 wm2 ho hb _ _
   rw [Int.toNat_natCast] at ho
   obtain ⟨A26,c26,e_⟩:=Kd.R_slice ho
   rw [List.length_replicate] at e_
   subst e_
   have HF3:=qy.mk (HF2.out.make5 ho hb)
   clear ho hb
   refine hK.out _ _ trivial (fun hHeld=>?_)
   clear hK K
   refine norm_ (a':=?_) ?_ ?_
   rotate_left
   ·show Act.put _ (some 26) _ = _
    simp only [Act.put,List.setIfInBounds_toArray,List.set_cons_zero,List.set_cons_succ,i64_w,i32_w]
    rfl
   exact norm_ (by simp only [putAll,Act.put,List.setIfInBounds_toArray,List.set_cons_zero,List.set_cons_succ]) (hCont ((A24,c24),(A26,c26),(A28,c28)) _ HF3.out)
  ·skip
   refine Kd.R_make_step k77 _ 77 (by rfl) (N:=26) rfl 37 _ _ rfl (s.nd.length : Int) (by rfl) (by rfl) Try.underlying37 (.agg #[.int .i64 0,.int .i64 0]) 16 info77 rfl (by decide) (by omega) (⟨0,0⟩ : S77) (ok:=fun _=>True) (okp:=fun _=>True) (k77_mkM _ _ _ (⟨0,0⟩ : S77)) (fun _ hk=>hk) trivial (by omega) (by have:=H0.out.2;omega) (Below.refl _ _) (Nat.le_refl _) ?_
   intro v26 wm0 ho hb _ _
   rw [Int.toNat_natCast] at ho
   obtain ⟨A26,c26,e_⟩:=Kd.R_slice ho
   rw [List.length_replicate] at e_
   subst e_
   have HF1:=qy.mk (HF0.out.make5 ho hb)
   clear ho hb
   refine hK.out _ _ trivial (fun hHeld=>?_)
   clear hK K
   refine norm_ (a':=?_) ?_ ?_
   rotate_left
   ·show Act.put _ (some 26) _ = _
    simp only [Act.put,List.setIfInBounds_toArray,List.set_cons_zero,List.set_cons_succ,i64_w,i32_w]
    rfl
   refine two_ (i:=1) (j:=5) (Ni:=some 24) (Nj:=some 28) (bz_ 9 31) (bz_ 9 61) rfl rfl rfl rfl (by kernel_rfl) (by decide) (by decide) (fun K hK=>?_) (fun K hK=>?_)
   ·skip
    refine Kd.R_make_step (Kd.int .i64) _ 3 (by rfl) (N:=24) rfl 35 _ _ rfl (s.nd.length : Int) (by rfl) (by rfl) Try.underlying35 (.int .i64 0) 8 info3 rfl (by decide) (by omega) 0 (ok:=fun _=>True) (okp:=fun _=>True) rfl (fun _ hk=>hk) trivial (by omega) (by have:=H0.out.2;omega) (Below.refl _ _) (Nat.le_refl _) ?_
    intro v24 wm1 ho hb _ _
    rw [Int.toNat_natCast] at ho
    obtain ⟨A24,c24,e_⟩:=Kd.R_slice ho
    rw [List.length_replicate] at e_
    subst e_
    have HF2:=qy.mk (HF1.out.make4 ho hb)
    clear ho hb
    refine hK.out _ _ trivial (fun hHeld=>?_)
    clear hK K
    refine norm_ (a':=?_) ?_ ?_
    rotate_left
    ·show Act.put _ (some 24) _ = _
     simp only [Act.put,List.setIfInBounds_toArray,List.set_cons_zero,List.set_cons_succ,i64_w,i32_w]
     rfl
    refine one_ (i:=5) (N:=some 28) (bz_ 9 63) rfl rfl (by kernel_rfl) (by decide) (fun K hK=>?_)
    refine Kd.R_make_step (Kd.int .i64) _ 3 (by rfl) (N:=28) rfl 35 _ _ rfl (s.nd.length : Int) (by rfl) (by rfl) Try.underlying35 (.int .i64 0) 8 info3 rfl (by decide) (by omega) 0 (ok:=fun _=>True) (okp:=fun _=>True) rfl (fun _ hk=>hk) trivial (by omega) (by have:=H0.out.2;omega) (Below.refl _ _) (Nat.le_refl _) ?_
    intro v28 wm2 ho hb _ _
    rw [Int.toNat_natCast] at ho
    obtain ⟨A28,c28,e_⟩:=Kd.R_slice ho
    rw [List.length_replicate] at e_
    subst e_
    have HF3:=qy.mk (HF2.out.make6 ho hb)
    clear ho hb
    refine hK.out _ _ trivial (fun hHeld=>?_)
    clear hK K
    refine norm_ (a':=?_) ?_ ?_
    rotate_left
    ·show Act.put _ (some 28) _ = _
     simp only [Act.put,List.setIfInBounds_toArray,List.set_cons_zero,List.set_cons_succ,i64_w,i32_w]
     rfl
    exact norm_ (by simp only [putAll,Act.put,List.setIfInBounds_toArray,List.set_cons_zero,List.set_cons_succ]) (hCont ((A24,c24),(A26,c26),(A28,c28)) _ HF3.out)
   skip
   refine Kd.R_make_step (Kd.int .i64) _ 3 (by rfl) (N:=28) rfl 35 _ _ rfl (s.nd.length : Int) (by rfl) (by rfl) Try.underlying35 (.int .i64 0) 8 info3 rfl (by decide) (by omega) 0 (ok:=fun _=>True) (okp:=fun _=>True) rfl (fun _ hk=>hk) trivial (by omega) (by have:=H0.out.2;omega) (Below.refl _ _) (Nat.le_refl _) ?_
   intro v28 wm1 ho hb _ _
   rw [Int.toNat_natCast] at ho
   obtain ⟨A28,c28,e_⟩:=Kd.R_slice ho
   rw [List.length_replicate] at e_
   subst e_
   have HF2:=qy.mk (HF1.out.make6 ho hb)
   clear ho hb
   refine hK.out _ _ trivial (fun hHeld=>?_)
   clear hK K
   refine norm_ (a':=?_) ?_ ?_
   rotate_left
   ·show Act.put _ (some 28) _ = _
    simp only [Act.put,List.setIfInBounds_toArray,List.set_cons_zero,List.set_cons_succ,i64_w,i32_w]
    rfl
   refine one_ (i:=1) (N:=some 24) (bz_ 9 63) rfl rfl (by kernel_rfl) (by decide) (fun K hK=>?_)
   refine Kd.R_make_step (Kd.int .i64) _ 3 (by rfl) (N:=24) rfl 35 _ _ rfl (s.nd.length : Int) (by rfl) (by rfl) Try.underlying35 (.int .i64 0) 8 info3 rfl (by decide) (by omega) 0 (ok:=fun _=>True) (okp:=fun _=>True) rfl (fun _ hk=>hk) trivial (by omega) (by have:=H0.out.2;omega) (Below.refl _ _) (Nat.le_refl _) ?_
   intro v24 wm2 ho hb _ _
   rw [Int.toNat_natCast] at ho
   obtain ⟨A24,c24,e_⟩:=Kd.R_slice ho
   rw [List.length_replicate] at e_
   subst e_
   have HF3:=qy.mk (HF2.out.make4 ho hb)
   clear ho hb
   refine hK.out _ _ trivial (fun hHeld=>?_)
   clear hK K
   refine norm_ (a':=?_) ?_ ?_
   rotate_left
   ·show Act.put _ (some 24) _ = _
    simp only [Act.put,List.setIfInBounds_toArray,List.set_cons_zero,List.set_cons_succ,i64_w,i32_w]
    rfl
   exact norm_ (by simp only [putAll,Act.put,List.setIfInBounds_toArray,List.set_cons_zero,List.set_cons_succ]) (hCont ((A24,c24),(A26,c26),(A28,c28)) _ HF3.out)
  skip
  refine Kd.R_make_step (Kd.int .i64) _ 3 (by rfl) (N:=28) rfl 35 _ _ rfl (s.nd.length : Int) (by rfl) (by rfl) Try.underlying35 (.int .i64 0) 8 info3 rfl (by decide) (by omega) 0 (ok:=fun _=>True) (okp:=fun _=>True) rfl (fun _ hk=>hk) trivial (by omega) (by have:=H0.out.2;omega) (Below.refl _ _) (Nat.le_refl _) ?_
  intro v28 wm0 ho hb _ _
  rw [Int.toNat_natCast] at ho
  obtain ⟨A28,c28,e_⟩:=Kd.R_slice ho
  rw [List.length_replicate] at e_
  subst e_
  have HF1:=qy.mk (HF0.out.make6 ho hb)
  clear ho hb
  refine hK.out _ _ trivial (fun hHeld=>?_)
  clear hK K
  refine norm_ (a':=?_) ?_ ?_
  rotate_left
  ·show Act.put _ (some 28) _ = _
   simp only [Act.put,List.setIfInBounds_toArray,List.set_cons_zero,List.set_cons_succ,i64_w,i32_w]
   rfl
  refine two_ (i:=1) (j:=3) (Ni:=some 24) (Nj:=some 26) (bz_ 9 55) (bz_ 9 61) rfl rfl rfl rfl (by kernel_rfl) (by decide) (by decide) (fun K hK=>?_) (fun K hK=>?_)
  ·skip
   refine Kd.R_make_step (Kd.int .i64) _ 3 (by rfl) (N:=24) rfl 35 _ _ rfl (s.nd.length : Int) (by rfl) (by rfl) Try.underlying35 (.int .i64 0) 8 info3 rfl (by decide) (by omega) 0 (ok:=fun _=>True) (okp:=fun _=>True) rfl (fun _ hk=>hk) trivial (by omega) (by have:=H0.out.2;omega) (Below.refl _ _) (Nat.le_refl _) ?_
   intro v24 wm1 ho hb _ _
   rw [Int.toNat_natCast] at ho
   obtain ⟨A24,c24,e_⟩:=Kd.R_slice ho
   rw [List.length_replicate] at e_
   subst e_
   have HF2:=qy.mk (HF1.out.make4 ho hb)
   clear ho hb
   refine hK.out _ _ trivial (fun hHeld=>?_)
   clear hK K
   refine norm_ (a':=?_) ?_ ?_
   rotate_left
   ·show Act.put _ (some 24) _ = _
    simp only [Act.put,List.setIfInBounds_toArray,List.set_cons_zero,List.set_cons_succ,i64_w,i32_w]
    rfl
   refine one_ (i:=3) (N:=some 26) (bz_ 9 63) rfl rfl (by kernel_rfl) (by decide) (fun K hK=>?_)
   refine Kd.R_make_step k77 _ 77 (by rfl) (N:=26) rfl 37 _ _ rfl (s.nd.length : Int) (by rfl) (by rfl) Try.underlying37 (.agg #[.int .i64 0,.int .i64 0]) 16 info77 rfl (by decide) (by omega) (⟨0,0⟩ : S77) (ok:=fun _=>True) (okp:=fun _=>True) (k77_mkM _ _ _ (⟨0,0⟩ : S77)) (fun _ hk=>hk) trivial (by omega) (by have:=H0.out.2;omega) (Below.refl _ _) (Nat.le_refl _) ?_
   intro v26 wm2 ho hb _ _
   rw [Int.toNat_natCast] at ho
   obtain ⟨A26,c26,e_⟩:=Kd.R_slice ho
   rw [List.length_replicate] at e_
   subst e_
   have HF3:=qy.mk (HF2.out.make5 ho hb)
   clear ho hb
   refine hK.out _ _ trivial (fun hHeld=>?_)
   clear hK K
   refine norm_ (a':=?_) ?_ ?_
   rotate_left
   ·show Act.put _ (some 26) _ = _
    simp only [Act.put,List.setIfInBounds_toArray,List.set_cons_zero,List.set_cons_succ,i64_w,i32_w]
    rfl
   exact norm_ (by simp only [putAll,Act.put,List.setIfInBounds_toArray,List.set_cons_zero,List.set_cons_succ]) (hCont ((A24,c24),(A26,c26),(A28,c28)) _ HF3.out)
  skip
  refine Kd.R_make_step k77 _ 77 (by rfl) (N:=26) rfl 37 _ _ rfl (s.nd.length : Int) (by rfl) (by rfl) Try.underlying37 (.agg #[.int .i64 0,.int .i64 0]) 16 info77 rfl (by decide) (by omega) (⟨0,0⟩ : S77) (ok:=fun _=>True) (okp:=fun _=>True) (k77_mkM _ _ _ (⟨0,0⟩ : S77)) (fun _ hk=>hk) trivial (by omega) (by have:=H0.out.2;omega) (Below.refl _ _) (Nat.le_refl _) ?_
  intro v26 wm1 ho hb _ _
  rw [Int.toNat_natCast] at ho
  obtain ⟨A26,c26,e_⟩:=Kd.R_slice ho
  rw [List.length_replicate] at e_
  subst e_
  have HF2:=qy.mk (HF1.out.make5 ho hb)
  clear ho hb
  refine hK.out _ _ trivial (fun hHeld=>?_)
  clear hK K
  refine norm_ (a':=?_) ?_ ?_
  rotate_left
  ·show Act.put _ (some 26) _ = _
   simp only [Act.put,List.setIfInBounds_toArray,List.set_cons_zero,List.set_cons_succ,i64_w,i32_w]
   rfl
  refine one_ (i:=1) (N:=some 24) (bz_ 9 63) rfl rfl (by kernel_rfl) (by decide) (fun K hK=>?_)
  refine Kd.R_make_step (Kd.int .i64) _ 3 (by rfl) (N:=24) rfl 35 _ _ rfl (s.nd.length : Int) (by rfl) (by rfl) Try.underlying35 (.int .i64 0) 8 info3 rfl (by decide) (by omega) 0 (ok:=fun _=>True) (okp:=fun _=>True) rfl (fun _ hk=>hk) trivial (by omega) (by have:=H0.out.2;omega) (Below.refl _ _) (Nat.le_refl _) ?_
  intro v24 wm2 ho hb _ _
  rw [Int.toNat_natCast] at ho
  obtain ⟨A24,c24,e_⟩:=Kd.R_slice ho
  rw [List.length_replicate] at e_
  subst e_
  have HF3:=qy.mk (HF2.out.make4 ho hb)
  clear ho hb
  refine hK.out _ _ trivial (fun hHeld=>?_)
  clear hK K
  refine norm_ (a':=?_) ?_ ?_
  rotate_left
  ·show Act.put _ (some 24) _ = _
   simp only [Act.put,List.setIfInBounds_toArray,List.set_cons_zero,List.set_cons_succ,i64_w,i32_w]
   rfl
  exact norm_ (by simp only [putAll,Act.put,List.setIfInBounds_toArray,List.set_cons_zero,List.set_cons_succ]) (hCont ((A24,c24),(A26,c26),(A28,c28)) _ HF3.out)
 rintro ⟨⟨A24,c24⟩,⟨A26,c26⟩,⟨A28,c28⟩⟩ w4 hF
 have HF:=qy.mk hF
 clear hF
 have hHeld:=True.intro
 refine norm_ (a':=?_) ?_ ?_
 rotate_left
 ·simp only [putAll,Act.put,List.setIfInBounds_toArray,List.set_cons_zero,List.set_cons_succ]
  rfl
 refine pa_ 6 29 (bz_ 9 127) ?_
 refine last_ (i:=7) (N:=some 30) (bz_ 9 255) rfl rfl (by kernel_rfl) (by decide) (fun K hK=>?_)
 refine value_ (w1:=?_) (v:=?_) (by rfl) rfl ?_ ?_
 rotate_left 2
 ·go_simp
  constructor
  ·rfl
  rfl
 refine hK.out _ _ ?_
 clear hK K
 refine norm_ (a':=?_) ?_ ?_
 rotate_left
 ·show Act.put _ (some 30) _ = _
  simp only [Act.put,List.setIfInBounds_toArray,List.set_cons_zero,List.set_cons_succ,i64_w,i32_w]
  rfl
 refine pa_ 8 5 (bz_ 9 511) ?_
 refine done_ (by kernel_rfl) ?_
 obtain ⟨col2,hcl2,hB2,hT2⟩:=HF.out.box
 have HCL:=qy.mk hcl2
 have HB:=qy.mk hB2
 have HTP:=qy.mk hT2
 clear hHeld HF HF0 hc hcl2 hB2 hT2
 generalize w4.alloc _ = w5 at HTP HB ⊢
 generalize w4.heap.size = gt at HTP ⊢
 as_aux_lemma =>
  go_wp2_with fail
  go_loopg [6] (s.nd.length + 1) (fun kq v6 w'=>∃ (i : Int) (t : TI),v6 = .int .i64 i ∧ qy (0 ≤ i ∧ i + kq = s.nd.length + 1 ∧ i ≤ s.nd.length) ∧ qy (startF s.nd s.mt kq i t = startT s.nd s.mt) ∧ qy (t.lb.length = s.nd.length ∧ t.ah.length = s.nd.length ∧ t.rt.length = s.nd.length) ∧ qy (Tp w' W.heap.size gt col2 (.slice A24 s.nd.length c24) (.slice A26 s.nd.length c26) (.slice A28 s.nd.length c28) t) ∧ qy (Below W.heap.size W w'))
  case atStart=>exact ⟨0,_,rfl,⟨by omega,by omega,by omega⟩,⟨rfl⟩,⟨List.length_replicate,List.length_replicate,List.length_replicate⟩,HTP,HB⟩
  clear HTP HB
  obtain ⟨i,t,rfl,HI,HST,HL,HTP,HB⟩:=hrel
  have h:=HST.out
  clear HST
  cases gk with
  | zero =>
   exfalso
   have h1:=HI.out
   omega
  | succ k1 =>
   rw [startF] at h
   by_cases c : i < (s.nd.length : Int)
   ·rw [if_pos c] at h
    have hi:=HI.out
    have cl0 : decide (i < (s.nd.length : Int)) = true:=decide_eq_true c
    have HIL:=qy.mk c
    have hi1 : wrap64 (i + 1) = i + 1:=w64 (by omega) (by have:=H0.out;omega)
    have HIN : qy (inR i s.nd.length):=⟨⟨hi.1,c⟩⟩
    have HS3:=qy.mk (HS.out.to HB.out)
    obtain ⟨m,b,hmb⟩ : ∃ m b,mateL (cvs s.nd) i s.mt = (m,b):=⟨_,_,rfl⟩
    rw [hmb] at h
    have HMC:=qy.mk (fun (b' : Bool) (e : b = b')=>l10Mate_calls HS3.out i m b' HW.out HM.out H0.out.1 (e ▸ hmb))
    have pi:=eq_true hi.1
    have qi:=eq_true c
    have hp0 : 0 < s.nd.length:=by omega
    clear hmb c
    cases b with
    | true =>
     rw [if_neg (by rintro ⟨-,h⟩;cases h)] at h
     have HST:=qy.mk h
     clear h
     as_aux_lemma =>
      go_upto_region 7 with (first|(go_at_call 39;refine (HMC.out true rfl).mono ?_;rintro e_ w6 ⟨rfl,hb⟩;have HB6:=qy.mk hb;clear hb))
      have BXX : qy ((w6.alloc (.cells #[.int .i64 m.f0,.int .i64 m.f1] 77)).heap[w6.heap.size]? = some (.cells #[.int .i64 m.f0,.int .i64 m.f1] 77 (0,0))):=⟨blk_new w6 _⟩
      have HBX : qy (Below w6.heap.size w6 (w6.alloc (.cells #[.int .i64 m.f0,.int .i64 m.f1] 77))):=⟨qo (Below.refl _ _) _⟩
      generalize w6.alloc (.cells #[.int .i64 m.f0,.int .i64 m.f1] 77) = W7 at *
      have HB7:=qy.mk (qx HB.out (qx HB6.out HBX.out))
      have HTP7:=qy.mk (HTP.out.to (qx HB6.out HBX.out))
      have HS7:=qy.mk (HS.out.to HB7.out)
      obtain ⟨b1,hb1⟩ : ∃ b1,isTop5 (rd_T55 s.nd i) = b1:=⟨_,rfl⟩
      have HIT:=qy.mk hb1
      clear hb1
      cases b1 <;>
      ·go_wp2_with (first|(go_at_call 40;(with_reducible refine (l10IsTop_calls HS7.out i _ HIN.out HIT.out).mono ?_);rintro e_ w2 ⟨rfl,h2⟩;replace h2:=h2.symm;subst h2))
       go_roundg k1
       case measure=>omega
       case rel=>exact ⟨i + 1,t,by first|rfl|rw [hi1],⟨by omega,by have:=HI.out;omega,by have:=HIL.out;omega⟩,HST,HL,HTP7,HB7⟩
    | false =>
     cases hb1 : isTop5 (rd_T55 s.nd i) with
     | false =>
      rw [if_neg (by rintro ⟨h,-⟩;rw [hb1] at h;cases h)] at h
      have HST:=qy.mk h
      have HIT:=qy.mk hb1
      clear h hb1
      as_aux_lemma =>
       go_upto_region 7 with (first|(go_at_call 39;refine (HMC.out false rfl).mono ?_;rintro e_ w6 ⟨rfl,hb⟩;have HB6:=qy.mk hb;clear hb))
       have BXX : qy ((w6.alloc (.cells #[.int .i64 m.f0,.int .i64 m.f1] 77)).heap[w6.heap.size]? = some (.cells #[.int .i64 m.f0,.int .i64 m.f1] 77 (0,0))):=⟨blk_new w6 _⟩
       have HBX : qy (Below w6.heap.size w6 (w6.alloc (.cells #[.int .i64 m.f0,.int .i64 m.f1] 77))):=⟨qo (Below.refl _ _) _⟩
       generalize w6.alloc (.cells #[.int .i64 m.f0,.int .i64 m.f1] 77) = W7 at *
       have HB7:=qy.mk (qx HB.out (qx HB6.out HBX.out))
       have HTP7:=qy.mk (HTP.out.to (qx HB6.out HBX.out))
       have HS7:=qy.mk (HS.out.to HB7.out)
       go_wp2_with (first|(go_at_call 40;(with_reducible refine (l10IsTop_calls HS7.out i _ HIN.out HIT.out).mono ?_);rintro e_ w2 ⟨rfl,h2⟩;replace h2:=h2.symm;subst h2))
       go_roundg k1
       case measure=>omega
       case rel=>exact ⟨i + 1,t,by first|rfl|rw [hi1],⟨by omega,by have:=HI.out;omega,by have:=HIL.out;omega⟩,HST,HL,HTP7,HB7⟩
     | true =>
      rw [if_pos ⟨hb1,rfl⟩] at h
      have HST:=qy.mk h
      have HIT:=qy.mk hb1
      clear h hb1
      as_aux_lemma =>
       go_upto_region 7 with (first|(go_at_call 39;refine (HMC.out false rfl).mono ?_;rintro e_ w6 ⟨rfl,hb⟩;have HB6:=qy.mk hb;clear hb))
       have BXX : qy ((w6.alloc (.cells #[.int .i64 m.f0,.int .i64 m.f1] 77)).heap[w6.heap.size]? = some (.cells #[.int .i64 m.f0,.int .i64 m.f1] 77 (0,0))):=⟨blk_new w6 _⟩
       have HBX : qy (Below w6.heap.size w6 (w6.alloc (.cells #[.int .i64 m.f0,.int .i64 m.f1] 77))):=⟨qo (Below.refl _ _) _⟩
       generalize w6.alloc (.cells #[.int .i64 m.f0,.int .i64 m.f1] 77) = W7 at *
       have HB7:=qy.mk (qx HB.out (qx HB6.out HBX.out))
       have HTP7:=qy.mk (HTP.out.to (qx HB6.out HBX.out))
       have HS7:=qy.mk (HS.out.to HB7.out)
       obtain ⟨bl,_,e_,-⟩:=row_at HTP7.out.rl (by have:=HL.out.1;omega)
       injection e_ with e_ e2_ e3_
       clear e2_ e3_
       subst e_
       obtain ⟨ba,_,e_,-⟩:=row_at HTP7.out.ra (by have:=HL.out.2.1;omega)
       injection e_ with e_ e2_ e3_
       clear e2_ e3_
       subst e_
       obtain ⟨br,_,e_,-⟩:=row_at HTP7.out.rr (by have:=HL.out.2.2;omega)
       injection e_ with e_ e2_ e3_
       clear e2_ e3_
       subst e_
       have hct:=HTP7.out.cells
       have qil : i < (t.lb.length : Int):=by rw [HL.out.1];exact HIL.out
       have qir : i < (t.rt.length : Int):=by rw [HL.out.2.2];exact HIL.out
       obtain ⟨gx1,gf1⟩:=int_at HTP7.out.rl i hi.1 qil
       have HT1:=qy.mk (HTP7.out.sl i 1)
       have HB8:=qy.mk (qp HB7.out (Kd.R_base HTP7.out.rl bl rfl) (j:=i.toNat) (v:=.int .i64 1))
       go_upto_region 9 with (first|(go_at_call 40;(with_reducible refine (l10IsTop_calls HS7.out i _ HIN.out HIT.out).mono ?_);rintro e_ w2 ⟨rfl,h2⟩;replace h2:=h2.symm;subst h2))
       clear gx1 gf1 hct HTP7
       generalize World.setCell _ _ _ = W8 at HT1 HB8 ⊢
       have hct:=HT1.out.cells
       obtain ⟨gx1,gf1⟩:=int_at HT1.out.rr i hi.1 qir
       have HT2:=qy.mk (HT1.out.sr i i)
       have HB9:=qy.mk (qp HB8.out (Kd.R_base HT1.out.rr br rfl) (j:=i.toNat) (v:=.int .i64 i))
       go_wp2_with fail
       clear gx1 gf1 hct HT1
       generalize World.setCell _ _ _ = W9 at HT2 HB9 ⊢
       go_roundg k1
       case measure=>omega
       case rel=>exact ⟨i + 1,_,by first|rfl|rw [hi1],⟨by omega,by have:=HI.out;omega,by have:=HIL.out;omega⟩,HST,⟨by rw [List.length_set];exact HL.out.1,HL.out.2.1,by rw [List.length_set];exact HL.out.2.2⟩,HT2,HB9⟩
   rw [if_neg c] at h
   subst h
   have cl0 : decide (i < (s.nd.length : Int)) = false:=decide_eq_false c
   clear c HI
   as_aux_lemma =>
    go_wp2_with fail
    go_loopg [9] k (fun kq v9 w'=>∃ (f : Bool) (t : TI),v9 = .bool f ∧ qy (f = true ∧ labelF N s.y (cvs s.nd) s.mt es kq t = some (T,r) ∨ f = false ∧ t = T ∧ r = -1) ∧ qy (t.lb.length = s.nd.length ∧ t.ah.length = s.nd.length ∧ t.rt.length = s.nd.length) ∧ qy (Tp w' W.heap.size gt col2 (.slice A24 s.nd.length c24) (.slice A26 s.nd.length c26) (.slice A28 s.nd.length c28) t) ∧ qy (Below W.heap.size W w'))
    case atStart=>exact ⟨true,_,rfl,⟨.inl ⟨rfl,HT.out⟩⟩,HL,HTP,HB⟩
    clear HT HL HTP HB
    obtain ⟨f,t,rfl,HT,HL,HTP,HB⟩:=hrel
    rcases HT.out with ⟨rfl,h⟩|⟨rfl,h1,h2⟩
    ·clear HT
     obtain _|k1:=gk
     ·cases h
     rw [labelF] at h
     obtain ⟨q,hq⟩ : ∃ q,scanF N s.y (cvs s.nd) t.lb es (es.length + 1) 0 = q:=⟨_,rfl⟩
     rw [hq] at h
     have HQ:=qy.mk hq
     have HT:=qy.mk h
     clear hq h
     have hem:=Kd.C_max HS.out.he
     go_wp2_with fail
     go_loopg [9,10] (es.length + 1) (fun ki v9 v10 w'=>∃ (i : Int) (f : Bool) (t' : TI),v9 = .bool f ∧ v10 = .int .i64 i ∧ qy (0 ≤ i ∧ i ≤ es.length) ∧ qy ((f = false ∧ t' = t ∧ (es.length : Int) < i + ki ∧ scanF N s.y (cvs s.nd) t.lb es ki i = q) ∨ (f = true ∧ labelF N s.y (cvs s.nd) s.mt es k1 t' = some (T,r))) ∧ qy (t'.lb.length = s.nd.length ∧ t'.ah.length = s.nd.length ∧ t'.rt.length = s.nd.length) ∧ qy (Tp w' W.heap.size gt col2 (.slice A24 s.nd.length c24) (.slice A26 s.nd.length c26) (.slice A28 s.nd.length c28) t') ∧ qy (Below W.heap.size W w'))
     case atStart=>exact ⟨0,false,t,rfl,rfl,⟨by omega,by omega⟩,⟨.inl ⟨rfl,rfl,by omega,HQ.out⟩⟩,HL,HTP,HB⟩
     clear HTP HB HL
     obtain ⟨i,f,t',rfl,rfl,HI,HI2,HL,HTP,HB⟩:=hrel
     have HS3:=qy.mk (HS.out.to HB.out)
     have hc:=HS3.out.cells
     rcases HI2.out with ⟨rfl,rfl,hki,hsc⟩|⟨rfl,hlb⟩
     ·by_cases c : i < (es.length : Int)
      ·cases gk with
       | zero =>
        exfalso
        omega
       | succ ki =>
        rw [scanF,if_pos c] at hsc
        have hi0:=HI.out.1
        have HIL:=qy.mk c
        have HKI:=qy.mk hki
        have cl0 : decide (i < (es.length : Int)) = true:=decide_eq_true c
        have hi1 : wrap64 (i + 1) = i + 1:=w64 (by omega) (by omega)
        obtain ⟨adE,e_,he0,he1,he2,he3,he4⟩:=at_T51 (Kd.C_below HS3.out.he HS3.out.hb) i hi0 c
        subst e_
        have HX:=qy.mk (And.intro (HE.out.1 i ⟨hi0,c⟩) (HE.out.2 i ⟨hi0,c⟩))
        have pi:=eq_true hi0
        have qi:=eq_true c
        obtain ⟨X,hX⟩ : ∃ X,rd_T51 es i = X:=⟨_,rfl⟩
        rw [hX] at hsc he0 he1 he2 he3 he4 HX
        have HXE:=qy.mk hX
        clear hX c hki HI2
        as_aux_lemma =>
         go_upto_region 17 with fail
         have BXE : qy ((wr.alloc (.cells #[.int .i64 X.f0,.int .i64 X.f1,.int .i64 X.f2,.int .i64 X.f3,.int .i64 X.f4] 51)).heap[wr.heap.size]? = some (.cells #[.int .i64 X.f0,.int .i64 X.f1,.int .i64 X.f2,.int .i64 X.f3,.int .i64 X.f4] 51 (0,0))):=⟨blk_new wr _⟩
         have HBE : qy (Below wr.heap.size wr (wr.alloc (.cells #[.int .i64 X.f0,.int .i64 X.f1,.int .i64 X.f2,.int .i64 X.f3,.int .i64 X.f4] 51))):=⟨qo (Below.refl _ _) _⟩
         generalize wr.alloc (.cells #[.int .i64 X.f0,.int .i64 X.f1,.int .i64 X.f2,.int .i64 X.f3,.int .i64 X.f4] 51) = W2 at *
         have HB2:=qy.mk (qx HB.out HBE.out)
         have HT2:=qy.mk (HTP.out.to HBE.out)
         have HS2:=qy.mk (HS.out.to HB2.out)
         generalize wr.heap.size = ge at BXE ⊢
         clear hc he0 he1 he2 he3 he4 HBE HS3 HTP HB
         have hc:=HS2.out.cells
         have hb0 : W2.cell? ⟨ge,0,none⟩ = some (.int .i64 X.f0):=(qq BXE.out 0).trans rfl
         have hb1 : W2.cell? ⟨ge,1,none⟩ = some (.int .i64 X.f1):=(qq BXE.out 1).trans rfl
         have hb2 : W2.cell? ⟨ge,2,none⟩ = some (.int .i64 X.f2):=(qq BXE.out 2).trans rfl
         have hb3 : W2.cell? ⟨ge,3,none⟩ = some (.int .i64 X.f3):=(qq BXE.out 3).trans rfl
         have hb4 : W2.cell? ⟨ge,4,none⟩ = some (.int .i64 X.f4):=(qq BXE.out 4).trans rfl
         obtain ⟨A,hA⟩ : ∃ A,topI (cvs s.nd) X.f0 = A:=⟨_,rfl⟩
         obtain ⟨B,hB⟩ : ∃ B,topI (cvs s.nd) X.f1 = B:=⟨_,rfl⟩
         have HTA:=qy.mk (l10Top_is HS2.out X.f0 HW.out HX.out.1.1)
         have HTB:=qy.mk (l10Top_is HS2.out X.f1 HW.out HX.out.1.2)
         have HIA:=qy.mk (topI_in HW.out (by rw [cvs_len];exact HX.out.1.1))
         have HIB:=qy.mk (topI_in HW.out (by rw [cvs_len];exact HX.out.1.2))
         rw [hA,cvs_len] at HIA
         rw [hB,cvs_len] at HIB
         rw [hA] at HTA
         rw [hB] at HTB
         have HAB:=qy.mk (And.intro hA hB)
         obtain ⟨sl,hsl⟩ : ∃ sl,slackS N s.y (cvs s.nd) X = sl:=⟨_,rfl⟩
         have HSL:=qy.mk (l10Slack_calls HS2.out HW.out X HX.out.1.1 HX.out.1.2 HX.out.2.1 HX.out.2.2 HN.out H0.out.2)
         rw [hsl] at HSL
         have HSL2:=qy.mk hsl
         have hp0 : 0 < s.nd.length:=by have h1:=HIA.out.1;have h2:=HIA.out.2;omega
         obtain ⟨bl,_,e_,-⟩:=row_at HT2.out.rl (by have:=HL.out.1;omega)
         injection e_ with e_ e2_ e3_
         clear e2_ e3_
         subst e_
         obtain ⟨ba,_,e_,-⟩:=row_at HT2.out.ra (by have:=HL.out.2.1;omega)
         injection e_ with e_ e2_ e3_
         clear e2_ e3_
         subst e_
         obtain ⟨br,_,e_,-⟩:=row_at HT2.out.rr (by have:=HL.out.2.2;omega)
         injection e_ with e_ e2_ e3_
         clear e2_ e3_
         subst e_
         have pA:=eq_true HIA.out.1
         have qA:=eq_true HIA.out.2
         have pB:=eq_true HIB.out.1
         have qB:=eq_true HIB.out.2
         have qAl : A < (t'.lb.length : Int):=by rw [HL.out.1];exact HIA.out.2
         have qBl : B < (t'.lb.length : Int):=by rw [HL.out.1];exact HIB.out.2
         have HQL:=qy.mk (And.intro qAl qBl)
         clear hA hB hsl qAl qBl
         have hskip : skipP N s.y (cvs s.nd) t'.lb X ↔ (A = B ∨ sl ≠ 0 ∨ (rd t'.lb A ≠ 1 ∧ rd t'.lb B ≠ 1) ∨ rd t'.lb A = 2 ∨ rd t'.lb B = 2):=by unfold skipP;rw [HAB.out.1,HAB.out.2,HSL2.out]
         by_cases c1 : A = B
         ·rw [if_pos (hskip.2 (.inl c1))] at hsc
          have HSC:=qy.mk hsc
          have cb1 : (A == B) = true:=by simpa using c1
          clear c1 hsc hskip
          as_aux_lemma=>((go_wp2_with (first|(go_at_call 28;(with_reducible refine HTA.out.mono ?_);rintro e_ w3 ⟨rfl,h2⟩;replace h2:=h2.symm;subst h2)|(go_at_call 28;(with_reducible refine HTB.out.mono ?_);rintro e_ w3 ⟨rfl,h2⟩;replace h2:=h2.symm;subst h2)|(go_at_call 41;(with_reducible refine HSL.out.mono ?_);rintro e_ w5 ⟨rfl,hb⟩;have HT5:=qy.mk (HT2.out.to hb);have HB5:=qy.mk (qx HB2.out hb);have BX5:=qy.mk (qw BXE.out hb);have hct:=HT5.out.cells;obtain ⟨xlA,flA⟩:=int_at HT5.out.rl A HIA.out.1 HQL.out.1;obtain ⟨xlB,flB⟩:=int_at HT5.out.rl B HIB.out.1 HQL.out.2;clear hb)));(go_roundg ki);(case measure=>omega);(case rel=>exact ⟨i + 1,false,t',rfl,by first|rfl|rw [hi1],⟨by omega,by have:=HIL.out;omega⟩,⟨.inl ⟨rfl,rfl,by have:=HKI.out;omega,HSC.out⟩⟩,HL,by first|exact HT5|exact HT2,by first|exact HB5|exact HB2⟩))
         have cb1 : (A == B) = false:=by simpa using c1
         by_cases c2 : sl = 0
         ·have cb2 : (sl != 0) = false:=by simpa using c2
          by_cases c3 : rd t'.lb A = 1
          ·have cb3 : (rd t'.lb A != 1) = false:=by simpa using c3
           have cb3' : (rd t'.lb A == 1) = true:=by simpa using c3
           have cb3'' : (rd t'.lb A == 2) = false:=by rw [c3];decide
           by_cases c4 : rd t'.lb B = 2
           ·rw [if_pos (hskip.2 (.inr (.inr (.inr (.inr c4)))))] at hsc
            have HSC:=qy.mk hsc
            have cb4 : (rd t'.lb B == 2) = true:=by simpa using c4
            clear c1 c2 c3 c4 hsc hskip
            as_aux_lemma=>((go_wp2_with (first|(go_at_call 28;(with_reducible refine HTA.out.mono ?_);rintro e_ w3 ⟨rfl,h2⟩;replace h2:=h2.symm;subst h2)|(go_at_call 28;(with_reducible refine HTB.out.mono ?_);rintro e_ w3 ⟨rfl,h2⟩;replace h2:=h2.symm;subst h2)|(go_at_call 41;(with_reducible refine HSL.out.mono ?_);rintro e_ w5 ⟨rfl,hb⟩;have HT5:=qy.mk (HT2.out.to hb);have HB5:=qy.mk (qx HB2.out hb);have BX5:=qy.mk (qw BXE.out hb);have hct:=HT5.out.cells;obtain ⟨xlA,flA⟩:=int_at HT5.out.rl A HIA.out.1 HQL.out.1;obtain ⟨xlB,flB⟩:=int_at HT5.out.rl B HIB.out.1 HQL.out.2;clear hb)));(go_roundg ki);(case measure=>omega);(case rel=>exact ⟨i + 1,false,t',rfl,by first|rfl|rw [hi1],⟨by omega,by have:=HIL.out;omega⟩,⟨.inl ⟨rfl,rfl,by have:=HKI.out;omega,HSC.out⟩⟩,HL,by first|exact HT5|exact HT2,by first|exact HB5|exact HB2⟩))
           rw [if_neg (fun h=>(hskip.1 h).elim c1 fun h=>h.elim (fun h=>h c2) fun h=>h.elim (fun h=>h.1 c3) fun h=>h.elim (fun h=>by rw [c3] at h;cases h) c4)] at hsc
           have cb4 : (rd t'.lb B == 2) = false:=by simpa using c4
           have HSC:=qy.mk hsc
           have HC3:=qy.mk c3
           by_cases c5 : rd t'.lb B = 1
           ·have cb5 : (rd t'.lb B == 1) = true:=by simpa using c5
            have HC5:=qy.mk c5
            clear c1 c2 c3 c4 c5 hsc hskip
            as_aux_lemma =>
             go_wp2_with (first|(go_at_call 28;(with_reducible refine HTA.out.mono ?_);rintro e_ w3 ⟨rfl,h2⟩;replace h2:=h2.symm;subst h2)|(go_at_call 28;(with_reducible refine HTB.out.mono ?_);rintro e_ w3 ⟨rfl,h2⟩;replace h2:=h2.symm;subst h2)|(go_at_call 41;(with_reducible refine HSL.out.mono ?_);rintro e_ w5 ⟨rfl,hb⟩;have HT5:=qy.mk (HT2.out.to hb);have HB5:=qy.mk (qx HB2.out hb);have BX5:=qy.mk (qw BXE.out hb);have hct:=HT5.out.cells;obtain ⟨xlA,flA⟩:=int_at HT5.out.rl A HIA.out.1 HQL.out.1;obtain ⟨xlB,flB⟩:=int_at HT5.out.rl B HIB.out.1 HQL.out.2;clear hb))
             go_ret2
             obtain rfl:=HSC.out
             have h:=HT.out
             rw [if_neg (by omega),HXE.out,HAB.out.1,HAB.out.2,if_pos ⟨HC3.out,HC5.out⟩] at h
             injection h with h
             obtain ⟨rfl,rfl⟩:=Prod.mk.inj h
             exact ⟨gt,col2,_,_,_,rfl,HT5.out.lower HS.out.hb.size,HCL.out,HB5.out,HL.out⟩
           have cb5 : (rd t'.lb B == 1) = false:=by simpa using c5
           have HC5:=qy.mk c5
           clear c1 c2 c3 c4 c5 hsc hskip
           as_aux_lemma =>
            go_upto_region 22 with (first|(go_at_call 28;(with_reducible refine HTA.out.mono ?_);rintro e_ w3 ⟨rfl,h2⟩;replace h2:=h2.symm;subst h2)|(go_at_call 28;(with_reducible refine HTB.out.mono ?_);rintro e_ w3 ⟨rfl,h2⟩;replace h2:=h2.symm;subst h2)|(go_at_call 41;(with_reducible refine HSL.out.mono ?_);rintro e_ w5 ⟨rfl,hb⟩;have HT5:=qy.mk (HT2.out.to hb);have HB5:=qy.mk (qx HB2.out hb);have BX5:=qy.mk (qw BXE.out hb);have hct:=HT5.out.cells;obtain ⟨xlA,flA⟩:=int_at HT5.out.rl A HIA.out.1 HQL.out.1;obtain ⟨xlB,flB⟩:=int_at HT5.out.rl B HIB.out.1 HQL.out.2;clear hb))
            as_aux_lemma =>
             have hB0 : w5.cell? ⟨ge,0,none⟩ = some (.int .i64 X.f0):=(qq BX5.out 0).trans rfl
             have hB1 : w5.cell? ⟨ge,1,none⟩ = some (.int .i64 X.f1):=(qq BX5.out 1).trans rfl
             go_upto_region 23 with fail
             have BXL : qy ((w5.alloc (.cells #[.int .i64 X.f0,.int .i64 X.f1] 77)).heap[w5.heap.size]? = some (.cells #[.int .i64 X.f0,.int .i64 X.f1] 77 (0,0))):=⟨blk_new w5 _⟩
             have HBL : qy (Below w5.heap.size w5 (w5.alloc (.cells #[.int .i64 X.f0,.int .i64 X.f1] 77))):=⟨qo (Below.refl _ _) _⟩
             generalize w5.alloc (.cells #[.int .i64 X.f0,.int .i64 X.f1] 77) = W6 at *
             have HB6:=qy.mk (qx HB5.out HBL.out)
             have HT6:=qy.mk (HT5.out.to HBL.out)
             have HNE : qy (ba < w5.heap.size):=⟨by obtain ⟨dsa,hda⟩:=row_blk HT5.out.ra;exact blk_lt hda⟩
             clear hct xlA flA xlB flB hB0 hB1
             have hct:=HT6.out.cells
             obtain ⟨xlA,flA⟩:=int_at HT6.out.rl A HIA.out.1 HQL.out.1
             go_upto_region 26 with fail
             have HBt:=HB6
             have HTt:=HT6
             have BLt:=BXL
             have HZt : qy (w5.heap.size ≤ W6.heap.size):=⟨HBL.out.size⟩
             clear hct xlA flA
             have HSt:=qy.mk (HS.out.to HBt.out)
             obtain ⟨m,mb,hmm⟩ : ∃ m mb,mateL (cvs s.nd) B s.mt = (m,mb):=⟨_,_,rfl⟩
             have HMI:=mateL_in (nd:=cvs s.nd) (t:=B) (mt:=s.mt) (by simpa only [cvs_len] using HM.out) (by rw [cvs_len];exact hp0)
             rw [hmm,cvs_len] at HMI
             replace HMI:=qy.mk HMI
             have HMC:=qy.mk (l10Mate_calls HSt.out B m mb HW.out HM.out H0.out.1 hmm)
             have HMM2:=qy.mk hmm
             clear hmm
             go_upto_region 27 with (first|(go_at_call 39;refine HMC.out.mono ?_;rintro e_ w7 ⟨rfl,hb⟩;have HBm:=qy.mk hb;clear hb))
             have BXM : qy ((w7.alloc (.cells #[.int .i64 m.f0,.int .i64 m.f1] 77)).heap[w7.heap.size]? = some (.cells #[.int .i64 m.f0,.int .i64 m.f1] 77 (0,0))):=⟨blk_new w7 _⟩
             have HBM : qy (Below w7.heap.size w7 (w7.alloc (.cells #[.int .i64 m.f0,.int .i64 m.f1] 77))):=⟨qo (Below.refl _ _) _⟩
             generalize w7.alloc (.cells #[.int .i64 m.f0,.int .i64 m.f1] 77) = W8 at *
             have HB8:=qy.mk (qx HBt.out (qx HBm.out HBM.out))
             have HT8:=qy.mk (HTt.out.to (qx HBm.out HBM.out))
             have BL8:=qy.mk (qw BLt.out (qx HBm.out HBM.out))
             have HS8:=qy.mk (HS.out.to HB8.out)
             have HNM : qy (w7.heap.size ≠ ba):=⟨by have h1:=HNE.out;have h2:=HZt.out;have h3:=HBm.out.size;omega⟩
             have HNL : qy (w5.heap.size ≠ ba):=⟨by have h1:=HNE.out;omega⟩
             have hm1 : W8.cell? ⟨w7.heap.size,1,none⟩ = some (.int .i64 m.f1):=(qq BXM.out 1).trans rfl
             obtain ⟨c,hcc⟩ : ∃ c,topI (cvs s.nd) m.f1 = c:=⟨_,rfl⟩
             have HTC:=l10Top_is HS8.out m.f1 HW.out HMI.out.2
             have HCI:=topI_in HW.out (n:=m.f1) (by rw [cvs_len];exact HMI.out.2)
             rw [hcc] at HTC HCI
             rw [cvs_len] at HCI
             replace HTC:=qy.mk HTC
             replace HCI:=qy.mk HCI
             have HCC:=qy.mk hcc
             clear hcc
             go_upto_region 28 with (first|(go_at_call 28;(with_reducible refine HTC.out.mono ?_);rintro e_ w3 ⟨rfl,h2⟩;replace h2:=h2.symm;subst h2))
             have hct:=HT8.out.cells
             obtain ⟨gx1,gf1⟩:=int_at HT8.out.rl B HIB.out.1 HQL.out.2
             have HT9:=qy.mk (HT8.out.sl B 2)
             obtain ⟨dsl,hdl⟩:=row_blk HT8.out.rl
             go_upto_region 29 with fail
             have BL9:=qy.mk (far_blk (b:=bl) (o:=B.toNat) (x:=.int .i64 2) BL8.out hdl (by decide))
             have BM9:=qy.mk (far_blk (b:=bl) (o:=B.toNat) (x:=.int .i64 2) BXM.out hdl (by decide))
             have HB9:=qy.mk (qp HB8.out (Kd.R_base HT8.out.rl bl rfl) (j:=B.toNat) (v:=.int .i64 2))
             clear gx1 gf1 hct hm1 HT8 HB8 BL8 BXM hdl HS8 HTC HMC HSt
             generalize World.setCell _ _ _ = W9 at HT9 HB9 BL9 BM9 ⊢
             have qba : B < (t'.ah.length : Int):=by rw [HL.out.2.1];exact HIB.out.2
             have qra : A < (t'.rt.length : Int):=by rw [HL.out.2.2];exact HIA.out.2
             have qrb : B < (t'.rt.length : Int):=by rw [HL.out.2.2];exact HIB.out.2
             obtain ⟨gx1,gx2,gf1,gf2⟩:=link_at HT9.out.ra B HIB.out.1 qba
             have HT10:=qy.mk (HT9.out.sa B HIB.out.1 qba X.f0 X.f1)
             as_aux_lemma =>
              refine start_ (n:=8) (S:=fun w'=>w'.cell? ⟨gt,1,none⟩ = some (.slice (some ⟨ba,0,none⟩) s.nd.length c26) ∧ w'.cell? ⟨w5.heap.size,0,none⟩ = some (.int .i64 X.f0) ∧ w'.cell? ⟨w5.heap.size,1,none⟩ = some (.int .i64 X.f1)) (ds:=[7]) (Array.replicate 8 false) (by kernel_rfl) rfl rfl ⟨HT9.out.cells.2.1,(qq BL9.out 0).trans rfl,(qq BL9.out 1).trans rfl⟩ (fun hHeld=>?_)
              refine pa_ 0 198 (bz_ 8 1) ?_
              refine pa_ 1 199 (bz_ 8 3) ?_
              refine pa_ 2 200 (bz_ 8 7) ?_
              refine pa_ 4 202 (bz_ 8 23) ?_
              refine ta_ 3 201 (bz_ 8 31) hHeld (hy:=Or.inl ⟨by rfl,by rintro w' ⟨s0,s1,s2⟩;go_simp;with_reducible rfl⟩) (h:=?_)
              refine ta_ 5 203 (bz_ 8 63) hHeld (hy:=Or.inl ⟨by rfl,by rintro w' ⟨s0,s1,s2⟩;go_simp;with_reducible rfl⟩) (h:=?_)
              refine pa_ 6 204 (bz_ 8 127) ?_
              refine last_ (i:=7) (N:=none) (bz_ 8 255) rfl rfl (by kernel_rfl) (by decide) (fun K hK=>?_)
              refine skip_ (w1:=?_) (by rfl) rfl ?_ ?_
              rotate_left
              ·go_simp
               rfl
              refine hK.out _ _ ?_
              clear hK K
              refine done_ (by kernel_rfl) ?_
              have BM10:=qy.mk (qw (((Below.heap_setCell _ ⟨ba,B.toNat * 2 + 1,none⟩ (.int .i64 X.f1) w7.heap.size HNM.out).trans (Below.heap_setCell W9 ⟨ba,B.toNat * 2,none⟩ (.int .i64 X.f0) w7.heap.size HNM.out)).trans BM9.out) (qh (Below.refl _ _)))
              have HB10:=qy.mk (qx (qp (qp HB9.out (Kd.R_base HT9.out.ra ba rfl) (j:=B.toNat * 2) (v:=.int .i64 X.f0)) (Kd.R_base HT9.out.ra ba rfl) (j:=B.toNat * 2 + 1) (v:=.int .i64 X.f1)) (qh (Below.refl _ _)))
              replace HT10:=qy.mk (HT10.out.to (qh (Below.refl _ _)))
              clear gx1 gx2 gf1 gf2 HT9 HB9 BL9 BM9 hHeld
              generalize World.drew _ = W10 at HT10 HB10 BM10 ⊢
              as_aux_lemma =>
               obtain ⟨gxa,-⟩:=int_at HT10.out.rr A HIA.out.1 qra
               obtain ⟨gx1,gf1⟩:=int_at HT10.out.rr B HIB.out.1 qrb
               have HT11:=qy.mk (HT10.out.sr B (rd t'.rt A))
               go_upto_region 30 with fail
               refine start_ (n:=14) (S:=fun w'=>w'.cell? ⟨gt,2,none⟩ = some (.slice (some ⟨br,0,none⟩) s.nd.length c28) ∧ w'.cell? ⟨br,A.toNat,none⟩ = some (.int .i64 (rd t'.rt A))) (ds:=[13]) (Array.replicate 14 false) (by kernel_rfl) rfl rfl ⟨HT10.out.cells.2.2,gxa⟩ (fun hHeld=>?_)
               refine pa_ 0 205 (bz_ 14 1) ?_
               refine pa_ 1 206 (bz_ 14 3) ?_
               refine pa_ 2 207 (bz_ 14 7) ?_
               refine pa_ 4 209 (bz_ 14 23) ?_
               refine pa_ 5 210 (bz_ 14 55) ?_
               refine pa_ 6 211 (bz_ 14 119) ?_
               refine pa_ 7 212 (bz_ 14 247) ?_
               refine pa_ 9 214 (bz_ 14 759) ?_
               refine ta_ 3 208 (bz_ 14 767) hHeld (hy:=Or.inl ⟨by rfl,by rintro w' ⟨s0,s1⟩;go_simp;with_reducible rfl⟩) (h:=?_)
               refine ta_ 8 213 (bz_ 14 1023) hHeld (hy:=Or.inl ⟨by rfl,by rintro w' ⟨s0,s1⟩;go_simp;with_reducible rfl⟩) (h:=?_)
               refine pa_ 10 215 (bz_ 14 2047) ?_
               refine ta_ 11 216 (bz_ 14 4095) hHeld (hy:=Or.inl ⟨by rfl,by rintro w' ⟨s0,s1⟩;go_simp;with_reducible rfl⟩) (h:=?_)
               refine pa_ 12 217 (bz_ 14 8191) ?_
               refine last_ (i:=13) (N:=none) (bz_ 14 16383) rfl rfl (by kernel_rfl) (by decide) (fun K hK=>?_)
               refine skip_ (w1:=?_) (by rfl) rfl ?_ ?_
               rotate_left
               ·go_simp
                rfl
               refine hK.out _ _ ?_
               clear hK K
               refine done_ (by kernel_rfl) ?_
               obtain ⟨dsr,hdr⟩:=row_blk HT10.out.rr
               have BM11:=qy.mk (qw (far_blk (b:=br) (o:=B.toNat) (x:=.int .i64 (rd t'.rt A)) BM10.out hdr (by decide)) (qh (Below.refl _ _)))
               have HB11:=qy.mk (qx (qp HB10.out (Kd.R_base HT10.out.rr br rfl) (j:=B.toNat) (v:=.int .i64 (rd t'.rt A))) (qh (Below.refl _ _)))
               replace HT11:=qy.mk (HT11.out.to (qh (Below.refl _ _)))
               clear gxa gx1 gf1 HT10 HB10 BM10 hHeld hdr
               generalize World.drew _ = W11 at HT11 HB11 BM11 ⊢
               as_aux_lemma =>
                have hct:=HT11.out.cells
                have pc:=eq_true HCI.out.1
                have qc:=eq_true HCI.out.2
                have qcl : c < (((t'.lb.set B.toNat 2).length : Nat) : Int):=by rw [List.length_set,HL.out.1];exact HCI.out.2
                have qca : c < (((t'.ah.set B.toNat ⟨X.f0,X.f1⟩).length : Nat) : Int):=by rw [List.length_set,HL.out.2.1];exact HCI.out.2
                have qcr : c < (((t'.rt.set B.toNat (rd t'.rt A)).length : Nat) : Int):=by rw [List.length_set,HL.out.2.2];exact HCI.out.2
                have qar : A < (((t'.rt.set B.toNat (rd t'.rt A)).length : Nat) : Int):=by rw [List.length_set,HL.out.2.2];exact HIA.out.2
                obtain ⟨gx1,gf1⟩:=int_at HT11.out.rl c HCI.out.1 qcl
                have HT12:=qy.mk (HT11.out.sl c 1)
                obtain ⟨dsl,hdl⟩:=row_blk HT11.out.rl
                go_upto_region 32 with fail
                have BM12:=qy.mk (far_blk (b:=bl) (o:=c.toNat) (x:=.int .i64 1) BM11.out hdl (by decide))
                have HB12:=qy.mk (qp HB11.out (Kd.R_base HT11.out.rl bl rfl) (j:=c.toNat) (v:=.int .i64 1))
                clear gx1 gf1 hct HT11 HB11 BM11 hdl
                generalize World.setCell _ _ _ = W12 at HT12 HB12 BM12 ⊢
                obtain ⟨gx1,gx2,gf1,gf2⟩:=link_at HT12.out.ra c HCI.out.1 qca
                have HT13:=qy.mk (HT12.out.sa c HCI.out.1 qca m.f0 m.f1)
                refine start_ (n:=8) (S:=fun w'=>w'.cell? ⟨gt,1,none⟩ = some (.slice (some ⟨ba,0,none⟩) s.nd.length c26) ∧ w'.cell? ⟨w7.heap.size,0,none⟩ = some (.int .i64 m.f0) ∧ w'.cell? ⟨w7.heap.size,1,none⟩ = some (.int .i64 m.f1)) (ds:=[7]) (Array.replicate 8 false) (by kernel_rfl) rfl rfl ⟨HT12.out.cells.2.1,(qq BM12.out 0).trans rfl,(qq BM12.out 1).trans rfl⟩ (fun hHeld=>?_)
                refine pa_ 0 224 (bz_ 8 1) ?_
                refine pa_ 1 225 (bz_ 8 3) ?_
                refine pa_ 2 226 (bz_ 8 7) ?_
                refine pa_ 4 228 (bz_ 8 23) ?_
                refine ta_ 3 227 (bz_ 8 31) hHeld (hy:=Or.inl ⟨by rfl,by rintro w' ⟨s0,s1,s2⟩;go_simp;with_reducible rfl⟩) (h:=?_)
                refine ta_ 5 229 (bz_ 8 63) hHeld (hy:=Or.inl ⟨by rfl,by rintro w' ⟨s0,s1,s2⟩;go_simp;with_reducible rfl⟩) (h:=?_)
                refine pa_ 6 230 (bz_ 8 127) ?_
                refine last_ (i:=7) (N:=none) (bz_ 8 255) rfl rfl (by kernel_rfl) (by decide) (fun K hK=>?_)
                refine skip_ (w1:=?_) (by rfl) rfl ?_ ?_
                rotate_left
                ·go_simp
                 rfl
                refine hK.out _ _ ?_
                clear hK K
                refine done_ (by kernel_rfl) ?_
                have HB13:=qy.mk (qx (qp (qp HB12.out (Kd.R_base HT12.out.ra ba rfl) (j:=c.toNat * 2) (v:=.int .i64 m.f0)) (Kd.R_base HT12.out.ra ba rfl) (j:=c.toNat * 2 + 1) (v:=.int .i64 m.f1)) (qh (Below.refl _ _)))
                replace HT13:=qy.mk (HT13.out.to (qh (Below.refl _ _)))
                clear gx1 gx2 gf1 gf2 HT12 HB12 BM12 hHeld
                generalize World.drew _ = W13 at HT13 HB13 ⊢
                as_aux_lemma =>
                 obtain ⟨gxa,-⟩:=int_at HT13.out.rr A HIA.out.1 qar
                 obtain ⟨gx1,gf1⟩:=int_at HT13.out.rr c HCI.out.1 qcr
                 have HT14:=qy.mk (HT13.out.sr c (rd (t'.rt.set B.toNat (rd t'.rt A)) A))
                 go_upto_region 33 with fail
                 refine start_ (n:=14) (S:=fun w'=>w'.cell? ⟨gt,2,none⟩ = some (.slice (some ⟨br,0,none⟩) s.nd.length c28) ∧ w'.cell? ⟨br,A.toNat,none⟩ = some (.int .i64 (rd (t'.rt.set B.toNat (rd t'.rt A)) A))) (ds:=[13]) (Array.replicate 14 false) (by kernel_rfl) rfl rfl ⟨HT13.out.cells.2.2,gxa⟩ (fun hHeld=>?_)
                 refine pa_ 0 231 (bz_ 14 1) ?_
                 refine pa_ 1 232 (bz_ 14 3) ?_
                 refine pa_ 2 233 (bz_ 14 7) ?_
                 refine pa_ 4 235 (bz_ 14 23) ?_
                 refine pa_ 5 236 (bz_ 14 55) ?_
                 refine pa_ 6 237 (bz_ 14 119) ?_
                 refine pa_ 7 238 (bz_ 14 247) ?_
                 refine pa_ 9 240 (bz_ 14 759) ?_
                 refine ta_ 3 234 (bz_ 14 767) hHeld (hy:=Or.inl ⟨by rfl,by rintro w' ⟨s0,s1⟩;go_simp;with_reducible rfl⟩) (h:=?_)
                 refine ta_ 8 239 (bz_ 14 1023) hHeld (hy:=Or.inl ⟨by rfl,by rintro w' ⟨s0,s1⟩;go_simp;with_reducible rfl⟩) (h:=?_)
                 refine pa_ 10 241 (bz_ 14 2047) ?_
                 refine ta_ 11 242 (bz_ 14 4095) hHeld (hy:=Or.inl ⟨by rfl,by rintro w' ⟨s0,s1⟩;go_simp;with_reducible rfl⟩) (h:=?_)
                 refine pa_ 12 243 (bz_ 14 8191) ?_
                 refine last_ (i:=13) (N:=none) (bz_ 14 16383) rfl rfl (by kernel_rfl) (by decide) (fun K hK=>?_)
                 refine skip_ (w1:=?_) (by rfl) rfl ?_ ?_
                 rotate_left
                 ·go_simp
                  rfl
                 refine hK.out _ _ ?_
                 clear hK K
                 refine done_ (by kernel_rfl) ?_
                 have HB14:=qy.mk (qx (qp HB13.out (Kd.R_base HT13.out.rr br rfl) (j:=c.toNat) (v:=.int .i64 (rd (t'.rt.set B.toNat (rd t'.rt A)) A))) (qh (Below.refl _ _)))
                 replace HT14:=qy.mk (HT14.out.to (qh (Below.refl _ _)))
                 clear gxa gx1 gf1 HT13 HB13 hHeld
                 generalize World.drew _ = W14 at HT14 HB14 ⊢
                 go_wp2_with fail
                 have hlk : linkT (cvs s.nd) s.mt t' X = growT t' A B ⟨X.f0,X.f1⟩ m c:=by rw [linkT,HAB.out.1,HAB.out.2,if_pos HC3.out,nextT,HMM2.out,HCC.out]
                 have HLF:=HT.out
                 obtain rfl:=HSC.out
                 rw [if_neg (by omega),HXE.out,HAB.out.1,HAB.out.2,if_neg (by rintro ⟨h1,h2⟩;first|exact HC3.out h1|exact HC5.out h2)] at HLF
                 rw [hlk] at HLF
                 go_roundg ki
                 case measure=>omega
                 case rel=>exact ⟨i + 1,true,growT t' A B ⟨X.f0,X.f1⟩ m c,rfl,by first|rfl|rw [hi1],⟨by omega,by have:=HIL.out;omega⟩,⟨.inr ⟨rfl,HLF⟩⟩,⟨by rw [growT,List.length_set,List.length_set];exact HL.out.1,by rw [growT,List.length_set,List.length_set];exact HL.out.2.1,by rw [growT,List.length_set,List.length_set];exact HL.out.2.2⟩,HT14,HB14⟩
          have cb3 : (rd t'.lb A != 1) = true:=by simpa using c3
          have cb3' : (rd t'.lb A == 1) = false:=by simpa using c3
          by_cases c4 : rd t'.lb B = 1
          ·have cb4 : (rd t'.lb B != 1) = false:=by simpa using c4
           have cb4' : (rd t'.lb B == 1) = true:=by simpa using c4
           have cb4'' : (rd t'.lb B == 2) = false:=by rw [c4];decide
           by_cases c5 : rd t'.lb A = 2
           ·rw [if_pos (hskip.2 (.inr (.inr (.inr (.inl c5)))))] at hsc
            have HSC:=qy.mk hsc
            have cb5 : (rd t'.lb A == 2) = true:=by simpa using c5
            clear c1 c2 c3 c4 c5 hsc hskip
            as_aux_lemma=>((go_wp2_with (first|(go_at_call 28;(with_reducible refine HTA.out.mono ?_);rintro e_ w3 ⟨rfl,h2⟩;replace h2:=h2.symm;subst h2)|(go_at_call 28;(with_reducible refine HTB.out.mono ?_);rintro e_ w3 ⟨rfl,h2⟩;replace h2:=h2.symm;subst h2)|(go_at_call 41;(with_reducible refine HSL.out.mono ?_);rintro e_ w5 ⟨rfl,hb⟩;have HT5:=qy.mk (HT2.out.to hb);have HB5:=qy.mk (qx HB2.out hb);have BX5:=qy.mk (qw BXE.out hb);have hct:=HT5.out.cells;obtain ⟨xlA,flA⟩:=int_at HT5.out.rl A HIA.out.1 HQL.out.1;obtain ⟨xlB,flB⟩:=int_at HT5.out.rl B HIB.out.1 HQL.out.2;clear hb)));(go_roundg ki);(case measure=>omega);(case rel=>exact ⟨i + 1,false,t',rfl,by first|rfl|rw [hi1],⟨by omega,by have:=HIL.out;omega⟩,⟨.inl ⟨rfl,rfl,by have:=HKI.out;omega,HSC.out⟩⟩,HL,by first|exact HT5|exact HT2,by first|exact HB5|exact HB2⟩))
           rw [if_neg (fun h=>(hskip.1 h).elim c1 fun h=>h.elim (fun h=>h c2) fun h=>h.elim (fun h=>h.2 c4) fun h=>h.elim c5 (fun h=>by rw [c4] at h;cases h))] at hsc
           have cb5 : (rd t'.lb A == 2) = false:=by simpa using c5
           have HSC:=qy.mk hsc
           have HC3:=qy.mk c3
           clear c1 c2 c3 c4 c5 hsc hskip
           as_aux_lemma =>
            go_upto_region 22 with (first|(go_at_call 28;(with_reducible refine HTA.out.mono ?_);rintro e_ w3 ⟨rfl,h2⟩;replace h2:=h2.symm;subst h2)|(go_at_call 28;(with_reducible refine HTB.out.mono ?_);rintro e_ w3 ⟨rfl,h2⟩;replace h2:=h2.symm;subst h2)|(go_at_call 41;(with_reducible refine HSL.out.mono ?_);rintro e_ w5 ⟨rfl,hb⟩;have HT5:=qy.mk (HT2.out.to hb);have HB5:=qy.mk (qx HB2.out hb);have BX5:=qy.mk (qw BXE.out hb);have hct:=HT5.out.cells;obtain ⟨xlA,flA⟩:=int_at HT5.out.rl A HIA.out.1 HQL.out.1;obtain ⟨xlB,flB⟩:=int_at HT5.out.rl B HIB.out.1 HQL.out.2;clear hb))
            as_aux_lemma =>
             have hB0 : w5.cell? ⟨ge,0,none⟩ = some (.int .i64 X.f0):=(qq BX5.out 0).trans rfl
             have hB1 : w5.cell? ⟨ge,1,none⟩ = some (.int .i64 X.f1):=(qq BX5.out 1).trans rfl
             go_upto_region 23 with fail
             have BXL : qy ((w5.alloc (.cells #[.int .i64 X.f0,.int .i64 X.f1] 77)).heap[w5.heap.size]? = some (.cells #[.int .i64 X.f0,.int .i64 X.f1] 77 (0,0))):=⟨blk_new w5 _⟩
             have HBL : qy (Below w5.heap.size w5 (w5.alloc (.cells #[.int .i64 X.f0,.int .i64 X.f1] 77))):=⟨qo (Below.refl _ _) _⟩
             generalize w5.alloc (.cells #[.int .i64 X.f0,.int .i64 X.f1] 77) = W6 at *
             have HB6:=qy.mk (qx HB5.out HBL.out)
             have HT6:=qy.mk (HT5.out.to HBL.out)
             have HNE : qy (ba < w5.heap.size):=⟨by obtain ⟨dsa,hda⟩:=row_blk HT5.out.ra;exact blk_lt hda⟩
             clear hct xlA flA xlB flB hB0 hB1
             have hct:=HT6.out.cells
             obtain ⟨xlA,flA⟩:=int_at HT6.out.rl A HIA.out.1 HQL.out.1
             have BX6:=qy.mk (qw BX5.out HBL.out)
             have hB0 : W6.cell? ⟨ge,0,none⟩ = some (.int .i64 X.f0):=(qq BX6.out 0).trans rfl
             have hB1 : W6.cell? ⟨ge,1,none⟩ = some (.int .i64 X.f1):=(qq BX6.out 1).trans rfl
             have hL0 : W6.cell? ⟨w5.heap.size,0,none⟩ = some (.int .i64 X.f0):=(qq BXL.out 0).trans rfl
             have hL1 : W6.cell? ⟨w5.heap.size,1,none⟩ = some (.int .i64 X.f1):=(qq BXL.out 1).trans rfl
             have hf0:=qs BXL.out 0
             have hf1:=qs BXL.out 1
             go_upto_region 26 with fail
             have BLt:=qy.mk (put2 (b0:=.int .i64 X.f1) (b1:=.int .i64 X.f0) BXL.out)
             have HBp:=qy.mk (below_put2 (b0:=.int .i64 X.f1) (b1:=.int .i64 X.f0) HBL.out (Nat.le_refl _))
             have HBt:=qy.mk (qx HB5.out HBp.out)
             have HTt:=qy.mk (HT5.out.to HBp.out)
             have HZt:=qy.mk HBp.out.size
             clear hB0 hB1 hL0 hL1 hf0 hf1 BX6 HBp
             generalize World.setCell _ _ _ = W7 at BLt HBt HTt HZt ⊢
             clear hct xlA flA
             have HSt:=qy.mk (HS.out.to HBt.out)
             obtain ⟨m,mb,hmm⟩ : ∃ m mb,mateL (cvs s.nd) A s.mt = (m,mb):=⟨_,_,rfl⟩
             have HMI:=mateL_in (nd:=cvs s.nd) (t:=A) (mt:=s.mt) (by simpa only [cvs_len] using HM.out) (by rw [cvs_len];exact hp0)
             rw [hmm,cvs_len] at HMI
             replace HMI:=qy.mk HMI
             have HMC:=qy.mk (l10Mate_calls HSt.out A m mb HW.out HM.out H0.out.1 hmm)
             have HMM2:=qy.mk hmm
             clear hmm
             go_upto_region 27 with (first|(go_at_call 39;refine HMC.out.mono ?_;rintro e_ w7 ⟨rfl,hb⟩;have HBm:=qy.mk hb;clear hb))
             have BXM : qy ((w7.alloc (.cells #[.int .i64 m.f0,.int .i64 m.f1] 77)).heap[w7.heap.size]? = some (.cells #[.int .i64 m.f0,.int .i64 m.f1] 77 (0,0))):=⟨blk_new w7 _⟩
             have HBM : qy (Below w7.heap.size w7 (w7.alloc (.cells #[.int .i64 m.f0,.int .i64 m.f1] 77))):=⟨qo (Below.refl _ _) _⟩
             generalize w7.alloc (.cells #[.int .i64 m.f0,.int .i64 m.f1] 77) = W8 at *
             have HB8:=qy.mk (qx HBt.out (qx HBm.out HBM.out))
             have HT8:=qy.mk (HTt.out.to (qx HBm.out HBM.out))
             have BL8:=qy.mk (qw BLt.out (qx HBm.out HBM.out))
             have HS8:=qy.mk (HS.out.to HB8.out)
             have HNM : qy (w7.heap.size ≠ ba):=⟨by have h1:=HNE.out;have h2:=HZt.out;have h3:=HBm.out.size;omega⟩
             have HNL : qy (w5.heap.size ≠ ba):=⟨by have h1:=HNE.out;omega⟩
             have hm1 : W8.cell? ⟨w7.heap.size,1,none⟩ = some (.int .i64 m.f1):=(qq BXM.out 1).trans rfl
             obtain ⟨c,hcc⟩ : ∃ c,topI (cvs s.nd) m.f1 = c:=⟨_,rfl⟩
             have HTC:=l10Top_is HS8.out m.f1 HW.out HMI.out.2
             have HCI:=topI_in HW.out (n:=m.f1) (by rw [cvs_len];exact HMI.out.2)
             rw [hcc] at HTC HCI
             rw [cvs_len] at HCI
             replace HTC:=qy.mk HTC
             replace HCI:=qy.mk HCI
             have HCC:=qy.mk hcc
             clear hcc
             go_upto_region 28 with (first|(go_at_call 28;(with_reducible refine HTC.out.mono ?_);rintro e_ w3 ⟨rfl,h2⟩;replace h2:=h2.symm;subst h2))
             have hct:=HT8.out.cells
             obtain ⟨gx1,gf1⟩:=int_at HT8.out.rl A HIA.out.1 HQL.out.1
             have HT9:=qy.mk (HT8.out.sl A 2)
             obtain ⟨dsl,hdl⟩:=row_blk HT8.out.rl
             go_upto_region 29 with fail
             have BL9:=qy.mk (far_blk (b:=bl) (o:=A.toNat) (x:=.int .i64 2) BL8.out hdl (by decide))
             have BM9:=qy.mk (far_blk (b:=bl) (o:=A.toNat) (x:=.int .i64 2) BXM.out hdl (by decide))
             have HB9:=qy.mk (qp HB8.out (Kd.R_base HT8.out.rl bl rfl) (j:=A.toNat) (v:=.int .i64 2))
             clear gx1 gf1 hct hm1 HT8 HB8 BL8 BXM hdl HS8 HTC HMC HSt
             generalize World.setCell _ _ _ = W9 at HT9 HB9 BL9 BM9 ⊢
             have qba : A < (t'.ah.length : Int):=by rw [HL.out.2.1];exact HIA.out.2
             have qra : B < (t'.rt.length : Int):=by rw [HL.out.2.2];exact HIB.out.2
             have qrb : A < (t'.rt.length : Int):=by rw [HL.out.2.2];exact HIA.out.2
             obtain ⟨gx1,gx2,gf1,gf2⟩:=link_at HT9.out.ra A HIA.out.1 qba
             have HT10:=qy.mk (HT9.out.sa A HIA.out.1 qba X.f1 X.f0)
             as_aux_lemma =>
              refine start_ (n:=8) (S:=fun w'=>w'.cell? ⟨gt,1,none⟩ = some (.slice (some ⟨ba,0,none⟩) s.nd.length c26) ∧ w'.cell? ⟨w5.heap.size,0,none⟩ = some (.int .i64 X.f1) ∧ w'.cell? ⟨w5.heap.size,1,none⟩ = some (.int .i64 X.f0)) (ds:=[7]) (Array.replicate 8 false) (by kernel_rfl) rfl rfl ⟨HT9.out.cells.2.1,(qq BL9.out 0).trans rfl,(qq BL9.out 1).trans rfl⟩ (fun hHeld=>?_)
              refine pa_ 0 198 (bz_ 8 1) ?_
              refine pa_ 1 199 (bz_ 8 3) ?_
              refine pa_ 2 200 (bz_ 8 7) ?_
              refine pa_ 4 202 (bz_ 8 23) ?_
              refine ta_ 3 201 (bz_ 8 31) hHeld (hy:=Or.inl ⟨by rfl,by rintro w' ⟨s0,s1,s2⟩;go_simp;with_reducible rfl⟩) (h:=?_)
              refine ta_ 5 203 (bz_ 8 63) hHeld (hy:=Or.inl ⟨by rfl,by rintro w' ⟨s0,s1,s2⟩;go_simp;with_reducible rfl⟩) (h:=?_)
              refine pa_ 6 204 (bz_ 8 127) ?_
              refine last_ (i:=7) (N:=none) (bz_ 8 255) rfl rfl (by kernel_rfl) (by decide) (fun K hK=>?_)
              refine skip_ (w1:=?_) (by rfl) rfl ?_ ?_
              rotate_left
              ·go_simp
               rfl
              refine hK.out _ _ ?_
              clear hK K
              refine done_ (by kernel_rfl) ?_
              have BM10:=qy.mk (qw (((Below.heap_setCell _ ⟨ba,A.toNat * 2 + 1,none⟩ (.int .i64 X.f0) w7.heap.size HNM.out).trans (Below.heap_setCell W9 ⟨ba,A.toNat * 2,none⟩ (.int .i64 X.f1) w7.heap.size HNM.out)).trans BM9.out) (qh (Below.refl _ _)))
              have HB10:=qy.mk (qx (qp (qp HB9.out (Kd.R_base HT9.out.ra ba rfl) (j:=A.toNat * 2) (v:=.int .i64 X.f1)) (Kd.R_base HT9.out.ra ba rfl) (j:=A.toNat * 2 + 1) (v:=.int .i64 X.f0)) (qh (Below.refl _ _)))
              replace HT10:=qy.mk (HT10.out.to (qh (Below.refl _ _)))
              clear gx1 gx2 gf1 gf2 HT9 HB9 BL9 BM9 hHeld
              generalize World.drew _ = W10 at HT10 HB10 BM10 ⊢
              as_aux_lemma =>
               obtain ⟨gxa,-⟩:=int_at HT10.out.rr B HIB.out.1 qra
               obtain ⟨gx1,gf1⟩:=int_at HT10.out.rr A HIA.out.1 qrb
               have HT11:=qy.mk (HT10.out.sr A (rd t'.rt B))
               go_upto_region 30 with fail
               refine start_ (n:=14) (S:=fun w'=>w'.cell? ⟨gt,2,none⟩ = some (.slice (some ⟨br,0,none⟩) s.nd.length c28) ∧ w'.cell? ⟨br,B.toNat,none⟩ = some (.int .i64 (rd t'.rt B))) (ds:=[13]) (Array.replicate 14 false) (by kernel_rfl) rfl rfl ⟨HT10.out.cells.2.2,gxa⟩ (fun hHeld=>?_)
               refine pa_ 0 205 (bz_ 14 1) ?_
               refine pa_ 1 206 (bz_ 14 3) ?_
               refine pa_ 2 207 (bz_ 14 7) ?_
               refine pa_ 4 209 (bz_ 14 23) ?_
               refine pa_ 5 210 (bz_ 14 55) ?_
               refine pa_ 6 211 (bz_ 14 119) ?_
               refine pa_ 7 212 (bz_ 14 247) ?_
               refine pa_ 9 214 (bz_ 14 759) ?_
               refine ta_ 3 208 (bz_ 14 767) hHeld (hy:=Or.inl ⟨by rfl,by rintro w' ⟨s0,s1⟩;go_simp;with_reducible rfl⟩) (h:=?_)
               refine ta_ 8 213 (bz_ 14 1023) hHeld (hy:=Or.inl ⟨by rfl,by rintro w' ⟨s0,s1⟩;go_simp;with_reducible rfl⟩) (h:=?_)
               refine pa_ 10 215 (bz_ 14 2047) ?_
               refine ta_ 11 216 (bz_ 14 4095) hHeld (hy:=Or.inl ⟨by rfl,by rintro w' ⟨s0,s1⟩;go_simp;with_reducible rfl⟩) (h:=?_)
               refine pa_ 12 217 (bz_ 14 8191) ?_
               refine last_ (i:=13) (N:=none) (bz_ 14 16383) rfl rfl (by kernel_rfl) (by decide) (fun K hK=>?_)
               refine skip_ (w1:=?_) (by rfl) rfl ?_ ?_
               rotate_left
               ·go_simp
                rfl
               refine hK.out _ _ ?_
               clear hK K
               refine done_ (by kernel_rfl) ?_
               obtain ⟨dsr,hdr⟩:=row_blk HT10.out.rr
               have BM11:=qy.mk (qw (far_blk (b:=br) (o:=A.toNat) (x:=.int .i64 (rd t'.rt B)) BM10.out hdr (by decide)) (qh (Below.refl _ _)))
               have HB11:=qy.mk (qx (qp HB10.out (Kd.R_base HT10.out.rr br rfl) (j:=A.toNat) (v:=.int .i64 (rd t'.rt B))) (qh (Below.refl _ _)))
               replace HT11:=qy.mk (HT11.out.to (qh (Below.refl _ _)))
               clear gxa gx1 gf1 HT10 HB10 BM10 hHeld hdr
               generalize World.drew _ = W11 at HT11 HB11 BM11 ⊢
               as_aux_lemma =>
                have hct:=HT11.out.cells
                have pc:=eq_true HCI.out.1
                have qc:=eq_true HCI.out.2
                have qcl : c < (((t'.lb.set A.toNat 2).length : Nat) : Int):=by rw [List.length_set,HL.out.1];exact HCI.out.2
                have qca : c < (((t'.ah.set A.toNat ⟨X.f1,X.f0⟩).length : Nat) : Int):=by rw [List.length_set,HL.out.2.1];exact HCI.out.2
                have qcr : c < (((t'.rt.set A.toNat (rd t'.rt B)).length : Nat) : Int):=by rw [List.length_set,HL.out.2.2];exact HCI.out.2
                have qar : B < (((t'.rt.set A.toNat (rd t'.rt B)).length : Nat) : Int):=by rw [List.length_set,HL.out.2.2];exact HIB.out.2
                obtain ⟨gx1,gf1⟩:=int_at HT11.out.rl c HCI.out.1 qcl
                have HT12:=qy.mk (HT11.out.sl c 1)
                obtain ⟨dsl,hdl⟩:=row_blk HT11.out.rl
                go_upto_region 32 with fail
                have BM12:=qy.mk (far_blk (b:=bl) (o:=c.toNat) (x:=.int .i64 1) BM11.out hdl (by decide))
                have HB12:=qy.mk (qp HB11.out (Kd.R_base HT11.out.rl bl rfl) (j:=c.toNat) (v:=.int .i64 1))
                clear gx1 gf1 hct HT11 HB11 BM11 hdl
                generalize World.setCell _ _ _ = W12 at HT12 HB12 BM12 ⊢
                obtain ⟨gx1,gx2,gf1,gf2⟩:=link_at HT12.out.ra c HCI.out.1 qca
                have HT13:=qy.mk (HT12.out.sa c HCI.out.1 qca m.f0 m.f1)
                refine start_ (n:=8) (S:=fun w'=>w'.cell? ⟨gt,1,none⟩ = some (.slice (some ⟨ba,0,none⟩) s.nd.length c26) ∧ w'.cell? ⟨w7.heap.size,0,none⟩ = some (.int .i64 m.f0) ∧ w'.cell? ⟨w7.heap.size,1,none⟩ = some (.int .i64 m.f1)) (ds:=[7]) (Array.replicate 8 false) (by kernel_rfl) rfl rfl ⟨HT12.out.cells.2.1,(qq BM12.out 0).trans rfl,(qq BM12.out 1).trans rfl⟩ (fun hHeld=>?_)
                refine pa_ 0 224 (bz_ 8 1) ?_
                refine pa_ 1 225 (bz_ 8 3) ?_
                refine pa_ 2 226 (bz_ 8 7) ?_
                refine pa_ 4 228 (bz_ 8 23) ?_
                refine ta_ 3 227 (bz_ 8 31) hHeld (hy:=Or.inl ⟨by rfl,by rintro w' ⟨s0,s1,s2⟩;go_simp;with_reducible rfl⟩) (h:=?_)
                refine ta_ 5 229 (bz_ 8 63) hHeld (hy:=Or.inl ⟨by rfl,by rintro w' ⟨s0,s1,s2⟩;go_simp;with_reducible rfl⟩) (h:=?_)
                refine pa_ 6 230 (bz_ 8 127) ?_
                refine last_ (i:=7) (N:=none) (bz_ 8 255) rfl rfl (by kernel_rfl) (by decide) (fun K hK=>?_)
                refine skip_ (w1:=?_) (by rfl) rfl ?_ ?_
                rotate_left
                ·go_simp
                 rfl
                refine hK.out _ _ ?_
                clear hK K
                refine done_ (by kernel_rfl) ?_
                have HB13:=qy.mk (qx (qp (qp HB12.out (Kd.R_base HT12.out.ra ba rfl) (j:=c.toNat * 2) (v:=.int .i64 m.f0)) (Kd.R_base HT12.out.ra ba rfl) (j:=c.toNat * 2 + 1) (v:=.int .i64 m.f1)) (qh (Below.refl _ _)))
                replace HT13:=qy.mk (HT13.out.to (qh (Below.refl _ _)))
                clear gx1 gx2 gf1 gf2 HT12 HB12 BM12 hHeld
                generalize World.drew _ = W13 at HT13 HB13 ⊢
                as_aux_lemma =>
                 obtain ⟨gxa,-⟩:=int_at HT13.out.rr B HIB.out.1 qar
                 obtain ⟨gx1,gf1⟩:=int_at HT13.out.rr c HCI.out.1 qcr
                 have HT14:=qy.mk (HT13.out.sr c (rd (t'.rt.set A.toNat (rd t'.rt B)) B))
                 go_upto_region 33 with fail
                 refine start_ (n:=14) (S:=fun w'=>w'.cell? ⟨gt,2,none⟩ = some (.slice (some ⟨br,0,none⟩) s.nd.length c28) ∧ w'.cell? ⟨br,B.toNat,none⟩ = some (.int .i64 (rd (t'.rt.set A.toNat (rd t'.rt B)) B))) (ds:=[13]) (Array.replicate 14 false) (by kernel_rfl) rfl rfl ⟨HT13.out.cells.2.2,gxa⟩ (fun hHeld=>?_)
                 refine pa_ 0 231 (bz_ 14 1) ?_
                 refine pa_ 1 232 (bz_ 14 3) ?_
                 refine pa_ 2 233 (bz_ 14 7) ?_
                 refine pa_ 4 235 (bz_ 14 23) ?_
                 refine pa_ 5 236 (bz_ 14 55) ?_
                 refine pa_ 6 237 (bz_ 14 119) ?_
                 refine pa_ 7 238 (bz_ 14 247) ?_
                 refine pa_ 9 240 (bz_ 14 759) ?_
                 refine ta_ 3 234 (bz_ 14 767) hHeld (hy:=Or.inl ⟨by rfl,by rintro w' ⟨s0,s1⟩;go_simp;with_reducible rfl⟩) (h:=?_)
                 refine ta_ 8 239 (bz_ 14 1023) hHeld (hy:=Or.inl ⟨by rfl,by rintro w' ⟨s0,s1⟩;go_simp;with_reducible rfl⟩) (h:=?_)
                 refine pa_ 10 241 (bz_ 14 2047) ?_
                 refine ta_ 11 242 (bz_ 14 4095) hHeld (hy:=Or.inl ⟨by rfl,by rintro w' ⟨s0,s1⟩;go_simp;with_reducible rfl⟩) (h:=?_)
                 refine pa_ 12 243 (bz_ 14 8191) ?_
                 refine last_ (i:=13) (N:=none) (bz_ 14 16383) rfl rfl (by kernel_rfl) (by decide) (fun K hK=>?_)
                 refine skip_ (w1:=?_) (by rfl) rfl ?_ ?_
                 rotate_left
                 ·go_simp
                  rfl
                 refine hK.out _ _ ?_
                 clear hK K
                 refine done_ (by kernel_rfl) ?_
                 have HB14:=qy.mk (qx (qp HB13.out (Kd.R_base HT13.out.rr br rfl) (j:=c.toNat) (v:=.int .i64 (rd (t'.rt.set A.toNat (rd t'.rt B)) B))) (qh (Below.refl _ _)))
                 replace HT14:=qy.mk (HT14.out.to (qh (Below.refl _ _)))
                 clear gxa gx1 gf1 HT13 HB13 hHeld
                 generalize World.drew _ = W14 at HT14 HB14 ⊢
                 go_wp2_with fail
                 have hlk : linkT (cvs s.nd) s.mt t' X = growT t' B A ⟨X.f1,X.f0⟩ m c:=by rw [linkT,HAB.out.1,HAB.out.2,if_neg HC3.out,nextT,HMM2.out,HCC.out]
                 have HLF:=HT.out
                 obtain rfl:=HSC.out
                 rw [if_neg (by omega),HXE.out,HAB.out.1,HAB.out.2,if_neg (by rintro ⟨h1,h2⟩;first|exact HC3.out h1|exact HC5.out h2)] at HLF
                 rw [hlk] at HLF
                 go_roundg ki
                 case measure=>omega
                 case rel=>exact ⟨i + 1,true,growT t' B A ⟨X.f1,X.f0⟩ m c,rfl,by first|rfl|rw [hi1],⟨by omega,by have:=HIL.out;omega⟩,⟨.inr ⟨rfl,HLF⟩⟩,⟨by rw [growT,List.length_set,List.length_set];exact HL.out.1,by rw [growT,List.length_set,List.length_set];exact HL.out.2.1,by rw [growT,List.length_set,List.length_set];exact HL.out.2.2⟩,HT14,HB14⟩
          rw [if_pos (hskip.2 (.inr (.inr (.inl ⟨c3,c4⟩))))] at hsc
          have HSC:=qy.mk hsc
          have cb4 : (rd t'.lb B != 1) = true:=by simpa using c4
          clear c1 c2 c3 c4 hsc hskip
          as_aux_lemma=>((go_wp2_with (first|(go_at_call 28;(with_reducible refine HTA.out.mono ?_);rintro e_ w3 ⟨rfl,h2⟩;replace h2:=h2.symm;subst h2)|(go_at_call 28;(with_reducible refine HTB.out.mono ?_);rintro e_ w3 ⟨rfl,h2⟩;replace h2:=h2.symm;subst h2)|(go_at_call 41;(with_reducible refine HSL.out.mono ?_);rintro e_ w5 ⟨rfl,hb⟩;have HT5:=qy.mk (HT2.out.to hb);have HB5:=qy.mk (qx HB2.out hb);have BX5:=qy.mk (qw BXE.out hb);have hct:=HT5.out.cells;obtain ⟨xlA,flA⟩:=int_at HT5.out.rl A HIA.out.1 HQL.out.1;obtain ⟨xlB,flB⟩:=int_at HT5.out.rl B HIB.out.1 HQL.out.2;clear hb)));(go_roundg ki);(case measure=>omega);(case rel=>exact ⟨i + 1,false,t',rfl,by first|rfl|rw [hi1],⟨by omega,by have:=HIL.out;omega⟩,⟨.inl ⟨rfl,rfl,by have:=HKI.out;omega,HSC.out⟩⟩,HL,by first|exact HT5|exact HT2,by first|exact HB5|exact HB2⟩))
         rw [if_pos (hskip.2 (.inr (.inl c2)))] at hsc
         have HSC:=qy.mk hsc
         have cb2 : (sl != 0) = true:=by simpa using c2
         clear c1 c2 hsc hskip
         as_aux_lemma=>((go_wp2_with (first|(go_at_call 28;(with_reducible refine HTA.out.mono ?_);rintro e_ w3 ⟨rfl,h2⟩;replace h2:=h2.symm;subst h2)|(go_at_call 28;(with_reducible refine HTB.out.mono ?_);rintro e_ w3 ⟨rfl,h2⟩;replace h2:=h2.symm;subst h2)|(go_at_call 41;(with_reducible refine HSL.out.mono ?_);rintro e_ w5 ⟨rfl,hb⟩;have HT5:=qy.mk (HT2.out.to hb);have HB5:=qy.mk (qx HB2.out hb);have BX5:=qy.mk (qw BXE.out hb);have hct:=HT5.out.cells;obtain ⟨xlA,flA⟩:=int_at HT5.out.rl A HIA.out.1 HQL.out.1;obtain ⟨xlB,flB⟩:=int_at HT5.out.rl B HIB.out.1 HQL.out.2;clear hb)));(go_roundg ki);(case measure=>omega);(case rel=>exact ⟨i + 1,false,t',rfl,by first|rfl|rw [hi1],⟨by omega,by have:=HIL.out;omega⟩,⟨.inl ⟨rfl,rfl,by have:=HKI.out;omega,HSC.out⟩⟩,HL,by first|exact HT5|exact HT2,by first|exact HB5|exact HB2⟩))
      have cl0 : decide (i < (es.length : Int)) = false:=decide_eq_false c
      have hq : q = -1:=by
       cases gk with
       | zero=>rw [scanF] at hsc;exact hsc.symm
       | succ k2=>rw [scanF,if_neg c] at hsc;exact hsc.symm
      have h:=HT.out
      rw [if_pos hq] at h
      injection h with h
      obtain ⟨h1,h2⟩:=Prod.mk.inj h
      have HR:=qy.mk (And.intro h1 h2.symm)
      clear c hki hsc h h1 h2 hq HI2
      go_wp2_with fail
      go_roundg k1
      case measure=>omega
      case rel=>exact ⟨false,t',rfl,⟨.inr ⟨rfl,HR.out⟩⟩,HL,HTP,HB⟩
     have HR:=qy.mk hlb
     clear hlb HI2
     obtain ⟨cl,hcl⟩ : ∃ cl,decide (i < (es.length : Int)) = cl:=⟨_,rfl⟩
     cases cl <;>
     ·go_wp2_with fail
      go_roundg k1
      case measure=>omega
      case rel=>exact ⟨true,t',rfl,⟨.inl ⟨rfl,HR.out⟩⟩,HL,HTP,HB⟩
    subst h1
    subst h2
    clear HT
    go_wp2_with fail
    go_ret2
    exact ⟨gt,col2,_,_,_,rfl,HTP.out.lower HS.out.hb.size,HCL.out,HB.out,HL.out⟩
end Go.Proofs.Ytnffimpoekjkpaa.QFnExactRounds
