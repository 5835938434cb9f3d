import Derived.Test.YtnffimpoekjkpaaGreatZFnExactSolvex56
set_option linter.all false
namespace Go.Proofs.YtnffimpoekjkpaaGreat.QFnExactSolve
open Go.RowKit Go.Proofs.YtnffimpoekjkpaaGreatW.PrintWords Go.Proofs.YtnffimpoekjkpaaGreatW.PrintLast Go.Proofs.YtnffimpoekjkpaaGreatW.PrintMore
set_option maxHeartbeats 8000000
set_option maxRecDepth 100000
attribute [local go_sem] Od' Pd' Xd' Yd' Jd' Kd' Qd' Rd'
theorem Pj' {W : World} {base b n c : Nat} {ok : Nat → Prop} {xs : List S56} (h : Kd.R k56 56 W base ok (.slice (some ⟨b,0,none⟩) n c) xs) (i : Int) (h0 : 0 ≤ i) (h1 : i < (xs.length : Int)) :
  W.cell? ⟨b,i.toNat * 2,none⟩ = some (.int .i64 (xd' xs i).f0) ∧ W.cell? ⟨b,i.toNat * 2 + 1,none⟩ = some (.int .i64 (xd' xs i).f1) ∧ W.frozen? ⟨b,i.toNat * 2,none⟩ = false ∧ W.frozen? ⟨b,i.toNat * 2 + 1,none⟩ = false:=by
 have hn:=(Kd.R_reads' h).1
 obtain ⟨cl,hcl,hM,hcc,hfr⟩:=Kd.R_elem h z56 i h0 aa'
 have e:=El' hM
 have hcc' : ∀ j u,cl[j]? = some u → W.cell? ⟨b,i.toNat * 2 + j,none⟩ = some u:=hcc
 rw [e] at hcc'
 exact ⟨hcc' 0 _ rfl,hcc' 1 _ rfl,hfr 0,hfr 1⟩
theorem Tp.lower {W : World} {base base' gt : Nat} {col : Nat → Nat} {vl va vr : Value} {t : TI} (h : Tp W base gt col vl va vr t) (hb : base' ≤ base) : Tp W base' gt col vl va vr t :=
 ⟨h.blk,Nat.le_trans hb h.ge,h.cg,Kd.R_lower h.rl hb,Kd.R_lower h.ra hb,Kd.R_lower h.rr hb⟩
def Mk3 (W W' : World) (col : Nat → Nat) (n : Nat) (o4 o5 o6 : Option Value) : Prop :=
 ∃ col' : Nat → Nat,(∀ k,k < W.heap.size → col' k = col k) ∧ Below W.heap.size W W' ∧ (∀ v,o4 = some v → Kd.R (Kd.int .i64) 3 W' W.heap.size (fun k=>col' k = 4) v (List.replicate n 0)) ∧ (∀ v,o5 = some v → Kd.R k56 56 W' W.heap.size (fun k=>col' k = 5) v (List.replicate n ⟨0,0⟩)) ∧ (∀ v,o6 = some v → Kd.R (Kd.int .i64) 3 W' W.heap.size (fun k=>col' k = 6) v (List.replicate n 0))
section
variable {W W' W1 : World} {col : Nat → Nat} {n : Nat} {o4 o5 o6 : Option Value} {v : Value}
theorem Yf' {α : Type} {d : Kd α} {e base c c' m : Nat} {col' : Nat → Nat} {o : Option Value} {xs : List α} (h : ∀ v,o = some v → d.R e W' base (fun k=>col' k = c) v xs) (hb : Below W'.heap.size W' W1) (hm : m = W'.heap.size) : ∀ v,o = some v → d.R e W1 base (fun k=>(if m ≤ k then c' else col' k) = c) v xs :=
 fun v hv=>Kd.R_below (Kd.R_mono (Kd.R_bound (h v hv)) (by rintro k ⟨h1,_,h2,_⟩;rw [if_neg aa'];exact h1)) hb
theorem Ok' {m c : Nat} {col' : Nat → Nat} (hc : ∀ k,k < W.heap.size → col' k = col k) (hs : W.heap.size ≤ m) : ∀ k,k < W.heap.size → (if m ≤ k then c else col' k) = col k:=fun k hk=>by rw [if_neg aa'];exact hc k hk
theorem Mk3.make4 (h : Mk3 W W' col n none o5 o6) (ho : Kd.R (Kd.int .i64) 3 W1 W'.heap.size (fun _=>True) v (List.replicate n 0)) (hb : Below W'.heap.size W' W1) : Mk3 W W1 col n (some v) o5 o6:=by
 obtain ⟨col',hc,hB,h4,h5,h6⟩:=h
 exact ⟨fun k=>if W'.heap.size ≤ k then 4 else col' k,Ok' hc hB.size,qy hB hb,fun u hu=>by cases hu;exact jh' ho hB.size 4,Yf' h5 hb rfl,Yf' h6 hb rfl⟩
theorem Mk3.make5 (h : Mk3 W W' col n o4 none o6) (ho : Kd.R k56 56 W1 W'.heap.size (fun _=>True) v (List.replicate n ⟨0,0⟩)) (hb : Below W'.heap.size W' W1) : Mk3 W W1 col n o4 (some v) o6:=by
 obtain ⟨col',hc,hB,h4,h5,h6⟩:=h
 exact ⟨fun k=>if W'.heap.size ≤ k then 5 else col' k,Ok' hc hB.size,qy hB hb,Yf' h4 hb rfl,fun u hu=>by cases hu;exact jh' ho hB.size 5,Yf' h6 hb rfl⟩
theorem Mk3.make6 (h : Mk3 W W' col n o4 o5 none) (ho : Kd.R (Kd.int .i64) 3 W1 W'.heap.size (fun _=>True) v (List.replicate n 0)) (hb : Below W'.heap.size W' W1) : Mk3 W W1 col n o4 o5 (some v):=by
 obtain ⟨col',hc,hB,h4,h5,h6⟩:=h
 exact ⟨fun k=>if W'.heap.size ≤ k then 6 else col' k,Ok' hc hB.size,qy hB hb,Yf' h4 hb rfl,Yf' h5 hb rfl,fun u hu=>by cases hu;exact jh' ho hB.size 6⟩
theorem Mk3.box {v4 v5 v6 : Value} (h : Mk3 W W' col n (some v4) (some v5) (some v6)) : ∃ col' : Nat → Nat,(∀ k,k < W.heap.size → col' k = col k) ∧ Below W.heap.size W (W'.alloc (.cells #[v4,v5,v6] 102)) ∧ Tp (W'.alloc (.cells #[v4,v5,v6] 102)) W.heap.size W'.heap.size col' v4 v5 v6 ⟨List.replicate n 0,List.replicate n ⟨0,0⟩,List.replicate n 0⟩:=by
 obtain ⟨col',hc,hB,h4,h5,h6⟩:=h
 have hb:=qo (Below.refl W'.heap.size W') (.cells #[v4,v5,v6] 102)
 exact ⟨fun k=>if W'.heap.size ≤ k then 7 else col' k,Ok' hc hB.size,qy hB hb,yd' W' _,hB.size,if_pos (Nat.le_refl _),Yf' h4 hb rfl v4 rfl,Yf' h5 hb rfl v5 rfl,Yf' h6 hb rfl v6 rfl⟩
end
def rg' (nd : List S77) (mt : List S56) : Nat → Int → TI → TI
 | 0,_,t=>t
 | k + 1,i,t=>if i < (nd.length : Int) then rg' nd mt k (i + 1) (if Ce' (wd' nd i) = true ∧ (Fe' (cvs nd) i mt).2 = false then { t with lb:=t.lb.set i.toNat 1,rt:=t.rt.set i.toNat i } else t) else t
def zeroT (n : Nat) : TI:=⟨List.replicate n 0,List.replicate n ⟨0,0⟩,List.replicate n 0⟩
def eg' (nd : List S77) (mt : List S56) : TI:=rg' nd mt (nd.length + 1) 0 (zeroT nd.length)
def xg' (N : Int) (y : List Int) (nd : List S89) (lb : List Int) (x : S73) : Prop :=
 topI nd x.f0 = topI nd x.f1 ∨ slackS N y nd x ≠ 0 ∨ (rd lb (topI nd x.f0) ≠ 1 ∧ rd lb (topI nd x.f1) ≠ 1) ∨ rd lb (topI nd x.f0) = 2 ∨ rd lb (topI nd x.f1) = 2
instance (N : Int) (y : List Int) (nd : List S89) (lb : List Int) (x : S73) : Decidable (xg' N y nd lb x):=by unfold xg';infer_instance
def Ie' (N : Int) (y : List Int) (nd : List S89) (lb : List Int) (es : List S73) : Nat → Int → Int
 | 0,_=>-1
 | k + 1,i=>if i < (es.length : Int) then if xg' N y nd lb (ud' es i) then Ie' N y nd lb es k (i + 1) else i else -1
def growT (t : TI) (a b : Int) (l m : S56) (c : Int) : TI :=
 { lb:=(t.lb.set b.toNat 2).set c.toNat 1,ah:=(t.ah.set b.toNat l).set c.toNat m,rt:=(t.rt.set b.toNat (rd t.rt a)).set c.toNat (rd (t.rt.set b.toNat (rd t.rt a)) a) }
def Ph' (nd : List S89) (mt : List S56) (t : TI) (a b : Int) (l : S56) : TI:=growT t a b l (Fe' nd b mt).1 (topI nd (Fe' nd b mt).1.f1)
def Qh' (nd : List S89) (mt : List S56) (t : TI) (x : S73) : TI :=
 if rd t.lb (topI nd x.f0) = 1 then Ph' nd mt t (topI nd x.f0) (topI nd x.f1) ⟨x.f0,x.f1⟩ else Ph' nd mt t (topI nd x.f1) (topI nd x.f0) ⟨x.f1,x.f0⟩
def bh' (N : Int) (y : List Int) (nd : List S89) (mt : List S56) (es : List S73) : Nat → TI → Option (TI × Int)
 | 0,_=>none
 | k + 1,t =>
  if Ie' N y nd t.lb es (es.length + 1) 0 = -1 then some (t,-1)
  else if rd t.lb (topI nd (ud' es (Ie' N y nd t.lb es (es.length + 1) 0)).f0) = 1 ∧ rd t.lb (topI nd (ud' es (Ie' N y nd t.lb es (es.length + 1) 0)).f1) = 1 then some (t,Ie' N y nd t.lb es (es.length + 1) 0)
  else bh' N y nd mt es k (Qh' nd mt t (ud' es (Ie' N y nd t.lb es (es.length + 1) 0)))
theorem lk' {nd : List S89} {t : Int} : ∀ {mt : List S56},(∀ x ∈ mt,inR x.f0 nd.length ∧ inR x.f1 nd.length) → 0 < nd.length → inR (Fe' nd t mt).1.f0 nd.length ∧ inR (Fe' nd t mt).1.f1 nd.length
 | [],_,h0=>⟨⟨Int.le_refl 0,by show (0 : Int) < _;omega⟩,⟨Int.le_refl 0,by show (0 : Int) < _;omega⟩⟩
 | x :: l,hm,h0=>by
  rw [Fe']
  split
  ·exact hm x List.mem_cons_self
  split
  ·exact (hm x List.mem_cons_self).symm
  exact lk' (fun y hy=>hm y (List.mem_cons_of_mem _ hy)) h0
theorem rl' {w0 W : World} {Z : Nat → Prop} {wz : World} {g : Nat} {N : Int} {Ae : Option Addr} {ce : Nat} {es : List (S73)} {col : Nat → Nat} {vy vn vm : Value} {s : RI} (hS : Rn w0 W Z wz g N Ae ce es col vy vn vm s) (hw : WFn (cvs s.nd)) (hm : ∀ x ∈ s.mt,inR x.f0 s.nd.length ∧ inR x.f1 s.nd.length) (hsm : s.mt.length ≤ 1000000) (hsz : s.nd.length ≤ 1000000) (ho : EOk es s.nd.length) (hoy : EOk es s.y.length) (hN : 0 ≤ N) (k : Nat) (T : TI) (r : Int)
  (h : bh' N s.y (cvs s.nd) s.mt es k (eg' s.nd s.mt) = some (T,r)) :
  Calls Tryz.prog 57 #[.pointer (some ⟨g,0,none⟩)] W fun e w'=>∃ (gt : Nat) (col' : Nat → Nat) (vl va vr : Value),e = .returned (.tuple #[.pointer (some ⟨gt,0,none⟩),.int .i64 r]) ∧ Tp w' w0.heap.size gt col' vl va vr T ∧ (∀ k,k < W.heap.size → col' k = col k) ∧ Below W.heap.size W w' ∧ (T.lb.length = s.nd.length ∧ T.ah.length = s.nd.length ∧ T.rt.length = s.nd.length):=by
 have hu51:=Tryz.underlying51
 have hu77:=Tryz.underlying77
 have hu56:=Tryz.underlying56
 have hu73:=Tryz.underlying73
 have hu35:=Tryz.underlying35
 have HS:=qz.mk hS
 clear hS
 have hu27:=Tryz.underlying27
 have hu49:=Tryz.underlying49
 have hu102:=Tryz.underlying102
 obtain ⟨An,cn,e_⟩:=Kd.R_slice HS.o.rn
 subst e_
 have H0:=qz.mk (And.intro hsm hsz)
 have HW:=qz.mk hw
 have HM:=qz.mk hm
 have HE:=qz.mk (And.intro ho hoy)
 have HN:=qz.mk hN
 have HT:=qz.mk h
 have hc:=HS.o.cells
 have HF0 : qz (Mk3 W W.drew col s.nd.length none none none):=⟨⟨col,fun _ _=>rfl,qh (Below.refl _ _),(fun _ h=>nomatch h),(fun _ h=>nomatch h),(fun _ h=>nomatch h)⟩⟩
 clear hw hm hsm hsz ho hoy hN h
 go_enter Tryz.func57,Tryz.ntmps57
 go_upto_region 2 with fail
 refine Md' (n:=9) (S:=fun w'=>True) (ds:=[7]) (Array.replicate 9 false) da' rfl rfl trivial (fun hHeld=>?_)
 refine pa_ 0 23 (bz_ 9 1) ?_
 refine pa_ 2 25 (bz_ 9 5) ?_
 refine pa_ 4 27 (bz_ 9 21) ?_
 refine join_ (σ:=(Option Addr × Nat) × (Option Addr × Nat) × (Option Addr × Nat)) 3 (bz_ 9 63) (fun z=>[(24,.slice z.1.1 s.nd.length z.1.2),(26,.slice z.2.1.1 s.nd.length z.2.1.2),(28,.slice z.2.2.1 s.nd.length z.2.2.2)]) (fun z w'=>Mk3 W w' col s.nd.length (some (.slice z.1.1 s.nd.length z.1.2)) (some (.slice z.2.1.1 s.nd.length z.2.1.2)) (some (.slice z.2.2.1 s.nd.length z.2.2.2))) ?_ ?_
 rotate_left
 ·intro hCont
  refine xm' (i:=1) (j:=3) (k:=5) (Ni:=some 24) (Nj:=some 26) (Nk:=some 28) (bz_ 9 23) (bz_ 9 29) (bz_ 9 53) rfl rfl rfl rfl rfl rfl da' ba' ba' ba' (fun K hK=>?_) (fun K hK=>?_) (fun K hK=>?_)
  ·skip
   refine Kd.R_make_step (Kd.int .i64) _ 3 ca' (N:=24) rfl 27 _ _ rfl (s.nd.length : Int) ca' ca' Tryz.underlying27 (.int .i64 0) 8 Ud' rfl ba' aa' 0 (ok:=fun _=>True) (okp:=fun _=>True) rfl (fun _ hk=>hk) trivial aa' ka' (Below.refl _ _) (Nat.le_refl _) ?_
   intro v24 wm0 ho hb _ _
   rw [Int.toNat_natCast] at ho
   obtain ⟨A24,c24,e_⟩:=Kd.R_slice ho
   rw [List.length_replicate] at e_
   subst e_
   have HF1:=qz.mk (HF0.o.make4 ho hb)
   clear ho hb
   refine hK.out _ _ trivial (fun hHeld=>?_)
   clear hK K
   refine zd' (a':=?_) ?_ ?_
   rotate_left
   ·show Act.put _ (some 24) _ = _
    simp only [Act.put,List.setIfInBounds_toArray,List.set_cons_zero,List.set_cons_succ,Bd',Cd']
    rfl
   refine Vg' (i:=3) (j:=5) (Ni:=some 26) (Nj:=some 28) (bz_ 9 31) (bz_ 9 55) rfl rfl rfl rfl da' ba' ba' (fun K hK=>?_) (fun K hK=>?_)
   ·skip
    refine Kd.R_make_step k56 _ 56 ca' (N:=26) rfl 49 _ _ rfl (s.nd.length : Int) ca' ca' Tryz.underlying49 (.agg #[.int .i64 0,.int .i64 0]) 16 Ff' rfl ba' aa' (⟨0,0⟩ : S56) (ok:=fun _=>True) (okp:=fun _=>True) (cf' _ _ _ (⟨0,0⟩ : S56)) (fun _ hk=>hk) trivial aa' ka' (Below.refl _ _) (Nat.le_refl _) ?_
    intro v26 wm1 ho hb _ _
    rw [Int.toNat_natCast] at ho
    obtain ⟨A26,c26,e_⟩:=Kd.R_slice ho
    rw [List.length_replicate] at e_
    subst e_
    have HF2:=qz.mk (HF1.o.make5 ho hb)
    clear ho hb
    refine hK.out _ _ trivial (fun hHeld=>?_)
    clear hK K
    refine zd' (a':=?_) ?_ ?_
    rotate_left
    ·show Act.put _ (some 26) _ = _
     simp only [Act.put,List.setIfInBounds_toArray,List.set_cons_zero,List.set_cons_succ,Bd',Cd']
     rfl
    refine Td' (i:=5) (N:=some 28) (bz_ 9 63) rfl rfl da' ba' (fun K hK=>?_)
    refine Kd.R_make_step (Kd.int .i64) _ 3 ca' (N:=28) rfl 27 _ _ rfl (s.nd.length : Int) ca' ca' Tryz.underlying27 (.int .i64 0) 8 Ud' rfl ba' aa' 0 (ok:=fun _=>True) (okp:=fun _=>True) rfl (fun _ hk=>hk) trivial aa' ka' (Below.refl _ _) (Nat.le_refl _) ?_
    intro v28 wm2 ho hb _ _
    rw [Int.toNat_natCast] at ho
    obtain ⟨A28,c28,e_⟩:=Kd.R_slice ho
    rw [List.length_replicate] at e_
    subst e_
    have HF3:=qz.mk (HF2.o.make6 ho hb)
    clear ho hb
    refine hK.out _ _ trivial (fun hHeld=>?_)
    clear hK K
    refine zd' (a':=?_) ?_ ?_
    rotate_left
    ·show Act.put _ (some 28) _ = _
     simp only [Act.put,List.setIfInBounds_toArray,List.set_cons_zero,List.set_cons_succ,Bd',Cd']
     rfl
    exact zd' ua' (hCont ((A24,c24),(A26,c26),(A28,c28)) _ HF3.o)
   skip
   refine Kd.R_make_step (Kd.int .i64) _ 3 ca' (N:=28) rfl 27 _ _ rfl (s.nd.length : Int) ca' ca' Tryz.underlying27 (.int .i64 0) 8 Ud' rfl ba' aa' 0 (ok:=fun _=>True) (okp:=fun _=>True) rfl (fun _ hk=>hk) trivial aa' ka' (Below.refl _ _) (Nat.le_refl _) ?_
   intro v28 wm1 ho hb _ _
   rw [Int.toNat_natCast] at ho
   obtain ⟨A28,c28,e_⟩:=Kd.R_slice ho
   rw [List.length_replicate] at e_
   subst e_
   have HF2:=qz.mk (HF1.o.make6 ho hb)
   clear ho hb
   refine hK.out _ _ trivial (fun hHeld=>?_)
   clear hK K
   refine zd' (a':=?_) ?_ ?_
   rotate_left
   ·show Act.put _ (some 28) _ = _
    simp only [Act.put,List.setIfInBounds_toArray,List.set_cons_zero,List.set_cons_succ,Bd',Cd']
    rfl
   refine Td' (i:=3) (N:=some 26) (bz_ 9 63) rfl rfl da' ba' (fun K hK=>?_)
   refine Kd.R_make_step k56 _ 56 ca' (N:=26) rfl 49 _ _ rfl (s.nd.length : Int) ca' ca' Tryz.underlying49 (.agg #[.int .i64 0,.int .i64 0]) 16 Ff' rfl ba' aa' (⟨0,0⟩ : S56) (ok:=fun _=>True) (okp:=fun _=>True) (cf' _ _ _ (⟨0,0⟩ : S56)) (fun _ hk=>hk) trivial aa' ka' (Below.refl _ _) (Nat.le_refl _) ?_
   intro v26 wm2 ho hb _ _
   rw [Int.toNat_natCast] at ho
   obtain ⟨A26,c26,e_⟩:=Kd.R_slice ho
   rw [List.length_replicate] at e_
   subst e_
   have HF3:=qz.mk (HF2.o.make5 ho hb)
   clear ho hb
   refine hK.out _ _ trivial (fun hHeld=>?_)
   clear hK K
   refine zd' (a':=?_) ?_ ?_
   rotate_left
   ·show Act.put _ (some 26) _ = _
    simp only [Act.put,List.setIfInBounds_toArray,List.set_cons_zero,List.set_cons_succ,Bd',Cd']
    rfl
   exact zd' ua' (hCont ((A24,c24),(A26,c26),(A28,c28)) _ HF3.o)
  ·skip
   refine Kd.R_make_step k56 _ 56 ca' (N:=26) rfl 49 _ _ rfl (s.nd.length : Int) ca' ca' Tryz.underlying49 (.agg #[.int .i64 0,.int .i64 0]) 16 Ff' rfl ba' aa' (⟨0,0⟩ : S56) (ok:=fun _=>True) (okp:=fun _=>True) (cf' _ _ _ (⟨0,0⟩ : S56)) (fun _ hk=>hk) trivial aa' ka' (Below.refl _ _) (Nat.le_refl _) ?_
   intro v26 wm0 ho hb _ _
   rw [Int.toNat_natCast] at ho
   obtain ⟨A26,c26,e_⟩:=Kd.R_slice ho
   rw [List.length_replicate] at e_
   subst e_
   have HF1:=qz.mk (HF0.o.make5 ho hb)
   clear ho hb
   refine hK.out _ _ trivial (fun hHeld=>?_)
   clear hK K
   refine zd' (a':=?_) ?_ ?_
   rotate_left
   ·show Act.put _ (some 26) _ = _
    simp only [Act.put,List.setIfInBounds_toArray,List.set_cons_zero,List.set_cons_succ,Bd',Cd']
    rfl
   refine Vg' (i:=1) (j:=5) (Ni:=some 24) (Nj:=some 28) (bz_ 9 31) (bz_ 9 61) rfl rfl rfl rfl da' ba' ba' (fun K hK=>?_) (fun K hK=>?_)
   ·skip
    refine Kd.R_make_step (Kd.int .i64) _ 3 ca' (N:=24) rfl 27 _ _ rfl (s.nd.length : Int) ca' ca' Tryz.underlying27 (.int .i64 0) 8 Ud' rfl ba' aa' 0 (ok:=fun _=>True) (okp:=fun _=>True) rfl (fun _ hk=>hk) trivial aa' ka' (Below.refl _ _) (Nat.le_refl _) ?_
    intro v24 wm1 ho hb _ _
    rw [Int.toNat_natCast] at ho
    obtain ⟨A24,c24,e_⟩:=Kd.R_slice ho
    rw [List.length_replicate] at e_
    subst e_
    have HF2:=qz.mk (HF1.o.make4 ho hb)
    clear ho hb
    refine hK.out _ _ trivial (fun hHeld=>?_)
    clear hK K
    refine zd' (a':=?_) ?_ ?_
    rotate_left
    ·show Act.put _ (some 24) _ = _
     simp only [Act.put,List.setIfInBounds_toArray,List.set_cons_zero,List.set_cons_succ,Bd',Cd']
     rfl
    refine Td' (i:=5) (N:=some 28) (bz_ 9 63) rfl rfl da' ba' (fun K hK=>?_)
    refine Kd.R_make_step (Kd.int .i64) _ 3 ca' (N:=28) rfl 27 _ _ rfl (s.nd.length : Int) ca' ca' Tryz.underlying27 (.int .i64 0) 8 Ud' rfl ba' aa' 0 (ok:=fun _=>True) (okp:=fun _=>True) rfl (fun _ hk=>hk) trivial aa' ka' (Below.refl _ _) (Nat.le_refl _) ?_
    intro v28 wm2 ho hb _ _
    rw [Int.toNat_natCast] at ho
    obtain ⟨A28,c28,e_⟩:=Kd.R_slice ho
    rw [List.length_replicate] at e_
    subst e_
    have HF3:=qz.mk (HF2.o.make6 ho hb)
    clear ho hb
    refine hK.out _ _ trivial (fun hHeld=>?_)
    clear hK K
    refine zd' (a':=?_) ?_ ?_
    rotate_left
    ·show Act.put _ (some 28) _ = _
     simp only [Act.put,List.setIfInBounds_toArray,List.set_cons_zero,List.set_cons_succ,Bd',Cd']
     rfl
    exact zd' ua' (hCont ((A24,c24),(A26,c26),(A28,c28)) _ HF3.o)
   skip
   refine Kd.R_make_step (Kd.int .i64) _ 3 ca' (N:=28) rfl 27 _ _ rfl (s.nd.length : Int) ca' ca' Tryz.underlying27 (.int .i64 0) 8 Ud' rfl ba' aa' 0 (ok:=fun _=>True) (okp:=fun _=>True) rfl (fun _ hk=>hk) trivial aa' ka' (Below.refl _ _) (Nat.le_refl _) ?_
   intro v28 wm1 ho hb _ _
   rw [Int.toNat_natCast] at ho
   obtain ⟨A28,c28,e_⟩:=Kd.R_slice ho
   rw [List.length_replicate] at e_
   subst e_
   have HF2:=qz.mk (HF1.o.make6 ho hb)
   clear ho hb
   refine hK.out _ _ trivial (fun hHeld=>?_)
   clear hK K
   refine zd' (a':=?_) ?_ ?_
   rotate_left
   ·show Act.put _ (some 28) _ = _
    simp only [Act.put,List.setIfInBounds_toArray,List.set_cons_zero,List.set_cons_succ,Bd',Cd']
    rfl
   refine Td' (i:=1) (N:=some 24) (bz_ 9 63) rfl rfl da' ba' (fun K hK=>?_)
   refine Kd.R_make_step (Kd.int .i64) _ 3 ca' (N:=24) rfl 27 _ _ rfl (s.nd.length : Int) ca' ca' Tryz.underlying27 (.int .i64 0) 8 Ud' rfl ba' aa' 0 (ok:=fun _=>True) (okp:=fun _=>True) rfl (fun _ hk=>hk) trivial aa' ka' (Below.refl _ _) (Nat.le_refl _) ?_
   intro v24 wm2 ho hb _ _
   rw [Int.toNat_natCast] at ho
   obtain ⟨A24,c24,e_⟩:=Kd.R_slice ho
   rw [List.length_replicate] at e_
   subst e_
   have HF3:=qz.mk (HF2.o.make4 ho hb)
   clear ho hb
   refine hK.out _ _ trivial (fun hHeld=>?_)
   clear hK K
   refine zd' (a':=?_) ?_ ?_
   rotate_left
   ·show Act.put _ (some 24) _ = _
    simp only [Act.put,List.setIfInBounds_toArray,List.set_cons_zero,List.set_cons_succ,Bd',Cd']
    rfl
   exact zd' ua' (hCont ((A24,c24),(A26,c26),(A28,c28)) _ HF3.o)
  skip
  refine Kd.R_make_step (Kd.int .i64) _ 3 ca' (N:=28) rfl 27 _ _ rfl (s.nd.length : Int) ca' ca' Tryz.underlying27 (.int .i64 0) 8 Ud' rfl ba' aa' 0 (ok:=fun _=>True) (okp:=fun _=>True) rfl (fun _ hk=>hk) trivial aa' ka' (Below.refl _ _) (Nat.le_refl _) ?_
  intro v28 wm0 ho hb _ _
  rw [Int.toNat_natCast] at ho
  obtain ⟨A28,c28,e_⟩:=Kd.R_slice ho
  rw [List.length_replicate] at e_
  subst e_
  have HF1:=qz.mk (HF0.o.make6 ho hb)
  clear ho hb
  refine hK.out _ _ trivial (fun hHeld=>?_)
  clear hK K
  refine zd' (a':=?_) ?_ ?_
  rotate_left
  ·show Act.put _ (some 28) _ = _
   simp only [Act.put,List.setIfInBounds_toArray,List.set_cons_zero,List.set_cons_succ,Bd',Cd']
   rfl
  refine Vg' (i:=1) (j:=3) (Ni:=some 24) (Nj:=some 26) (bz_ 9 55) (bz_ 9 61) rfl rfl rfl rfl da' ba' ba' (fun K hK=>?_) (fun K hK=>?_)
  ·skip
   refine Kd.R_make_step (Kd.int .i64) _ 3 ca' (N:=24) rfl 27 _ _ rfl (s.nd.length : Int) ca' ca' Tryz.underlying27 (.int .i64 0) 8 Ud' rfl ba' aa' 0 (ok:=fun _=>True) (okp:=fun _=>True) rfl (fun _ hk=>hk) trivial aa' ka' (Below.refl _ _) (Nat.le_refl _) ?_
   intro v24 wm1 ho hb _ _
   rw [Int.toNat_natCast] at ho
   obtain ⟨A24,c24,e_⟩:=Kd.R_slice ho
   rw [List.length_replicate] at e_
   subst e_
   have HF2:=qz.mk (HF1.o.make4 ho hb)
   clear ho hb
   refine hK.out _ _ trivial (fun hHeld=>?_)
   clear hK K
   refine zd' (a':=?_) ?_ ?_
   rotate_left
   ·show Act.put _ (some 24) _ = _
    simp only [Act.put,List.setIfInBounds_toArray,List.set_cons_zero,List.set_cons_succ,Bd',Cd']
    rfl
   refine Td' (i:=3) (N:=some 26) (bz_ 9 63) rfl rfl da' ba' (fun K hK=>?_)
   refine Kd.R_make_step k56 _ 56 ca' (N:=26) rfl 49 _ _ rfl (s.nd.length : Int) ca' ca' Tryz.underlying49 (.agg #[.int .i64 0,.int .i64 0]) 16 Ff' rfl ba' aa' (⟨0,0⟩ : S56) (ok:=fun _=>True) (okp:=fun _=>True) (cf' _ _ _ (⟨0,0⟩ : S56)) (fun _ hk=>hk) trivial aa' ka' (Below.refl _ _) (Nat.le_refl _) ?_
   intro v26 wm2 ho hb _ _
   rw [Int.toNat_natCast] at ho
   obtain ⟨A26,c26,e_⟩:=Kd.R_slice ho
   rw [List.length_replicate] at e_
   subst e_
   have HF3:=qz.mk (HF2.o.make5 ho hb)
   clear ho hb
   refine hK.out _ _ trivial (fun hHeld=>?_)
   clear hK K
   refine zd' (a':=?_) ?_ ?_
   rotate_left
   ·show Act.put _ (some 26) _ = _
    simp only [Act.put,List.setIfInBounds_toArray,List.set_cons_zero,List.set_cons_succ,Bd',Cd']
    rfl
   exact zd' ua' (hCont ((A24,c24),(A26,c26),(A28,c28)) _ HF3.o)
  skip
  refine Kd.R_make_step k56 _ 56 ca' (N:=26) rfl 49 _ _ rfl (s.nd.length : Int) ca' ca' Tryz.underlying49 (.agg #[.int .i64 0,.int .i64 0]) 16 Ff' rfl ba' aa' (⟨0,0⟩ : S56) (ok:=fun _=>True) (okp:=fun _=>True) (cf' _ _ _ (⟨0,0⟩ : S56)) (fun _ hk=>hk) trivial aa' ka' (Below.refl _ _) (Nat.le_refl _) ?_
  intro v26 wm1 ho hb _ _
  rw [Int.toNat_natCast] at ho
  obtain ⟨A26,c26,e_⟩:=Kd.R_slice ho
  rw [List.length_replicate] at e_
  subst e_
  have HF2:=qz.mk (HF1.o.make5 ho hb)
  clear ho hb
  refine hK.out _ _ trivial (fun hHeld=>?_)
  clear hK K
  refine zd' (a':=?_) ?_ ?_
  rotate_left
  ·show Act.put _ (some 26) _ = _
   simp only [Act.put,List.setIfInBounds_toArray,List.set_cons_zero,List.set_cons_succ,Bd',Cd']
   rfl
  refine Td' (i:=1) (N:=some 24) (bz_ 9 63) rfl rfl da' ba' (fun K hK=>?_)
  refine Kd.R_make_step (Kd.int .i64) _ 3 ca' (N:=24) rfl 27 _ _ rfl (s.nd.length : Int) ca' ca' Tryz.underlying27 (.int .i64 0) 8 Ud' rfl ba' aa' 0 (ok:=fun _=>True) (okp:=fun _=>True) rfl (fun _ hk=>hk) trivial aa' ka' (Below.refl _ _) (Nat.le_refl _) ?_
  intro v24 wm2 ho hb _ _
  rw [Int.toNat_natCast] at ho
  obtain ⟨A24,c24,e_⟩:=Kd.R_slice ho
  rw [List.length_replicate] at e_
  subst e_
  have HF3:=qz.mk (HF2.o.make4 ho hb)
  clear ho hb
  refine hK.out _ _ trivial (fun hHeld=>?_)
  clear hK K
  refine zd' (a':=?_) ?_ ?_
  rotate_left
  ·show Act.put _ (some 24) _ = _
   simp only [Act.put,List.setIfInBounds_toArray,List.set_cons_zero,List.set_cons_succ,Bd',Cd']
   rfl
  exact zd' ua' (hCont ((A24,c24),(A26,c26),(A28,c28)) _ HF3.o)
 rintro ⟨⟨A24,c24⟩,⟨A26,c26⟩,⟨A28,c28⟩⟩ w4 hF
 have HF:=qz.mk hF
 clear hF
 have hHeld:=True.intro
 refine zd' (a':=?_) ?_ ?_
 rotate_left
 ·simp only [bi',Act.put,List.setIfInBounds_toArray,List.set_cons_zero,List.set_cons_succ]
  rfl
 refine pa_ 6 29 (bz_ 9 127) ?_
 refine de' (i:=7) (N:=some 30) (bz_ 9 255) rfl rfl da' ba' (fun K hK=>?_)
 refine jf' (w1:=?_) (v:=?_) ca' rfl ?_ ?_
 rotate_left 2
 ·go_simp
  constructor
  ·rfl
  rfl
 refine hK.out _ _ ?_
 clear hK K
 refine zd' (a':=?_) ?_ ?_
 rotate_left
 ·show Act.put _ (some 30) _ = _
  simp only [Act.put,List.setIfInBounds_toArray,List.set_cons_zero,List.set_cons_succ,Bd',Cd']
  rfl
 refine pa_ 8 5 (bz_ 9 511) ?_
 refine Wd' da' ?_
 obtain ⟨col2,hcl2,hB2,hT2⟩:=HF.o.box
 have HCL:=qz.mk hcl2
 have HB:=qz.mk hB2
 have HTP:=qz.mk hT2
 clear hHeld HF HF0 hc hcl2 hB2 hT2
 generalize w4.alloc _ = w5 at HTP HB ⊢
 generalize w4.heap.size = gt at HTP ⊢
 as_aux_lemma =>
  go_wp2_with fail
  go_loopg [6] (s.nd.length + 1) (fun kq v6 w'=>∃ (i : Int) (t : TI),v6 = .int .i64 i ∧ qz (0 ≤ i ∧ i + kq = s.nd.length + 1 ∧ i ≤ s.nd.length) ∧ qz (rg' s.nd s.mt kq i t = eg' s.nd s.mt) ∧ qz (t.lb.length = s.nd.length ∧ t.ah.length = s.nd.length ∧ t.rt.length = s.nd.length) ∧ qz (Tp w' W.heap.size gt col2 (.slice A24 s.nd.length c24) (.slice A26 s.nd.length c26) (.slice A28 s.nd.length c28) t) ∧ qz (Below W.heap.size W w'))
  case atStart=>exact ⟨0,_,rfl,⟨aa',aa',aa'⟩,⟨rfl⟩,⟨List.length_replicate,List.length_replicate,List.length_replicate⟩,HTP,HB⟩
  clear HTP HB
  obtain ⟨i,t,rfl,HI,HST,HL,HTP,HB⟩:=hrel
  have h:=HST.o
  clear HST
  cases gk with
  | zero =>
   exfalso
   have h1:=HI.o
   omega
  | succ k1 =>
   rw [rg'] at h
   by_cases c : i < (s.nd.length : Int)
   ·rw [if_pos c] at h
    have hi:=HI.o
    have cl0 : decide (i < (s.nd.length : Int)) = true:=decide_eq_true c
    have HIL:=qz.mk c
    have hi1 : wrap64 (i + 1) = i + 1:=w64 aa' pa'
    have HIN : qz (inR i s.nd.length):=⟨⟨hi.1,c⟩⟩
    have HS3:=qz.mk (HS.o.to HB.o)
    obtain ⟨m,b,hmb⟩ : ∃ m b,Fe' (cvs s.nd) i s.mt = (m,b):=⟨_,_,rfl⟩
    rw [hmb] at h
    have HMC:=qz.mk (fun (b' : Bool) (e : b = b')=>Jg' HS3.o i m b' HW.o HM.o H0.o.1 (e ▸ hmb))
    have pi:=eq_true hi.1
    have qi:=eq_true c
    have hp0 : 0 < s.nd.length:=by omega
    clear hmb c
    cases b with
    | true =>
     rw [if_neg (by rintro ⟨-,h⟩;cases h)] at h
     have HST:=qz.mk h
     clear h
     as_aux_lemma =>
      go_upto_region 7 with (first|(go_at_call 62;refine (HMC.o true rfl).mono ?_;rintro e_ w6 ⟨rfl,hb⟩;have HB6:=qz.mk hb;clear hb))
      have BXX : qz ((w6.alloc (.cells #[.int .i64 m.f0,.int .i64 m.f1] 56)).heap[w6.heap.size]? = some (.cells #[.int .i64 m.f0,.int .i64 m.f1] 56 (0,0))):=⟨yd' w6 _⟩
      have HBX : qz (Below w6.heap.size w6 (w6.alloc (.cells #[.int .i64 m.f0,.int .i64 m.f1] 56))):=⟨qo (Below.refl _ _) _⟩
      generalize w6.alloc (.cells #[.int .i64 m.f0,.int .i64 m.f1] 56) = W7 at *
      have HB7:=qz.mk (qy HB.o (qy HB6.o HBX.o))
      have HTP7:=qz.mk (HTP.o.to (qy HB6.o HBX.o))
      have HS7:=qz.mk (HS.o.to HB7.o)
      obtain ⟨b1,hb1⟩ : ∃ b1,Ce' (wd' s.nd i) = b1:=⟨_,rfl⟩
      have HIT:=qz.mk hb1
      clear hb1
      cases b1 <;>
      ·go_wp2_with (first|(go_at_call 20;(with_reducible refine (ne' HS7.o i _ HIN.o HIT.o).mono ?_);rintro e_ w2 ⟨rfl,h2⟩;replace h2:=h2.symm;subst h2))
       go_roundg k1
       case measure=>omega
       case rel=>exact ⟨i + 1,t,la',⟨aa',fa',ga'⟩,HST,HL,HTP7,HB7⟩
    | false =>
     cases hb1 : Ce' (wd' s.nd i) with
     | false =>
      rw [if_neg (by rintro ⟨h,-⟩;rw [hb1] at h;cases h)] at h
      have HST:=qz.mk h
      have HIT:=qz.mk hb1
      clear h hb1
      as_aux_lemma =>
       go_upto_region 7 with (first|(go_at_call 62;refine (HMC.o false rfl).mono ?_;rintro e_ w6 ⟨rfl,hb⟩;have HB6:=qz.mk hb;clear hb))
       have BXX : qz ((w6.alloc (.cells #[.int .i64 m.f0,.int .i64 m.f1] 56)).heap[w6.heap.size]? = some (.cells #[.int .i64 m.f0,.int .i64 m.f1] 56 (0,0))):=⟨yd' w6 _⟩
       have HBX : qz (Below w6.heap.size w6 (w6.alloc (.cells #[.int .i64 m.f0,.int .i64 m.f1] 56))):=⟨qo (Below.refl _ _) _⟩
       generalize w6.alloc (.cells #[.int .i64 m.f0,.int .i64 m.f1] 56) = W7 at *
       have HB7:=qz.mk (qy HB.o (qy HB6.o HBX.o))
       have HTP7:=qz.mk (HTP.o.to (qy HB6.o HBX.o))
       have HS7:=qz.mk (HS.o.to HB7.o)
       go_wp2_with (first|(go_at_call 20;(with_reducible refine (ne' HS7.o i _ HIN.o HIT.o).mono ?_);rintro e_ w2 ⟨rfl,h2⟩;replace h2:=h2.symm;subst h2))
       go_roundg k1
       case measure=>omega
       case rel=>exact ⟨i + 1,t,la',⟨aa',fa',ga'⟩,HST,HL,HTP7,HB7⟩
     | true =>
      rw [if_pos ⟨hb1,rfl⟩] at h
      have HST:=qz.mk h
      have HIT:=qz.mk hb1
      clear h hb1
      as_aux_lemma =>
       go_upto_region 7 with (first|(go_at_call 62;refine (HMC.o false rfl).mono ?_;rintro e_ w6 ⟨rfl,hb⟩;have HB6:=qz.mk hb;clear hb))
       have BXX : qz ((w6.alloc (.cells #[.int .i64 m.f0,.int .i64 m.f1] 56)).heap[w6.heap.size]? = some (.cells #[.int .i64 m.f0,.int .i64 m.f1] 56 (0,0))):=⟨yd' w6 _⟩
       have HBX : qz (Below w6.heap.size w6 (w6.alloc (.cells #[.int .i64 m.f0,.int .i64 m.f1] 56))):=⟨qo (Below.refl _ _) _⟩
       generalize w6.alloc (.cells #[.int .i64 m.f0,.int .i64 m.f1] 56) = W7 at *
       have HB7:=qz.mk (qy HB.o (qy HB6.o HBX.o))
       have HTP7:=qz.mk (HTP.o.to (qy HB6.o HBX.o))
       have HS7:=qz.mk (HS.o.to HB7.o)
       obtain ⟨bl,_,e_,-⟩:=fe' HTP7.o.rl (by have:=HL.o.1;omega)
       injection e_ with e_ e2_ e3_
       clear e2_ e3_
       subst e_
       obtain ⟨ba,_,e_,-⟩:=fe' HTP7.o.ra (by have:=HL.o.2.1;omega)
       injection e_ with e_ e2_ e3_
       clear e2_ e3_
       subst e_
       obtain ⟨br,_,e_,-⟩:=fe' HTP7.o.rr (by have:=HL.o.2.2;omega)
       injection e_ with e_ e2_ e3_
       clear e2_ e3_
       subst e_
       have hct:=HTP7.o.cells
       have qil : i < (t.lb.length : Int):=by rw [HL.o.1];exact HIL.o
       have qir : i < (t.rt.length : Int):=by rw [HL.o.2.2];exact HIL.o
       obtain ⟨gx1,gf1⟩:=Gd' HTP7.o.rl i hi.1 qil
       have HT1:=qz.mk (HTP7.o.sl i 1)
       have HB8:=qz.mk (qp HB7.o (Kd.R_base HTP7.o.rl bl rfl) (j:=i.toNat) (v:=.int .i64 1))
       go_upto_region 9 with (first|(go_at_call 20;(with_reducible refine (ne' HS7.o i _ HIN.o HIT.o).mono ?_);rintro e_ w2 ⟨rfl,h2⟩;replace h2:=h2.symm;subst h2))
       clear gx1 gf1 hct HTP7
       generalize World.setCell _ _ _ = W8 at HT1 HB8 ⊢
       have hct:=HT1.o.cells
       obtain ⟨gx1,gf1⟩:=Gd' HT1.o.rr i hi.1 qir
       have HT2:=qz.mk (HT1.o.sr i i)
       have HB9:=qz.mk (qp HB8.o (Kd.R_base HT1.o.rr br rfl) (j:=i.toNat) (v:=.int .i64 i))
       go_wp2_with fail
       clear gx1 gf1 hct HT1
       generalize World.setCell _ _ _ = W9 at HT2 HB9 ⊢
       go_roundg k1
       case measure=>omega
       case rel=>exact ⟨i + 1,_,la',⟨aa',fa',ga'⟩,HST,⟨by rw [List.length_set];exact HL.o.1,HL.o.2.1,Rb'⟩,HT2,HB9⟩
   rw [if_neg c] at h
   subst h
   have cl0 : decide (i < (s.nd.length : Int)) = false:=decide_eq_false c
   clear c HI
   as_aux_lemma =>
    go_wp2_with fail
    go_loopg [9] k (fun kq v9 w'=>∃ (f : Bool) (t : TI),v9 = .bool f ∧ qz (f = true ∧ bh' N s.y (cvs s.nd) s.mt es kq t = some (T,r) ∨ f = false ∧ t = T ∧ r = -1) ∧ qz (t.lb.length = s.nd.length ∧ t.ah.length = s.nd.length ∧ t.rt.length = s.nd.length) ∧ qz (Tp w' W.heap.size gt col2 (.slice A24 s.nd.length c24) (.slice A26 s.nd.length c26) (.slice A28 s.nd.length c28) t) ∧ qz (Below W.heap.size W w'))
    case atStart=>exact ⟨true,_,rfl,⟨.inl ⟨rfl,HT.o⟩⟩,HL,HTP,HB⟩
    clear HT HL HTP HB
    obtain ⟨f,t,rfl,HT,HL,HTP,HB⟩:=hrel
    rcases HT.o with ⟨rfl,h⟩|⟨rfl,h1,h2⟩
    ·clear HT
     obtain _|k1:=gk
     ·cases h
     rw [bh'] at h
     obtain ⟨q,hq⟩ : ∃ q,Ie' N s.y (cvs s.nd) t.lb es (es.length + 1) 0 = q:=⟨_,rfl⟩
     rw [hq] at h
     have HQ:=qz.mk hq
     have HT:=qz.mk h
     clear hq h
     have hem:=Kd.C_max HS.o.he
     go_wp2_with fail
     go_loopg [9,10] (es.length + 1) (fun ki v9 v10 w'=>∃ (i : Int) (f : Bool) (t' : TI),v9 = .bool f ∧ v10 = .int .i64 i ∧ qz (0 ≤ i ∧ i ≤ es.length) ∧ qz ((f = false ∧ t' = t ∧ (es.length : Int) < i + ki ∧ Ie' N s.y (cvs s.nd) t.lb es ki i = q) ∨ (f = true ∧ bh' N s.y (cvs s.nd) s.mt es k1 t' = some (T,r))) ∧ qz (t'.lb.length = s.nd.length ∧ t'.ah.length = s.nd.length ∧ t'.rt.length = s.nd.length) ∧ qz (Tp w' W.heap.size gt col2 (.slice A24 s.nd.length c24) (.slice A26 s.nd.length c26) (.slice A28 s.nd.length c28) t') ∧ qz (Below W.heap.size W w'))
     case atStart=>exact ⟨0,false,t,rfl,rfl,⟨aa',aa'⟩,⟨.inl ⟨rfl,rfl,aa',HQ.o⟩⟩,HL,HTP,HB⟩
     clear HTP HB HL
     obtain ⟨i,f,t',rfl,rfl,HI,HI2,HL,HTP,HB⟩:=hrel
     have HS3:=qz.mk (HS.o.to HB.o)
     have hc:=HS3.o.cells
     rcases HI2.o with ⟨rfl,rfl,hki,hsc⟩|⟨rfl,hlb⟩
     ·by_cases c : i < (es.length : Int)
      ·cases gk with
       | zero =>
        exfalso
        omega
       | succ ki =>
        rw [Ie',if_pos c] at hsc
        have hi0:=HI.o.1
        have HIL:=qz.mk c
        have HKI:=qz.mk hki
        have cl0 : decide (i < (es.length : Int)) = true:=decide_eq_true c
        have hi1 : wrap64 (i + 1) = i + 1:=w64 aa' aa'
        obtain ⟨adE,e_,he0,he1,he2,he3,he4⟩:=of' (Kd.C_below HS3.o.he HS3.o.hb) i hi0 c
        subst e_
        have HX:=qz.mk (And.intro (HE.o.1 i ⟨hi0,c⟩) (HE.o.2 i ⟨hi0,c⟩))
        have pi:=eq_true hi0
        have qi:=eq_true c
        obtain ⟨X,hX⟩ : ∃ X,ud' es i = X:=⟨_,rfl⟩
        rw [hX] at hsc he0 he1 he2 he3 he4 HX
        have HXE:=qz.mk hX
        clear hX c hki HI2
        as_aux_lemma =>
         go_upto_region 17 with fail
         have BXE : qz ((wr.alloc (.cells #[.int .i64 X.f0,.int .i64 X.f1,.int .i64 X.f2,.int .i64 X.f3,.int .i64 X.f4] 73)).heap[wr.heap.size]? = some (.cells #[.int .i64 X.f0,.int .i64 X.f1,.int .i64 X.f2,.int .i64 X.f3,.int .i64 X.f4] 73 (0,0))):=⟨yd' wr _⟩
         have HBE : qz (Below wr.heap.size wr (wr.alloc (.cells #[.int .i64 X.f0,.int .i64 X.f1,.int .i64 X.f2,.int .i64 X.f3,.int .i64 X.f4] 73))):=⟨qo (Below.refl _ _) _⟩
         generalize wr.alloc (.cells #[.int .i64 X.f0,.int .i64 X.f1,.int .i64 X.f2,.int .i64 X.f3,.int .i64 X.f4] 73) = W2 at *
         have HB2:=qz.mk (qy HB.o HBE.o)
         have HT2:=qz.mk (HTP.o.to HBE.o)
         have HS2:=qz.mk (HS.o.to HB2.o)
         generalize wr.heap.size = ge at BXE ⊢
         clear hc he0 he1 he2 he3 he4 HBE HS3 HTP HB
         have hc:=HS2.o.cells
         have hb0 : W2.cell? ⟨ge,0,none⟩ = some (.int .i64 X.f0):=(qq BXE.o 0).trans rfl
         have hb1 : W2.cell? ⟨ge,1,none⟩ = some (.int .i64 X.f1):=(qq BXE.o 1).trans rfl
         have hb2 : W2.cell? ⟨ge,2,none⟩ = some (.int .i64 X.f2):=(qq BXE.o 2).trans rfl
         have hb3 : W2.cell? ⟨ge,3,none⟩ = some (.int .i64 X.f3):=(qq BXE.o 3).trans rfl
         have hb4 : W2.cell? ⟨ge,4,none⟩ = some (.int .i64 X.f4):=(qq BXE.o 4).trans rfl
         obtain ⟨A,hA⟩ : ∃ A,topI (cvs s.nd) X.f0 = A:=⟨_,rfl⟩
         obtain ⟨B,hB⟩ : ∃ B,topI (cvs s.nd) X.f1 = B:=⟨_,rfl⟩
         have HTA:=qz.mk (ae' HS2.o X.f0 HW.o HX.o.1.1)
         have HTB:=qz.mk (ae' HS2.o X.f1 HW.o HX.o.1.2)
         have HIA:=qz.mk (Nd' HW.o (by rw [Hd'];exact HX.o.1.1))
         have HIB:=qz.mk (Nd' HW.o (by rw [Hd'];exact HX.o.1.2))
         rw [hA,Hd'] at HIA
         rw [hB,Hd'] at HIB
         rw [hA] at HTA
         rw [hB] at HTB
         have HAB:=qz.mk (And.intro hA hB)
         obtain ⟨sl,hsl⟩ : ∃ sl,slackS N s.y (cvs s.nd) X = sl:=⟨_,rfl⟩
         have HSL:=qz.mk (Hi' HS2.o HW.o X HX.o.1.1 HX.o.1.2 HX.o.2.1 HX.o.2.2 HN.o H0.o.2)
         rw [hsl] at HSL
         have HSL2:=qz.mk hsl
         have hp0 : 0 < s.nd.length:=by have h1:=HIA.o.1;have h2:=HIA.o.2;omega
         obtain ⟨bl,_,e_,-⟩:=fe' HT2.o.rl (by have:=HL.o.1;omega)
         injection e_ with e_ e2_ e3_
         clear e2_ e3_
         subst e_
         obtain ⟨ba,_,e_,-⟩:=fe' HT2.o.ra (by have:=HL.o.2.1;omega)
         injection e_ with e_ e2_ e3_
         clear e2_ e3_
         subst e_
         obtain ⟨br,_,e_,-⟩:=fe' HT2.o.rr (by have:=HL.o.2.2;omega)
         injection e_ with e_ e2_ e3_
         clear e2_ e3_
         subst e_
         have pA:=eq_true HIA.o.1
         have qA:=eq_true HIA.o.2
         have pB:=eq_true HIB.o.1
         have qB:=eq_true HIB.o.2
         have qAl : A < (t'.lb.length : Int):=by rw [HL.o.1];exact HIA.o.2
         have qBl : B < (t'.lb.length : Int):=by rw [HL.o.1];exact HIB.o.2
         have HQL:=qz.mk (And.intro qAl qBl)
         clear hA hB hsl qAl qBl
         have hskip : xg' N s.y (cvs s.nd) t'.lb X ↔ (A = B ∨ sl ≠ 0 ∨ (rd t'.lb A ≠ 1 ∧ rd t'.lb B ≠ 1) ∨ rd t'.lb A = 2 ∨ rd t'.lb B = 2):=by unfold xg';rw [HAB.o.1,HAB.o.2,HSL2.o]
         by_cases c1 : A = B
         ·rw [if_pos (hskip.2 (.inl c1))] at hsc
          have HSC:=qz.mk hsc
          have cb1 : (A == B) = true:=by simpa using c1
          clear c1 hsc hskip
          as_aux_lemma=>((go_wp2_with (first|(go_at_call 59;(with_reducible refine HTA.o.mono ?_);rintro e_ w3 ⟨rfl,h2⟩;replace h2:=h2.symm;subst h2)|(go_at_call 59;(with_reducible refine HTB.o.mono ?_);rintro e_ w3 ⟨rfl,h2⟩;replace h2:=h2.symm;subst h2)|(go_at_call 76;(with_reducible refine HSL.o.mono ?_);rintro e_ w5 ⟨rfl,hb⟩;have HT5:=qz.mk (HT2.o.to hb);have HB5:=qz.mk (qy HB2.o hb);have BX5:=qz.mk (qx BXE.o hb);have hct:=HT5.o.cells;obtain ⟨xlA,flA⟩:=Gd' HT5.o.rl A HIA.o.1 HQL.o.1;obtain ⟨xlB,flB⟩:=Gd' HT5.o.rl B HIB.o.1 HQL.o.2;clear hb)));(go_roundg ki);(case measure=>omega);(case rel=>exact ⟨i + 1,false,t',rfl,la',⟨aa',ga'⟩,⟨.inl ⟨rfl,rfl,Fa',HSC.o⟩⟩,HL,wb',xb'⟩))
         have cb1 : (A == B) = false:=by simpa using c1
         by_cases c2 : sl = 0
         ·have cb2 : (sl != 0) = false:=by simpa using c2
          by_cases c3 : rd t'.lb A = 1
          ·have cb3 : (rd t'.lb A != 1) = false:=by simpa using c3
           have cb3' : (rd t'.lb A == 1) = true:=by simpa using c3
           have cb3'' : (rd t'.lb A == 2) = false:=by rw [c3];decide
           by_cases c4 : rd t'.lb B = 2
           ·rw [if_pos (hskip.2 (.inr (.inr (.inr (.inr c4)))))] at hsc
            have HSC:=qz.mk hsc
            have cb4 : (rd t'.lb B == 2) = true:=by simpa using c4
            clear c1 c2 c3 c4 hsc hskip
            as_aux_lemma=>((go_wp2_with (first|(go_at_call 59;(with_reducible refine HTA.o.mono ?_);rintro e_ w3 ⟨rfl,h2⟩;replace h2:=h2.symm;subst h2)|(go_at_call 59;(with_reducible refine HTB.o.mono ?_);rintro e_ w3 ⟨rfl,h2⟩;replace h2:=h2.symm;subst h2)|(go_at_call 76;(with_reducible refine HSL.o.mono ?_);rintro e_ w5 ⟨rfl,hb⟩;have HT5:=qz.mk (HT2.o.to hb);have HB5:=qz.mk (qy HB2.o hb);have BX5:=qz.mk (qx BXE.o hb);have hct:=HT5.o.cells;obtain ⟨xlA,flA⟩:=Gd' HT5.o.rl A HIA.o.1 HQL.o.1;obtain ⟨xlB,flB⟩:=Gd' HT5.o.rl B HIB.o.1 HQL.o.2;clear hb)));(go_roundg ki);(case measure=>omega);(case rel=>exact ⟨i + 1,false,t',rfl,la',⟨aa',ga'⟩,⟨.inl ⟨rfl,rfl,Fa',HSC.o⟩⟩,HL,wb',xb'⟩))
           rw [if_neg (fun h=>(hskip.1 h).elim c1 fun h=>h.elim (fun h=>h c2) fun h=>h.elim (fun h=>h.1 c3) fun h=>h.elim (fun h=>by rw [c3] at h;cases h) c4)] at hsc
           have cb4 : (rd t'.lb B == 2) = false:=by simpa using c4
           have HSC:=qz.mk hsc
           have HC3:=qz.mk c3
           by_cases c5 : rd t'.lb B = 1
           ·have cb5 : (rd t'.lb B == 1) = true:=by simpa using c5
            have HC5:=qz.mk c5
            clear c1 c2 c3 c4 c5 hsc hskip
            as_aux_lemma =>
             go_wp2_with (first|(go_at_call 59;(with_reducible refine HTA.o.mono ?_);rintro e_ w3 ⟨rfl,h2⟩;replace h2:=h2.symm;subst h2)|(go_at_call 59;(with_reducible refine HTB.o.mono ?_);rintro e_ w3 ⟨rfl,h2⟩;replace h2:=h2.symm;subst h2)|(go_at_call 76;(with_reducible refine HSL.o.mono ?_);rintro e_ w5 ⟨rfl,hb⟩;have HT5:=qz.mk (HT2.o.to hb);have HB5:=qz.mk (qy HB2.o hb);have BX5:=qz.mk (qx BXE.o hb);have hct:=HT5.o.cells;obtain ⟨xlA,flA⟩:=Gd' HT5.o.rl A HIA.o.1 HQL.o.1;obtain ⟨xlB,flB⟩:=Gd' HT5.o.rl B HIB.o.1 HQL.o.2;clear hb))
             go_ret2
             obtain rfl:=HSC.o
             have h:=HT.o
             rw [if_neg aa',HXE.o,HAB.o.1,HAB.o.2,if_pos ⟨HC3.o,HC5.o⟩] at h
             injection h with h
             obtain ⟨rfl,rfl⟩:=Prod.mk.inj h
             exact ⟨gt,col2,_,_,_,rfl,HT5.o.lower HS.o.hb.size,HCL.o,HB5.o,HL.o⟩
           have cb5 : (rd t'.lb B == 1) = false:=by simpa using c5
           have HC5:=qz.mk c5
           clear c1 c2 c3 c4 c5 hsc hskip
           as_aux_lemma =>
            go_upto_region 22 with (first|(go_at_call 59;(with_reducible refine HTA.o.mono ?_);rintro e_ w3 ⟨rfl,h2⟩;replace h2:=h2.symm;subst h2)|(go_at_call 59;(with_reducible refine HTB.o.mono ?_);rintro e_ w3 ⟨rfl,h2⟩;replace h2:=h2.symm;subst h2)|(go_at_call 76;(with_reducible refine HSL.o.mono ?_);rintro e_ w5 ⟨rfl,hb⟩;have HT5:=qz.mk (HT2.o.to hb);have HB5:=qz.mk (qy HB2.o hb);have BX5:=qz.mk (qx BXE.o hb);have hct:=HT5.o.cells;obtain ⟨xlA,flA⟩:=Gd' HT5.o.rl A HIA.o.1 HQL.o.1;obtain ⟨xlB,flB⟩:=Gd' HT5.o.rl B HIB.o.1 HQL.o.2;clear hb))
            as_aux_lemma =>
             have hB0 : w5.cell? ⟨ge,0,none⟩ = some (.int .i64 X.f0):=(qq BX5.o 0).trans rfl
             have hB1 : w5.cell? ⟨ge,1,none⟩ = some (.int .i64 X.f1):=(qq BX5.o 1).trans rfl
             go_upto_region 23 with fail
             have BXL : qz ((w5.alloc (.cells #[.int .i64 X.f0,.int .i64 X.f1] 56)).heap[w5.heap.size]? = some (.cells #[.int .i64 X.f0,.int .i64 X.f1] 56 (0,0))):=⟨yd' w5 _⟩
             have HBL : qz (Below w5.heap.size w5 (w5.alloc (.cells #[.int .i64 X.f0,.int .i64 X.f1] 56))):=⟨qo (Below.refl _ _) _⟩
             generalize w5.alloc (.cells #[.int .i64 X.f0,.int .i64 X.f1] 56) = W6 at *
             have HB6:=qz.mk (qy HB5.o HBL.o)
             have HT6:=qz.mk (HT5.o.to HBL.o)
             have HNE : qz (ba < w5.heap.size):=⟨Rc'⟩
             clear hct xlA flA xlB flB hB0 hB1
             have hct:=HT6.o.cells
             obtain ⟨xlA,flA⟩:=Gd' HT6.o.rl A HIA.o.1 HQL.o.1
             go_upto_region 26 with fail
             have HBt:=HB6
             have HTt:=HT6
             have BLt:=BXL
             have HZt : qz (w5.heap.size ≤ W6.heap.size):=⟨HBL.o.size⟩
             clear hct xlA flA
             have HSt:=qz.mk (HS.o.to HBt.o)
             obtain ⟨m,mb,hmm⟩ : ∃ m mb,Fe' (cvs s.nd) B s.mt = (m,mb):=⟨_,_,rfl⟩
             have HMI:=lk' (nd:=cvs s.nd) (t:=B) (mt:=s.mt) (by simpa only [Hd'] using HM.o) (by rw [Hd'];exact hp0)
             rw [hmm,Hd'] at HMI
             replace HMI:=qz.mk HMI
             have HMC:=qz.mk (Jg' HSt.o B m mb HW.o HM.o H0.o.1 hmm)
             have HMM2:=qz.mk hmm
             clear hmm
             go_upto_region 27 with (first|(go_at_call 62;refine HMC.o.mono ?_;rintro e_ w7 ⟨rfl,hb⟩;have HBm:=qz.mk hb;clear hb))
             have BXM : qz ((w7.alloc (.cells #[.int .i64 m.f0,.int .i64 m.f1] 56)).heap[w7.heap.size]? = some (.cells #[.int .i64 m.f0,.int .i64 m.f1] 56 (0,0))):=⟨yd' w7 _⟩
             have HBM : qz (Below w7.heap.size w7 (w7.alloc (.cells #[.int .i64 m.f0,.int .i64 m.f1] 56))):=⟨qo (Below.refl _ _) _⟩
             generalize w7.alloc (.cells #[.int .i64 m.f0,.int .i64 m.f1] 56) = W8 at *
             have HB8:=qz.mk (qy HBt.o (qy HBm.o HBM.o))
             have HT8:=qz.mk (HTt.o.to (qy HBm.o HBM.o))
             have BL8:=qz.mk (qx BLt.o (qy HBm.o HBM.o))
             have HS8:=qz.mk (HS.o.to HB8.o)
             have HNM : qz (w7.heap.size ≠ ba):=⟨Sc'⟩
             have HNL : qz (w5.heap.size ≠ ba):=⟨by have h1:=HNE.o;omega⟩
             have hm1 : W8.cell? ⟨w7.heap.size,1,none⟩ = some (.int .i64 m.f1):=(qq BXM.o 1).trans rfl
             obtain ⟨c,hcc⟩ : ∃ c,topI (cvs s.nd) m.f1 = c:=⟨_,rfl⟩
             have HTC:=ae' HS8.o m.f1 HW.o HMI.o.2
             have HCI:=Nd' HW.o (n:=m.f1) (by rw [Hd'];exact HMI.o.2)
             rw [hcc] at HTC HCI
             rw [Hd'] at HCI
             replace HTC:=qz.mk HTC
             replace HCI:=qz.mk HCI
             have HCC:=qz.mk hcc
             clear hcc
             go_upto_region 28 with (first|(go_at_call 59;(with_reducible refine HTC.o.mono ?_);rintro e_ w3 ⟨rfl,h2⟩;replace h2:=h2.symm;subst h2))
             have hct:=HT8.o.cells
             obtain ⟨gx1,gf1⟩:=Gd' HT8.o.rl B HIB.o.1 HQL.o.2
             have HT9:=qz.mk (HT8.o.sl B 2)
             obtain ⟨dsl,hdl⟩:=row_blk HT8.o.rl
             go_upto_region 29 with fail
             have BL9:=qz.mk (Oe' (b:=bl) (o:=B.toNat) (x:=.int .i64 2) BL8.o hdl ba')
             have BM9:=qz.mk (Oe' (b:=bl) (o:=B.toNat) (x:=.int .i64 2) BXM.o hdl ba')
             have HB9:=qz.mk (qp HB8.o (Kd.R_base HT8.o.rl bl rfl) (j:=B.toNat) (v:=.int .i64 2))
             clear gx1 gf1 hct hm1 HT8 HB8 BL8 BXM hdl HS8 HTC HMC HSt
             generalize World.setCell _ _ _ = W9 at HT9 HB9 BL9 BM9 ⊢
             have qba : B < (t'.ah.length : Int):=by rw [HL.o.2.1];exact HIB.o.2
             have qra : A < (t'.rt.length : Int):=by rw [HL.o.2.2];exact HIA.o.2
             have qrb : B < (t'.rt.length : Int):=by rw [HL.o.2.2];exact HIB.o.2
             obtain ⟨gx1,gx2,gf1,gf2⟩:=Pj' HT9.o.ra B HIB.o.1 qba
             have HT10:=qz.mk (HT9.o.sa B HIB.o.1 qba X.f0 X.f1)
             as_aux_lemma =>
              refine Md' (n:=8) (S:=fun w'=>w'.cell? ⟨gt,1,none⟩ = some (.slice (some ⟨ba,0,none⟩) s.nd.length c26) ∧ w'.cell? ⟨w5.heap.size,0,none⟩ = some (.int .i64 X.f0) ∧ w'.cell? ⟨w5.heap.size,1,none⟩ = some (.int .i64 X.f1)) (ds:=[7]) (Array.replicate 8 false) da' rfl rfl ⟨HT9.o.cells.2.1,(qq BL9.o 0).trans rfl,(qq BL9.o 1).trans rfl⟩ (fun hHeld=>?_)
              refine pa_ 0 198 (bz_ 8 1) ?_
              refine pa_ 1 199 (bz_ 8 3) ?_
              refine pa_ 2 200 (bz_ 8 7) ?_
              refine pa_ 4 202 (bz_ 8 23) ?_
              refine ta_ 3 201 (bz_ 8 31) hHeld (hy:=Or.inl ⟨ca',ra'⟩) (h:=?_)
              refine ta_ 5 203 (bz_ 8 63) hHeld (hy:=Or.inl ⟨ca',ra'⟩) (h:=?_)
              refine pa_ 6 204 (bz_ 8 127) ?_
              refine de' (i:=7) (N:=none) (bz_ 8 255) rfl rfl da' ba' (fun K hK=>?_)
              refine Id' (w1:=?_) ca' rfl ?_ ?_
              rotate_left
              ·go_simp
               rfl
              refine hK.out _ _ ?_
              clear hK K
              refine Wd' da' ?_
              have BM10:=qz.mk (qx (((Below.heap_setCell _ ⟨ba,B.toNat * 2 + 1,none⟩ (.int .i64 X.f1) w7.heap.size HNM.o).trans (Below.heap_setCell W9 ⟨ba,B.toNat * 2,none⟩ (.int .i64 X.f0) w7.heap.size HNM.o)).trans BM9.o) (qh (Below.refl _ _)))
              have HB10:=qz.mk (qy (qp (qp HB9.o (Kd.R_base HT9.o.ra ba rfl) (j:=B.toNat * 2) (v:=.int .i64 X.f0)) (Kd.R_base HT9.o.ra ba rfl) (j:=B.toNat * 2 + 1) (v:=.int .i64 X.f1)) (qh (Below.refl _ _)))
              replace HT10:=qz.mk (HT10.o.to (qh (Below.refl _ _)))
              clear gx1 gx2 gf1 gf2 HT9 HB9 BL9 BM9 hHeld
              generalize World.drew _ = W10 at HT10 HB10 BM10 ⊢
              as_aux_lemma =>
               obtain ⟨gxa,-⟩:=Gd' HT10.o.rr A HIA.o.1 qra
               obtain ⟨gx1,gf1⟩:=Gd' HT10.o.rr B HIB.o.1 qrb
               have HT11:=qz.mk (HT10.o.sr B (rd t'.rt A))
               go_upto_region 30 with fail
               refine Md' (n:=14) (S:=fun w'=>w'.cell? ⟨gt,2,none⟩ = some (.slice (some ⟨br,0,none⟩) s.nd.length c28) ∧ w'.cell? ⟨br,A.toNat,none⟩ = some (.int .i64 (rd t'.rt A))) (ds:=[13]) (Array.replicate 14 false) da' rfl rfl ⟨HT10.o.cells.2.2,gxa⟩ (fun hHeld=>?_)
               refine pa_ 0 205 (bz_ 14 1) ?_
               refine pa_ 1 206 (bz_ 14 3) ?_
               refine pa_ 2 207 (bz_ 14 7) ?_
               refine pa_ 4 209 (bz_ 14 23) ?_
               refine pa_ 5 210 (bz_ 14 55) ?_
               refine pa_ 6 211 (bz_ 14 119) ?_
               refine pa_ 7 212 (bz_ 14 247) ?_
               refine pa_ 9 214 (bz_ 14 759) ?_
               refine ta_ 3 208 (bz_ 14 767) hHeld (hy:=Or.inl ⟨ca',ja'⟩) (h:=?_)
               refine ta_ 8 213 (bz_ 14 1023) hHeld (hy:=Or.inl ⟨ca',ja'⟩) (h:=?_)
               refine pa_ 10 215 (bz_ 14 2047) ?_
               refine ta_ 11 216 (bz_ 14 4095) hHeld (hy:=Or.inl ⟨ca',ja'⟩) (h:=?_)
               refine pa_ 12 217 (bz_ 14 8191) ?_
               refine de' (i:=13) (N:=none) (bz_ 14 16383) rfl rfl da' ba' (fun K hK=>?_)
               refine Id' (w1:=?_) ca' rfl ?_ ?_
               rotate_left
               ·go_simp
                rfl
               refine hK.out _ _ ?_
               clear hK K
               refine Wd' da' ?_
               obtain ⟨dsr,hdr⟩:=row_blk HT10.o.rr
               have BM11:=qz.mk (qx (Oe' (b:=br) (o:=B.toNat) (x:=.int .i64 (rd t'.rt A)) BM10.o hdr ba') (qh (Below.refl _ _)))
               have HB11:=qz.mk (qy (qp HB10.o (Kd.R_base HT10.o.rr br rfl) (j:=B.toNat) (v:=.int .i64 (rd t'.rt A))) (qh (Below.refl _ _)))
               replace HT11:=qz.mk (HT11.o.to (qh (Below.refl _ _)))
               clear gxa gx1 gf1 HT10 HB10 BM10 hHeld hdr
               generalize World.drew _ = W11 at HT11 HB11 BM11 ⊢
               as_aux_lemma =>
                have hct:=HT11.o.cells
                have pc:=eq_true HCI.o.1
                have qc:=eq_true HCI.o.2
                have qcl : c < (((t'.lb.set B.toNat 2).length : Nat) : Int):=by rw [List.length_set,HL.o.1];exact HCI.o.2
                have qca : c < (((t'.ah.set B.toNat ⟨X.f0,X.f1⟩).length : Nat) : Int):=by rw [List.length_set,HL.o.2.1];exact HCI.o.2
                have qcr : c < (((t'.rt.set B.toNat (rd t'.rt A)).length : Nat) : Int):=by rw [List.length_set,HL.o.2.2];exact HCI.o.2
                have qar : A < (((t'.rt.set B.toNat (rd t'.rt A)).length : Nat) : Int):=by rw [List.length_set,HL.o.2.2];exact HIA.o.2
                obtain ⟨gx1,gf1⟩:=Gd' HT11.o.rl c HCI.o.1 qcl
                have HT12:=qz.mk (HT11.o.sl c 1)
                obtain ⟨dsl,hdl⟩:=row_blk HT11.o.rl
                go_upto_region 32 with fail
                have BM12:=qz.mk (Oe' (b:=bl) (o:=c.toNat) (x:=.int .i64 1) BM11.o hdl ba')
                have HB12:=qz.mk (qp HB11.o (Kd.R_base HT11.o.rl bl rfl) (j:=c.toNat) (v:=.int .i64 1))
                clear gx1 gf1 hct HT11 HB11 BM11 hdl
                generalize World.setCell _ _ _ = W12 at HT12 HB12 BM12 ⊢
                obtain ⟨gx1,gx2,gf1,gf2⟩:=Pj' HT12.o.ra c HCI.o.1 qca
                have HT13:=qz.mk (HT12.o.sa c HCI.o.1 qca m.f0 m.f1)
                refine Md' (n:=8) (S:=fun w'=>w'.cell? ⟨gt,1,none⟩ = some (.slice (some ⟨ba,0,none⟩) s.nd.length c26) ∧ w'.cell? ⟨w7.heap.size,0,none⟩ = some (.int .i64 m.f0) ∧ w'.cell? ⟨w7.heap.size,1,none⟩ = some (.int .i64 m.f1)) (ds:=[7]) (Array.replicate 8 false) da' rfl rfl ⟨HT12.o.cells.2.1,(qq BM12.o 0).trans rfl,(qq BM12.o 1).trans rfl⟩ (fun hHeld=>?_)
                refine pa_ 0 224 (bz_ 8 1) ?_
                refine pa_ 1 225 (bz_ 8 3) ?_
                refine pa_ 2 226 (bz_ 8 7) ?_
                refine pa_ 4 228 (bz_ 8 23) ?_
                refine ta_ 3 227 (bz_ 8 31) hHeld (hy:=Or.inl ⟨ca',ra'⟩) (h:=?_)
                refine ta_ 5 229 (bz_ 8 63) hHeld (hy:=Or.inl ⟨ca',ra'⟩) (h:=?_)
                refine pa_ 6 230 (bz_ 8 127) ?_
                refine de' (i:=7) (N:=none) (bz_ 8 255) rfl rfl da' ba' (fun K hK=>?_)
                refine Id' (w1:=?_) ca' rfl ?_ ?_
                rotate_left
                ·go_simp
                 rfl
                refine hK.out _ _ ?_
                clear hK K
                refine Wd' da' ?_
                have HB13:=qz.mk (qy (qp (qp HB12.o (Kd.R_base HT12.o.ra ba rfl) (j:=c.toNat * 2) (v:=.int .i64 m.f0)) (Kd.R_base HT12.o.ra ba rfl) (j:=c.toNat * 2 + 1) (v:=.int .i64 m.f1)) (qh (Below.refl _ _)))
                replace HT13:=qz.mk (HT13.o.to (qh (Below.refl _ _)))
                clear gx1 gx2 gf1 gf2 HT12 HB12 BM12 hHeld
                generalize World.drew _ = W13 at HT13 HB13 ⊢
                as_aux_lemma =>
                 obtain ⟨gxa,-⟩:=Gd' HT13.o.rr A HIA.o.1 qar
                 obtain ⟨gx1,gf1⟩:=Gd' HT13.o.rr c HCI.o.1 qcr
                 have HT14:=qz.mk (HT13.o.sr c (rd (t'.rt.set B.toNat (rd t'.rt A)) A))
                 go_upto_region 33 with fail
                 refine Md' (n:=14) (S:=fun w'=>w'.cell? ⟨gt,2,none⟩ = some (.slice (some ⟨br,0,none⟩) s.nd.length c28) ∧ w'.cell? ⟨br,A.toNat,none⟩ = some (.int .i64 (rd (t'.rt.set B.toNat (rd t'.rt A)) A))) (ds:=[13]) (Array.replicate 14 false) da' rfl rfl ⟨HT13.o.cells.2.2,gxa⟩ (fun hHeld=>?_)
                 refine pa_ 0 231 (bz_ 14 1) ?_
                 refine pa_ 1 232 (bz_ 14 3) ?_
                 refine pa_ 2 233 (bz_ 14 7) ?_
                 refine pa_ 4 235 (bz_ 14 23) ?_
                 refine pa_ 5 236 (bz_ 14 55) ?_
                 refine pa_ 6 237 (bz_ 14 119) ?_
                 refine pa_ 7 238 (bz_ 14 247) ?_
                 refine pa_ 9 240 (bz_ 14 759) ?_
                 refine ta_ 3 234 (bz_ 14 767) hHeld (hy:=Or.inl ⟨ca',ja'⟩) (h:=?_)
                 refine ta_ 8 239 (bz_ 14 1023) hHeld (hy:=Or.inl ⟨ca',ja'⟩) (h:=?_)
                 refine pa_ 10 241 (bz_ 14 2047) ?_
                 refine ta_ 11 242 (bz_ 14 4095) hHeld (hy:=Or.inl ⟨ca',ja'⟩) (h:=?_)
                 refine pa_ 12 243 (bz_ 14 8191) ?_
                 refine de' (i:=13) (N:=none) (bz_ 14 16383) rfl rfl da' ba' (fun K hK=>?_)
                 refine Id' (w1:=?_) ca' rfl ?_ ?_
                 rotate_left
                 ·go_simp
                  rfl
                 refine hK.out _ _ ?_
                 clear hK K
                 refine Wd' da' ?_
                 have HB14:=qz.mk (qy (qp HB13.o (Kd.R_base HT13.o.rr br rfl) (j:=c.toNat) (v:=.int .i64 (rd (t'.rt.set B.toNat (rd t'.rt A)) A))) (qh (Below.refl _ _)))
                 replace HT14:=qz.mk (HT14.o.to (qh (Below.refl _ _)))
                 clear gxa gx1 gf1 HT13 HB13 hHeld
                 generalize World.drew _ = W14 at HT14 HB14 ⊢
                 go_wp2_with fail
                 have hlk : Qh' (cvs s.nd) s.mt t' X = growT t' A B ⟨X.f0,X.f1⟩ m c:=by rw [Qh',HAB.o.1,HAB.o.2,if_pos HC3.o,Ph',HMM2.o,HCC.o]
                 have HLF:=HT.o
                 obtain rfl:=HSC.o
                 rw [if_neg aa',HXE.o,HAB.o.1,HAB.o.2,if_neg Qc'] at HLF
                 rw [hlk] at HLF
                 go_roundg ki
                 case measure=>omega
                 case rel=>exact ⟨i + 1,true,growT t' A B ⟨X.f0,X.f1⟩ m c,rfl,la',⟨aa',ga'⟩,⟨.inr ⟨rfl,HLF⟩⟩,⟨Tc',Uc',Vc'⟩,HT14,HB14⟩
          have cb3 : (rd t'.lb A != 1) = true:=by simpa using c3
          have cb3' : (rd t'.lb A == 1) = false:=by simpa using c3
          by_cases c4 : rd t'.lb B = 1
          ·have cb4 : (rd t'.lb B != 1) = false:=by simpa using c4
           have cb4' : (rd t'.lb B == 1) = true:=by simpa using c4
           have cb4'' : (rd t'.lb B == 2) = false:=by rw [c4];decide
           by_cases c5 : rd t'.lb A = 2
           ·rw [if_pos (hskip.2 (.inr (.inr (.inr (.inl c5)))))] at hsc
            have HSC:=qz.mk hsc
            have cb5 : (rd t'.lb A == 2) = true:=by simpa using c5
            clear c1 c2 c3 c4 c5 hsc hskip
            as_aux_lemma=>((go_wp2_with (first|(go_at_call 59;(with_reducible refine HTA.o.mono ?_);rintro e_ w3 ⟨rfl,h2⟩;replace h2:=h2.symm;subst h2)|(go_at_call 59;(with_reducible refine HTB.o.mono ?_);rintro e_ w3 ⟨rfl,h2⟩;replace h2:=h2.symm;subst h2)|(go_at_call 76;(with_reducible refine HSL.o.mono ?_);rintro e_ w5 ⟨rfl,hb⟩;have HT5:=qz.mk (HT2.o.to hb);have HB5:=qz.mk (qy HB2.o hb);have BX5:=qz.mk (qx BXE.o hb);have hct:=HT5.o.cells;obtain ⟨xlA,flA⟩:=Gd' HT5.o.rl A HIA.o.1 HQL.o.1;obtain ⟨xlB,flB⟩:=Gd' HT5.o.rl B HIB.o.1 HQL.o.2;clear hb)));(go_roundg ki);(case measure=>omega);(case rel=>exact ⟨i + 1,false,t',rfl,la',⟨aa',ga'⟩,⟨.inl ⟨rfl,rfl,Fa',HSC.o⟩⟩,HL,wb',xb'⟩))
           rw [if_neg (fun h=>(hskip.1 h).elim c1 fun h=>h.elim (fun h=>h c2) fun h=>h.elim (fun h=>h.2 c4) fun h=>h.elim c5 (fun h=>by rw [c4] at h;cases h))] at hsc
           have cb5 : (rd t'.lb A == 2) = false:=by simpa using c5
           have HSC:=qz.mk hsc
           have HC3:=qz.mk c3
           clear c1 c2 c3 c4 c5 hsc hskip
           as_aux_lemma =>
            go_upto_region 22 with (first|(go_at_call 59;(with_reducible refine HTA.o.mono ?_);rintro e_ w3 ⟨rfl,h2⟩;replace h2:=h2.symm;subst h2)|(go_at_call 59;(with_reducible refine HTB.o.mono ?_);rintro e_ w3 ⟨rfl,h2⟩;replace h2:=h2.symm;subst h2)|(go_at_call 76;(with_reducible refine HSL.o.mono ?_);rintro e_ w5 ⟨rfl,hb⟩;have HT5:=qz.mk (HT2.o.to hb);have HB5:=qz.mk (qy HB2.o hb);have BX5:=qz.mk (qx BXE.o hb);have hct:=HT5.o.cells;obtain ⟨xlA,flA⟩:=Gd' HT5.o.rl A HIA.o.1 HQL.o.1;obtain ⟨xlB,flB⟩:=Gd' HT5.o.rl B HIB.o.1 HQL.o.2;clear hb))
            as_aux_lemma =>
             have hB0 : w5.cell? ⟨ge,0,none⟩ = some (.int .i64 X.f0):=(qq BX5.o 0).trans rfl
             have hB1 : w5.cell? ⟨ge,1,none⟩ = some (.int .i64 X.f1):=(qq BX5.o 1).trans rfl
             go_upto_region 23 with fail
             have BXL : qz ((w5.alloc (.cells #[.int .i64 X.f0,.int .i64 X.f1] 56)).heap[w5.heap.size]? = some (.cells #[.int .i64 X.f0,.int .i64 X.f1] 56 (0,0))):=⟨yd' w5 _⟩
             have HBL : qz (Below w5.heap.size w5 (w5.alloc (.cells #[.int .i64 X.f0,.int .i64 X.f1] 56))):=⟨qo (Below.refl _ _) _⟩
             generalize w5.alloc (.cells #[.int .i64 X.f0,.int .i64 X.f1] 56) = W6 at *
             have HB6:=qz.mk (qy HB5.o HBL.o)
             have HT6:=qz.mk (HT5.o.to HBL.o)
             have HNE : qz (ba < w5.heap.size):=⟨Rc'⟩
             clear hct xlA flA xlB flB hB0 hB1
             have hct:=HT6.o.cells
             obtain ⟨xlA,flA⟩:=Gd' HT6.o.rl A HIA.o.1 HQL.o.1
             have BX6:=qz.mk (qx BX5.o HBL.o)
             have hB0 : W6.cell? ⟨ge,0,none⟩ = some (.int .i64 X.f0):=(qq BX6.o 0).trans rfl
             have hB1 : W6.cell? ⟨ge,1,none⟩ = some (.int .i64 X.f1):=(qq BX6.o 1).trans rfl
             have hL0 : W6.cell? ⟨w5.heap.size,0,none⟩ = some (.int .i64 X.f0):=(qq BXL.o 0).trans rfl
             have hL1 : W6.cell? ⟨w5.heap.size,1,none⟩ = some (.int .i64 X.f1):=(qq BXL.o 1).trans rfl
             have hf0:=qu BXL.o 0
             have hf1:=qu BXL.o 1
             go_upto_region 26 with fail
             have BLt:=qz.mk (put2 (b0:=.int .i64 X.f1) (b1:=.int .i64 X.f0) BXL.o)
             have HBp:=qz.mk (Nh' (b0:=.int .i64 X.f1) (b1:=.int .i64 X.f0) HBL.o (Nat.le_refl _))
             have HBt:=qz.mk (qy HB5.o HBp.o)
             have HTt:=qz.mk (HT5.o.to HBp.o)
             have HZt:=qz.mk HBp.o.size
             clear hB0 hB1 hL0 hL1 hf0 hf1 BX6 HBp
             generalize World.setCell _ _ _ = W7 at BLt HBt HTt HZt ⊢
             clear hct xlA flA
             have HSt:=qz.mk (HS.o.to HBt.o)
             obtain ⟨m,mb,hmm⟩ : ∃ m mb,Fe' (cvs s.nd) A s.mt = (m,mb):=⟨_,_,rfl⟩
             have HMI:=lk' (nd:=cvs s.nd) (t:=A) (mt:=s.mt) (by simpa only [Hd'] using HM.o) (by rw [Hd'];exact hp0)
             rw [hmm,Hd'] at HMI
             replace HMI:=qz.mk HMI
             have HMC:=qz.mk (Jg' HSt.o A m mb HW.o HM.o H0.o.1 hmm)
             have HMM2:=qz.mk hmm
             clear hmm
             go_upto_region 27 with (first|(go_at_call 62;refine HMC.o.mono ?_;rintro e_ w7 ⟨rfl,hb⟩;have HBm:=qz.mk hb;clear hb))
             have BXM : qz ((w7.alloc (.cells #[.int .i64 m.f0,.int .i64 m.f1] 56)).heap[w7.heap.size]? = some (.cells #[.int .i64 m.f0,.int .i64 m.f1] 56 (0,0))):=⟨yd' w7 _⟩
             have HBM : qz (Below w7.heap.size w7 (w7.alloc (.cells #[.int .i64 m.f0,.int .i64 m.f1] 56))):=⟨qo (Below.refl _ _) _⟩
             generalize w7.alloc (.cells #[.int .i64 m.f0,.int .i64 m.f1] 56) = W8 at *
             have HB8:=qz.mk (qy HBt.o (qy HBm.o HBM.o))
             have HT8:=qz.mk (HTt.o.to (qy HBm.o HBM.o))
             have BL8:=qz.mk (qx BLt.o (qy HBm.o HBM.o))
             have HS8:=qz.mk (HS.o.to HB8.o)
             have HNM : qz (w7.heap.size ≠ ba):=⟨Sc'⟩
             have HNL : qz (w5.heap.size ≠ ba):=⟨by have h1:=HNE.o;omega⟩
             have hm1 : W8.cell? ⟨w7.heap.size,1,none⟩ = some (.int .i64 m.f1):=(qq BXM.o 1).trans rfl
             obtain ⟨c,hcc⟩ : ∃ c,topI (cvs s.nd) m.f1 = c:=⟨_,rfl⟩
             have HTC:=ae' HS8.o m.f1 HW.o HMI.o.2
             have HCI:=Nd' HW.o (n:=m.f1) (by rw [Hd'];exact HMI.o.2)
             rw [hcc] at HTC HCI
             rw [Hd'] at HCI
             replace HTC:=qz.mk HTC
             replace HCI:=qz.mk HCI
             have HCC:=qz.mk hcc
             clear hcc
             go_upto_region 28 with (first|(go_at_call 59;(with_reducible refine HTC.o.mono ?_);rintro e_ w3 ⟨rfl,h2⟩;replace h2:=h2.symm;subst h2))
             have hct:=HT8.o.cells
             obtain ⟨gx1,gf1⟩:=Gd' HT8.o.rl A HIA.o.1 HQL.o.1
             have HT9:=qz.mk (HT8.o.sl A 2)
             obtain ⟨dsl,hdl⟩:=row_blk HT8.o.rl
             go_upto_region 29 with fail
             have BL9:=qz.mk (Oe' (b:=bl) (o:=A.toNat) (x:=.int .i64 2) BL8.o hdl ba')
             have BM9:=qz.mk (Oe' (b:=bl) (o:=A.toNat) (x:=.int .i64 2) BXM.o hdl ba')
             have HB9:=qz.mk (qp HB8.o (Kd.R_base HT8.o.rl bl rfl) (j:=A.toNat) (v:=.int .i64 2))
             clear gx1 gf1 hct hm1 HT8 HB8 BL8 BXM hdl HS8 HTC HMC HSt
             generalize World.setCell _ _ _ = W9 at HT9 HB9 BL9 BM9 ⊢
             have qba : A < (t'.ah.length : Int):=by rw [HL.o.2.1];exact HIA.o.2
             have qra : B < (t'.rt.length : Int):=by rw [HL.o.2.2];exact HIB.o.2
             have qrb : A < (t'.rt.length : Int):=by rw [HL.o.2.2];exact HIA.o.2
             obtain ⟨gx1,gx2,gf1,gf2⟩:=Pj' HT9.o.ra A HIA.o.1 qba
             have HT10:=qz.mk (HT9.o.sa A HIA.o.1 qba X.f1 X.f0)
             as_aux_lemma =>
              refine Md' (n:=8) (S:=fun w'=>w'.cell? ⟨gt,1,none⟩ = some (.slice (some ⟨ba,0,none⟩) s.nd.length c26) ∧ w'.cell? ⟨w5.heap.size,0,none⟩ = some (.int .i64 X.f1) ∧ w'.cell? ⟨w5.heap.size,1,none⟩ = some (.int .i64 X.f0)) (ds:=[7]) (Array.replicate 8 false) da' rfl rfl ⟨HT9.o.cells.2.1,(qq BL9.o 0).trans rfl,(qq BL9.o 1).trans rfl⟩ (fun hHeld=>?_)
              refine pa_ 0 198 (bz_ 8 1) ?_
              refine pa_ 1 199 (bz_ 8 3) ?_
              refine pa_ 2 200 (bz_ 8 7) ?_
              refine pa_ 4 202 (bz_ 8 23) ?_
              refine ta_ 3 201 (bz_ 8 31) hHeld (hy:=Or.inl ⟨ca',ra'⟩) (h:=?_)
              refine ta_ 5 203 (bz_ 8 63) hHeld (hy:=Or.inl ⟨ca',ra'⟩) (h:=?_)
              refine pa_ 6 204 (bz_ 8 127) ?_
              refine de' (i:=7) (N:=none) (bz_ 8 255) rfl rfl da' ba' (fun K hK=>?_)
              refine Id' (w1:=?_) ca' rfl ?_ ?_
              rotate_left
              ·go_simp
               rfl
              refine hK.out _ _ ?_
              clear hK K
              refine Wd' da' ?_
              have BM10:=qz.mk (qx (((Below.heap_setCell _ ⟨ba,A.toNat * 2 + 1,none⟩ (.int .i64 X.f0) w7.heap.size HNM.o).trans (Below.heap_setCell W9 ⟨ba,A.toNat * 2,none⟩ (.int .i64 X.f1) w7.heap.size HNM.o)).trans BM9.o) (qh (Below.refl _ _)))
              have HB10:=qz.mk (qy (qp (qp HB9.o (Kd.R_base HT9.o.ra ba rfl) (j:=A.toNat * 2) (v:=.int .i64 X.f1)) (Kd.R_base HT9.o.ra ba rfl) (j:=A.toNat * 2 + 1) (v:=.int .i64 X.f0)) (qh (Below.refl _ _)))
              replace HT10:=qz.mk (HT10.o.to (qh (Below.refl _ _)))
              clear gx1 gx2 gf1 gf2 HT9 HB9 BL9 BM9 hHeld
              generalize World.drew _ = W10 at HT10 HB10 BM10 ⊢
              as_aux_lemma =>
               obtain ⟨gxa,-⟩:=Gd' HT10.o.rr B HIB.o.1 qra
               obtain ⟨gx1,gf1⟩:=Gd' HT10.o.rr A HIA.o.1 qrb
               have HT11:=qz.mk (HT10.o.sr A (rd t'.rt B))
               go_upto_region 30 with fail
               refine Md' (n:=14) (S:=fun w'=>w'.cell? ⟨gt,2,none⟩ = some (.slice (some ⟨br,0,none⟩) s.nd.length c28) ∧ w'.cell? ⟨br,B.toNat,none⟩ = some (.int .i64 (rd t'.rt B))) (ds:=[13]) (Array.replicate 14 false) da' rfl rfl ⟨HT10.o.cells.2.2,gxa⟩ (fun hHeld=>?_)
               refine pa_ 0 205 (bz_ 14 1) ?_
               refine pa_ 1 206 (bz_ 14 3) ?_
               refine pa_ 2 207 (bz_ 14 7) ?_
               refine pa_ 4 209 (bz_ 14 23) ?_
               refine pa_ 5 210 (bz_ 14 55) ?_
               refine pa_ 6 211 (bz_ 14 119) ?_
               refine pa_ 7 212 (bz_ 14 247) ?_
               refine pa_ 9 214 (bz_ 14 759) ?_
               refine ta_ 3 208 (bz_ 14 767) hHeld (hy:=Or.inl ⟨ca',ja'⟩) (h:=?_)
               refine ta_ 8 213 (bz_ 14 1023) hHeld (hy:=Or.inl ⟨ca',ja'⟩) (h:=?_)
               refine pa_ 10 215 (bz_ 14 2047) ?_
               refine ta_ 11 216 (bz_ 14 4095) hHeld (hy:=Or.inl ⟨ca',ja'⟩) (h:=?_)
               refine pa_ 12 217 (bz_ 14 8191) ?_
               refine de' (i:=13) (N:=none) (bz_ 14 16383) rfl rfl da' ba' (fun K hK=>?_)
               refine Id' (w1:=?_) ca' rfl ?_ ?_
               rotate_left
               ·go_simp
                rfl
               refine hK.out _ _ ?_
               clear hK K
               refine Wd' da' ?_
               obtain ⟨dsr,hdr⟩:=row_blk HT10.o.rr
               have BM11:=qz.mk (qx (Oe' (b:=br) (o:=A.toNat) (x:=.int .i64 (rd t'.rt B)) BM10.o hdr ba') (qh (Below.refl _ _)))
               have HB11:=qz.mk (qy (qp HB10.o (Kd.R_base HT10.o.rr br rfl) (j:=A.toNat) (v:=.int .i64 (rd t'.rt B))) (qh (Below.refl _ _)))
               replace HT11:=qz.mk (HT11.o.to (qh (Below.refl _ _)))
               clear gxa gx1 gf1 HT10 HB10 BM10 hHeld hdr
               generalize World.drew _ = W11 at HT11 HB11 BM11 ⊢
               as_aux_lemma =>
                have hct:=HT11.o.cells
                have pc:=eq_true HCI.o.1
                have qc:=eq_true HCI.o.2
                have qcl : c < (((t'.lb.set A.toNat 2).length : Nat) : Int):=by rw [List.length_set,HL.o.1];exact HCI.o.2
                have qca : c < (((t'.ah.set A.toNat ⟨X.f1,X.f0⟩).length : Nat) : Int):=by rw [List.length_set,HL.o.2.1];exact HCI.o.2
                have qcr : c < (((t'.rt.set A.toNat (rd t'.rt B)).length : Nat) : Int):=by rw [List.length_set,HL.o.2.2];exact HCI.o.2
                have qar : B < (((t'.rt.set A.toNat (rd t'.rt B)).length : Nat) : Int):=by rw [List.length_set,HL.o.2.2];exact HIB.o.2
                obtain ⟨gx1,gf1⟩:=Gd' HT11.o.rl c HCI.o.1 qcl
                have HT12:=qz.mk (HT11.o.sl c 1)
                obtain ⟨dsl,hdl⟩:=row_blk HT11.o.rl
                go_upto_region 32 with fail
                have BM12:=qz.mk (Oe' (b:=bl) (o:=c.toNat) (x:=.int .i64 1) BM11.o hdl ba')
                have HB12:=qz.mk (qp HB11.o (Kd.R_base HT11.o.rl bl rfl) (j:=c.toNat) (v:=.int .i64 1))
                clear gx1 gf1 hct HT11 HB11 BM11 hdl
                generalize World.setCell _ _ _ = W12 at HT12 HB12 BM12 ⊢
                obtain ⟨gx1,gx2,gf1,gf2⟩:=Pj' HT12.o.ra c HCI.o.1 qca
                have HT13:=qz.mk (HT12.o.sa c HCI.o.1 qca m.f0 m.f1)
                refine Md' (n:=8) (S:=fun w'=>w'.cell? ⟨gt,1,none⟩ = some (.slice (some ⟨ba,0,none⟩) s.nd.length c26) ∧ w'.cell? ⟨w7.heap.size,0,none⟩ = some (.int .i64 m.f0) ∧ w'.cell? ⟨w7.heap.size,1,none⟩ = some (.int .i64 m.f1)) (ds:=[7]) (Array.replicate 8 false) da' rfl rfl ⟨HT12.o.cells.2.1,(qq BM12.o 0).trans rfl,(qq BM12.o 1).trans rfl⟩ (fun hHeld=>?_)
                refine pa_ 0 224 (bz_ 8 1) ?_
                refine pa_ 1 225 (bz_ 8 3) ?_
                refine pa_ 2 226 (bz_ 8 7) ?_
                refine pa_ 4 228 (bz_ 8 23) ?_
                refine ta_ 3 227 (bz_ 8 31) hHeld (hy:=Or.inl ⟨ca',ra'⟩) (h:=?_)
                refine ta_ 5 229 (bz_ 8 63) hHeld (hy:=Or.inl ⟨ca',ra'⟩) (h:=?_)
                refine pa_ 6 230 (bz_ 8 127) ?_
                refine de' (i:=7) (N:=none) (bz_ 8 255) rfl rfl da' ba' (fun K hK=>?_)
                refine Id' (w1:=?_) ca' rfl ?_ ?_
                rotate_left
                ·go_simp
                 rfl
                refine hK.out _ _ ?_
                clear hK K
                refine Wd' da' ?_
                have HB13:=qz.mk (qy (qp (qp HB12.o (Kd.R_base HT12.o.ra ba rfl) (j:=c.toNat * 2) (v:=.int .i64 m.f0)) (Kd.R_base HT12.o.ra ba rfl) (j:=c.toNat * 2 + 1) (v:=.int .i64 m.f1)) (qh (Below.refl _ _)))
                replace HT13:=qz.mk (HT13.o.to (qh (Below.refl _ _)))
                clear gx1 gx2 gf1 gf2 HT12 HB12 BM12 hHeld
                generalize World.drew _ = W13 at HT13 HB13 ⊢
                as_aux_lemma =>
                 obtain ⟨gxa,-⟩:=Gd' HT13.o.rr B HIB.o.1 qar
                 obtain ⟨gx1,gf1⟩:=Gd' HT13.o.rr c HCI.o.1 qcr
                 have HT14:=qz.mk (HT13.o.sr c (rd (t'.rt.set A.toNat (rd t'.rt B)) B))
                 go_upto_region 33 with fail
                 refine Md' (n:=14) (S:=fun w'=>w'.cell? ⟨gt,2,none⟩ = some (.slice (some ⟨br,0,none⟩) s.nd.length c28) ∧ w'.cell? ⟨br,B.toNat,none⟩ = some (.int .i64 (rd (t'.rt.set A.toNat (rd t'.rt B)) B))) (ds:=[13]) (Array.replicate 14 false) da' rfl rfl ⟨HT13.o.cells.2.2,gxa⟩ (fun hHeld=>?_)
                 refine pa_ 0 231 (bz_ 14 1) ?_
                 refine pa_ 1 232 (bz_ 14 3) ?_
                 refine pa_ 2 233 (bz_ 14 7) ?_
                 refine pa_ 4 235 (bz_ 14 23) ?_
                 refine pa_ 5 236 (bz_ 14 55) ?_
                 refine pa_ 6 237 (bz_ 14 119) ?_
                 refine pa_ 7 238 (bz_ 14 247) ?_
                 refine pa_ 9 240 (bz_ 14 759) ?_
                 refine ta_ 3 234 (bz_ 14 767) hHeld (hy:=Or.inl ⟨ca',ja'⟩) (h:=?_)
                 refine ta_ 8 239 (bz_ 14 1023) hHeld (hy:=Or.inl ⟨ca',ja'⟩) (h:=?_)
                 refine pa_ 10 241 (bz_ 14 2047) ?_
                 refine ta_ 11 242 (bz_ 14 4095) hHeld (hy:=Or.inl ⟨ca',ja'⟩) (h:=?_)
                 refine pa_ 12 243 (bz_ 14 8191) ?_
                 refine de' (i:=13) (N:=none) (bz_ 14 16383) rfl rfl da' ba' (fun K hK=>?_)
                 refine Id' (w1:=?_) ca' rfl ?_ ?_
                 rotate_left
                 ·go_simp
                  rfl
                 refine hK.out _ _ ?_
                 clear hK K
                 refine Wd' da' ?_
                 have HB14:=qz.mk (qy (qp HB13.o (Kd.R_base HT13.o.rr br rfl) (j:=c.toNat) (v:=.int .i64 (rd (t'.rt.set A.toNat (rd t'.rt B)) B))) (qh (Below.refl _ _)))
                 replace HT14:=qz.mk (HT14.o.to (qh (Below.refl _ _)))
                 clear gxa gx1 gf1 HT13 HB13 hHeld
                 generalize World.drew _ = W14 at HT14 HB14 ⊢
                 go_wp2_with fail
                 have hlk : Qh' (cvs s.nd) s.mt t' X = growT t' B A ⟨X.f1,X.f0⟩ m c:=by rw [Qh',HAB.o.1,HAB.o.2,if_neg HC3.o,Ph',HMM2.o,HCC.o]
                 have HLF:=HT.o
                 obtain rfl:=HSC.o
                 rw [if_neg aa',HXE.o,HAB.o.1,HAB.o.2,if_neg Qc'] at HLF
                 rw [hlk] at HLF
                 go_roundg ki
                 case measure=>omega
                 case rel=>exact ⟨i + 1,true,growT t' B A ⟨X.f1,X.f0⟩ m c,rfl,la',⟨aa',ga'⟩,⟨.inr ⟨rfl,HLF⟩⟩,⟨Tc',Uc',Vc'⟩,HT14,HB14⟩
          rw [if_pos (hskip.2 (.inr (.inr (.inl ⟨c3,c4⟩))))] at hsc
          have HSC:=qz.mk hsc
          have cb4 : (rd t'.lb B != 1) = true:=by simpa using c4
          clear c1 c2 c3 c4 hsc hskip
          as_aux_lemma=>((go_wp2_with (first|(go_at_call 59;(with_reducible refine HTA.o.mono ?_);rintro e_ w3 ⟨rfl,h2⟩;replace h2:=h2.symm;subst h2)|(go_at_call 59;(with_reducible refine HTB.o.mono ?_);rintro e_ w3 ⟨rfl,h2⟩;replace h2:=h2.symm;subst h2)|(go_at_call 76;(with_reducible refine HSL.o.mono ?_);rintro e_ w5 ⟨rfl,hb⟩;have HT5:=qz.mk (HT2.o.to hb);have HB5:=qz.mk (qy HB2.o hb);have BX5:=qz.mk (qx BXE.o hb);have hct:=HT5.o.cells;obtain ⟨xlA,flA⟩:=Gd' HT5.o.rl A HIA.o.1 HQL.o.1;obtain ⟨xlB,flB⟩:=Gd' HT5.o.rl B HIB.o.1 HQL.o.2;clear hb)));(go_roundg ki);(case measure=>omega);(case rel=>exact ⟨i + 1,false,t',rfl,la',⟨aa',ga'⟩,⟨.inl ⟨rfl,rfl,Fa',HSC.o⟩⟩,HL,wb',xb'⟩))
         rw [if_pos (hskip.2 (.inr (.inl c2)))] at hsc
         have HSC:=qz.mk hsc
         have cb2 : (sl != 0) = true:=by simpa using c2
         clear c1 c2 hsc hskip
         as_aux_lemma=>((go_wp2_with (first|(go_at_call 59;(with_reducible refine HTA.o.mono ?_);rintro e_ w3 ⟨rfl,h2⟩;replace h2:=h2.symm;subst h2)|(go_at_call 59;(with_reducible refine HTB.o.mono ?_);rintro e_ w3 ⟨rfl,h2⟩;replace h2:=h2.symm;subst h2)|(go_at_call 76;(with_reducible refine HSL.o.mono ?_);rintro e_ w5 ⟨rfl,hb⟩;have HT5:=qz.mk (HT2.o.to hb);have HB5:=qz.mk (qy HB2.o hb);have BX5:=qz.mk (qx BXE.o hb);have hct:=HT5.o.cells;obtain ⟨xlA,flA⟩:=Gd' HT5.o.rl A HIA.o.1 HQL.o.1;obtain ⟨xlB,flB⟩:=Gd' HT5.o.rl B HIB.o.1 HQL.o.2;clear hb)));(go_roundg ki);(case measure=>omega);(case rel=>exact ⟨i + 1,false,t',rfl,la',⟨aa',ga'⟩,⟨.inl ⟨rfl,rfl,Fa',HSC.o⟩⟩,HL,wb',xb'⟩))
      have cl0 : decide (i < (es.length : Int)) = false:=decide_eq_false c
      have hq : q = -1:=by
       cases gk with
       | zero=>rw [Ie'] at hsc;exact hsc.symm
       | succ k2=>rw [Ie',if_neg c] at hsc;exact hsc.symm
      have h:=HT.o
      rw [if_pos hq] at h
      injection h with h
      obtain ⟨h1,h2⟩:=Prod.mk.inj h
      have HR:=qz.mk (And.intro h1 h2.symm)
      clear c hki hsc h h1 h2 hq HI2
      go_wp2_with fail
      go_roundg k1
      case measure=>omega
      case rel=>exact ⟨false,t',rfl,⟨.inr ⟨rfl,HR.o⟩⟩,HL,HTP,HB⟩
     have HR:=qz.mk hlb
     clear hlb HI2
     obtain ⟨cl,hcl⟩ : ∃ cl,decide (i < (es.length : Int)) = cl:=⟨_,rfl⟩
     cases cl <;>
     ·go_wp2_with fail
      go_roundg k1
      case measure=>omega
      case rel=>exact ⟨true,t',rfl,⟨.inl ⟨rfl,HR.o⟩⟩,HL,HTP,HB⟩
    subst h1
    subst h2
    clear HT
    go_wp2_with fail
    go_ret2
    exact ⟨gt,col2,_,_,_,rfl,HTP.o.lower HS.o.hb.size,HCL.o,HB.o,HL.o⟩
end Go.Proofs.YtnffimpoekjkpaaGreat.QFnExactSolve
