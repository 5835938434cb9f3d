import Derived.Test.YtnffimpoekjkpaaGreatZFnExactSolvex56
set_option linter.all false
namespace Go.Proofs.YtnffimpoekjkpaaGreat.QFnExactSolve
open Go.RowKit Go.Proofs.YtnffimpoekjkpaaGreatW.PrintWords Go.Proofs.YtnffimpoekjkpaaGreatW.PrintLast Go.Proofs.YtnffimpoekjkpaaGreatW.PrintMore
set_option maxHeartbeats 8000000
set_option maxRecDepth 100000
attribute [local go_sem] Od' Pd' Xd' Yd' Jd' Kd' Qd' Rd'
def Gh' (w0 W : World) (g : Nat) (N : Int) (Ae : Option Addr) (ce : Nat) (es : List (S73)) (s : RI) : Prop:=∃ col vy vn vm,Rn w0 W (fun _=>False) w0 g N Ae ce es col vy vn vm s
theorem Rn.is {w0 W : World} {Z : Nat → Prop} {wz : World} {g : Nat} {N : Int} {Ae : Option Addr} {ce : Nat} {es : List (S73)} {col : Nat → Nat} {vy vn vm : Value} {s : RI} (h : Rn w0 W Z wz g N Ae ce es col vy vn vm s) : Gh' w0 W g N Ae ce es s :=
 ⟨col,vy,vn,vm,h.blk,h.ge,h.hb,h.he,h.hec,h.ry,h.rn,h.rm,fun _ h=>h.elim⟩
section
variable {w0 W w' : World} {g : Nat} {col : Nat → Nat}
def Kp (W w' : World) (g : Nat) (col : Nat → Nat) : Prop:=∀ k,4 ≤ col k → k ≠ g → k < W.heap.size → w'.heap[k]? = W.heap[k]?
theorem Rn.kp {N : Int} {Ae : Option Addr} {ce : Nat} {es : List (S73)} {col' : Nat → Nat} {vy vn vm : Value} {s : RI} (h : Rn w0 w' (fun k=>4 ≤ col k ∧ k ≠ g ∧ k < W.heap.size) W g N Ae ce es col' vy vn vm s) : Kp W w' g col:=fun k h1 h2 h3=>(h.hz k ⟨h1,h2,h3⟩).2.2.2
theorem Kp.row {α : Type} {d : Kd α} {e base : Nat} {ok : Nat → Prop} {v : Value} {xs : List α} {cells : Array Value} (h : Kp W w' g col) (hr : d.R e W base ok v xs) (hb : W.heap[g]? = some (.cells cells 51 (0,0))) (ht : ∀ q,q ∈ e :: d.E → q ≠ 51) (hok : ∀ k,ok k → 4 ≤ col k) : d.R e w' base ok v xs :=
 Kd.R_mono (Kd.R_step (Kd.R_types hr hb ht) (fun k ho hk=>h k (hok k ho.1) ho.2 hk)) (fun _ h=>h.1)
theorem Kp.tp {base gt : Nat} {vl va vr : Value} {t : TI} {cells : Array Value} (h : Kp W w' g col) (hT : Tp W base gt col vl va vr t) (hb : W.heap[g]? = some (.cells cells 51 (0,0))) : Tp w' base gt col vl va vr t :=
 ⟨(h gt (by rw [hT.cg];decide) (sm' hT.blk hb ba') (ke' hT.blk)).trans hT.blk,hT.ge,hT.cg,h.row hT.rl hb lg' (fun k hk=>by omega),h.row hT.ra hb zh' (fun k hk=>by omega),h.row hT.rr hb lg' (fun k hk=>by omega)⟩
theorem Kp.blk {b : Nat} {cs cells : Array Value} {ty : TypeId} (h : Kp W w' g col) (hB : W.heap[b]? = some (.cells cs ty (0,0))) (hb : W.heap[g]? = some (.cells cells 51 (0,0))) (ht : ty ≠ 51) (hc : 4 ≤ col b) : w'.heap[b]? = some (.cells cs ty (0,0)) :=
 (h b hc (sm' hB hb ht) (ke' hB)).trans hB
end
structure Ei' (r : RI) (n : Int) : Prop where
 m : ∀ x ∈ r.mt,inR x.f0 r.nd.length ∧ inR x.f1 r.nd.length
 sz : r.mt.length ≤ 1000000
 ni : inR n r.nd.length
 b : xe' r.nd r.mt n = -1 ∨ inR (xe' r.nd r.mt n) r.nd.length
 mem : ∀ m ∈ (wd' r.nd n).f0,inR m r.nd.length
 pos : 0 < (wd' r.nd n).f0.length
 lk : (wd' r.nd n).f0.length ≤ (wd' r.nd n).f1.length
 szf : (wd' r.nd n).f0.length ≤ 1000000
inductive ch' (N : Int) (n0 : Nat) : Nat → RI → RI → Prop
 | done {r : RI} (hl : r.nd.length = n0) (hw : WFn (cvs r.nd)) (h : Zd' (cvs r.nd) [] 0 (r.nd.length + 1) N = -1) : ch' N n0 1 r r
 | more {k : Nat} {r r' : RI} {q : Int} (hl : r.nd.length = n0) (hw : WFn (cvs r.nd)) (h : Zd' (cvs r.nd) [] 0 (r.nd.length + 1) N = q) (hq : q ≠ -1) (hU : Ei' r q) (rest : ch' N n0 k (nf' r q) r') : ch' N n0 (k + 1) r r'
def wlF (nd : List S89) : List Int → List S56 → List S56
 | [],mt=>mt
 | n :: l,mt=>wlF nd l (Of' nd n mt)
def ahF (lb : List Int) (ah : List S56) : List Int → List S56 → List S56
 | [],mt=>mt
 | n :: l,mt=>ahF lb ah l (if rd lb n = 2 then mt ++ [xd' ah n] else mt)
theorem oi' {nd : List S89} {t : Int} : ∀ {mt : List S56} {x : S56},x ∈ Of' nd t mt → x ∈ mt
 | [],x,h=>h
 | y :: l,x,h=>by
  rw [Of'] at h
  split at h
  ·rcases List.mem_cons.1 h with e|h
   ·exact e ▸ List.mem_cons_self
   exact List.mem_cons_of_mem _ (oi' h)
  exact List.mem_cons_of_mem _ (oi' h)
theorem pi' {nd : List S89} {t : Int} : ∀ {mt : List S56},(Of' nd t mt).length ≤ mt.length
 | []=>Nat.le_refl _
 | y :: l=>by
  rw [Of']
  split
  ·simp only [List.length_cons];exact Nat.succ_le_succ pi'
  simp only [List.length_cons];exact Nat.le_succ_of_le pi'
theorem Sg' {w0 W : World} {Z : Nat → Prop} {wz : World} {g : Nat} {N : Int} {Ae : Option Addr} {ce : Nat} {es : List (S73)} {col : Nat → Nat} {vy vn vm : Value} {s : RI} (hS : Rn w0 W Z wz g N Ae ce es col vy vn vm s) (n : Int) (hw : WFn (cvs s.nd)) (hn : inR n s.nd.length) :
  Calls Tryz.prog 59 #[.pointer (some ⟨g,0,none⟩),.int .i64 n] W fun e w'=>e = .returned (.int .i64 (topI (cvs s.nd) n)) ∧ Below W.heap.size W w' :=
 (ae' hS n hw hn).mono fun e w' h=>⟨h.1,by rw [h.2];exact Below.refl _ _⟩
theorem nil_C (w : World) : Kd.C (Kd.int .i64) (w.alloc (.cells #[] 3)) (some ⟨w.heap.size,0,none⟩) ([] : List Int).length [] :=
 (Kd.R_reads' (Oh' (base:=0) (ok:=fun _=>True) (Kd.int .i64) (Nat.zero_le _) (yd' w _) trivial)).2.2
theorem ij' {w0 W : World} {Z : Nat → Prop} {wz : World} {g : Nat} {N : Int} {Ae : Option Addr} {ce : Nat} {es : List (S73)} {col : Nat → Nat} {vy vn vm : Value} {s : RI} (hS : Rn w0 W Z wz g N Ae ce es col vy vn vm s) (hw : WFn (cvs s.nd)) (hN : 0 ≤ N) (hsz : s.nd.length ≤ 1000000) :
  Calls Tryz.prog 78 #[.pointer (some ⟨g,0,none⟩),.slice (some ⟨W.heap.size,0,none⟩) 0 0] (W.alloc (.cells #[] 3)) fun e w'=>e = .returned (.int .i64 (Zd' (cvs s.nd) [] 0 (s.nd.length + 1) N)) ∧ w' = W.alloc (.cells #[] 3) :=
 Ii' (hS.to (qo (Below.refl _ _) _)) hw hN hsz _ 0 [] (nil_C W) (Nat.le_refl _) 0 _ (.inl ⟨rfl,rfl⟩) rfl
theorem mk' {w0 W : World} {Z : Nat → Prop} {wz : World} {g : Nat} {N : Int} {Ae : Option Addr} {ce : Nat} {es : List (S73)} {col : Nat → Nat} {vy vn vm : Value} {s : RI} (hS : Rn w0 W Z wz g N Ae ce es col vy vn vm s) {gt : Nat} {vl va vr : Value} {t : TI} (hT : Tp W w0.heap.size gt col vl va vr t) (hw : WFn (cvs s.nd)) (hm : ∀ x ∈ s.mt,inR x.f0 s.nd.length ∧ inR x.f1 s.nd.length) (hsm : s.mt.length ≤ 1000) (hsz : s.nd.length ≤ 1000000) (hN : 0 ≤ N)
  (X : S73) (hX0 : inR X.f0 s.nd.length) (hX1 : inR X.f1 s.nd.length) (k ko : Nat) (hk : k ≤ 1000) (ws us : List Int) (h1 : wayS (cvs s.nd) t.ah t.rt k (topI (cvs s.nd) X.f0) = some ws) (h2 : wayS (cvs s.nd) t.ah t.rt k (topI (cvs s.nd) X.f1) = some us)
  (hla : ws.length ≤ 1000) (hlb : us.length ≤ 1000) (hws : ∀ n ∈ ws,inR n t.lb.length ∧ inR n t.ah.length) (hus : ∀ n ∈ us,inR n t.lb.length ∧ inR n t.ah.length) (r' : RI)
  (ho : ch' N s.nd.length ko { s with mt:=ahF t.lb t.ah us (ahF t.lb t.ah ws (wlF (cvs s.nd) us (wlF (cvs s.nd) ws s.mt) ++ [⟨X.f0,X.f1⟩])) } r') :
  Calls Tryz.prog 61 #[.pointer (some ⟨g,0,none⟩),.pointer (some ⟨gt,0,none⟩),.agg #[.int .i64 X.f0,.int .i64 X.f1,.int .i64 X.f2,.int .i64 X.f3,.int .i64 X.f4]] W fun e w'=>e = .returned (.tuple #[]) ∧ Gh' w0 w' g N Ae ce es r':=by
 have hu51:=Tryz.underlying51
 have hu77:=Tryz.underlying77
 have hu56:=Tryz.underlying56
 have hu73:=Tryz.underlying73
 have hu35:=Tryz.underlying35
 have HS:=qz.mk hS
 clear hS
 have hu27:=Tryz.underlying27
 have hu49:=Tryz.underlying49
 have hu102:=Tryz.underlying102
 have hu127:=Tryz.underlying127
 have HTP:=qz.mk hT
 have HW:=qz.mk hw
 have HM:=qz.mk hm
 have H0:=qz.mk (And.intro hsm (And.intro hsz (And.intro hla (And.intro hlb hk))))
 have HN:=qz.mk hN
 have HX:=qz.mk (And.intro hX0 hX1)
 have HWA:=qz.mk (And.intro h1 h2)
 have HAS:=qz.mk hws
 have HBS:=qz.mk hus
 have HO:=qz.mk ho
 obtain ⟨A,hA⟩ : ∃ A,topI (cvs s.nd) X.f0 = A:=⟨_,rfl⟩
 obtain ⟨B,hB⟩ : ∃ B,topI (cvs s.nd) X.f1 = B:=⟨_,rfl⟩
 rw [hA,hB] at HWA
 have HAB:=qz.mk (And.intro hA hB)
 clear hT hw hm hsm hsz hla hlb hk hN hX0 hX1 h1 h2 hws hus ho hA hB
 go_enter Tryz.func61,Tryz.ntmps61
 go_upto_region 1 with fail
 have BX1 : qz ((W.alloc (.cells #[.int .i64 X.f0,.int .i64 X.f1,.int .i64 X.f2,.int .i64 X.f3,.int .i64 X.f4] 73)).heap[W.heap.size]? = some (.cells #[.int .i64 X.f0,.int .i64 X.f1,.int .i64 X.f2,.int .i64 X.f3,.int .i64 X.f4] 73 (0,0))):=⟨yd' W _⟩
 have HB1 : qz (Below W.heap.size W (W.alloc (.cells #[.int .i64 X.f0,.int .i64 X.f1,.int .i64 X.f2,.int .i64 X.f3,.int .i64 X.f4] 73))):=⟨qo (Below.refl _ _) _⟩
 generalize W.alloc (.cells #[.int .i64 X.f0,.int .i64 X.f1,.int .i64 X.f2,.int .i64 X.f3,.int .i64 X.f4] 73) = W1 at *
 have HC8 : qz (∀ k,W.heap.size ≤ k → (if W.heap.size ≤ k then 8 else col k) = 8):=⟨fun k hk=>if_pos hk⟩
 have HS0:=qz.mk (HS.o.ahead 8)
 have HT0:=qz.mk (HTP.o.ahead 8)
 generalize hcol : (fun k=>if W.heap.size ≤ k then 8 else col k) = col8 at HS0 HT0
 replace HC8 : qz (∀ k,W.heap.size ≤ k → col8 k = 8):=⟨fun k hk=>by rw [← hcol];exact HC8.o k hk⟩
 clear hcol HS HTP
 have HB1d:=qz.mk (qy HB1.o (qh (Below.refl _ _)))
 have HS1:=qz.mk (HS0.o.to HB1d.o)
 have HT1:=qz.mk (HT0.o.to HB1d.o)
 refine Md' (n:=16) (S:=fun w'=>w'.cell? ⟨W.heap.size,0,none⟩ = some (.int .i64 X.f0) ∧ w'.cell? ⟨W.heap.size,1,none⟩ = some (.int .i64 X.f1)) (ds:=[14]) (Array.replicate 16 false) da' rfl rfl ⟨(qq BX1.o 0).trans rfl,(qq BX1.o 1).trans rfl⟩ (fun hHeld=>?_)
 refine pa_ 0 12 (bz_ 16 1) ?_
 refine pa_ 1 13 (bz_ 16 3) ?_
 refine pa_ 2 14 (bz_ 16 7) ?_
 refine pa_ 3 15 (bz_ 16 15) ?_
 refine pa_ 7 19 (bz_ 16 143) ?_
 refine pa_ 8 20 (bz_ 16 399) ?_
 refine pa_ 9 21 (bz_ 16 911) ?_
 refine pa_ 10 22 (bz_ 16 1935) ?_
 refine ta_ 4 16 (bz_ 16 1951) hHeld (hy:=Or.inl ⟨ca',ja'⟩) (h:=?_)
 refine ta_ 11 23 (bz_ 16 3999) hHeld (hy:=Or.inl ⟨ca',ja'⟩) (h:=?_)
 refine Td' (i:=5) (N:=some 17) (bz_ 16 4031) rfl rfl da' ba' (fun K hK=>?_)
 refine goes_ Tryz.func59 da' rfl #[.pointer (some ⟨g,0,none⟩),.int .i64 X.f0] ca' rfl rfl xa' ?_
 refine (Sg' HS1.o X.f0 HW.o HX.o.1).mono ?_
 rintro e_ wc1 ⟨rfl,hb⟩
 try rw [HAB.o.1]
 have HB2:=qz.mk hb
 have HS2:=qz.mk (HS1.o.to hb)
 have HT2:=qz.mk (HT1.o.to hb)
 refine ⟨_,rfl,?_⟩
 refine hK.out _ _ ⟨vd' hb hHeld.1,vd' hb hHeld.2⟩ (fun hHeld=>?_)
 clear hK K
 refine zd' (a':=?_) ?_ ?_
 rotate_left
 ·show Act.put _ (some 17) _ = _
  simp only [Act.put,List.setIfInBounds_toArray,List.set_cons_zero,List.set_cons_succ,Bd',Cd']
  rfl
 refine Td' (i:=6) (N:=some 18) (bz_ 16 4095) rfl rfl da' ba' (fun K hK=>?_)
 refine goes_ Tryz.func79 da' rfl #[.pointer (some ⟨g,0,none⟩),.pointer (some ⟨gt,0,none⟩),.int .i64 A] ca' rfl rfl xa' ?_
 refine (Zg' HS2.o HT2.o HW.o k pa' A ws HWA.o.1).mono ?_
 rintro e_ wc2 ⟨va_,rfl,hr,hb⟩
 obtain ⟨Aa,ca,e_⟩:=Kd.R_slice hr
 subst e_
 have HR8:=qz.mk hr
 have HB3:=qz.mk hb
 have HS3:=qz.mk (HS2.o.to hb)
 have HT3:=qz.mk (HT2.o.to hb)
 clear hr
 refine ⟨_,rfl,?_⟩
 refine hK.out _ _ ⟨vd' hb hHeld.1,vd' hb hHeld.2⟩ (fun hHeld=>?_)
 clear hK K
 refine zd' (a':=?_) ?_ ?_
 rotate_left
 ·show Act.put _ (some 18) _ = _
  simp only [Act.put,List.setIfInBounds_toArray,List.set_cons_zero,List.set_cons_succ,Bd',Cd']
  rfl
 refine Td' (i:=12) (N:=some 24) (bz_ 16 8191) rfl rfl da' ba' (fun K hK=>?_)
 refine goes_ Tryz.func59 da' rfl #[.pointer (some ⟨g,0,none⟩),.int .i64 X.f1] ca' rfl rfl xa' ?_
 refine (Sg' HS3.o X.f1 HW.o HX.o.2).mono ?_
 rintro e_ wc3 ⟨rfl,hb⟩
 try rw [HAB.o.2]
 have HB4:=qz.mk hb
 have HS4:=qz.mk (HS3.o.to hb)
 have HT4:=qz.mk (HT3.o.to hb)
 refine ⟨_,rfl,?_⟩
 refine hK.out _ _ ⟨vd' hb hHeld.1,vd' hb hHeld.2⟩ (fun hHeld=>?_)
 clear hK K
 refine zd' (a':=?_) ?_ ?_
 rotate_left
 ·show Act.put _ (some 24) _ = _
  simp only [Act.put,List.setIfInBounds_toArray,List.set_cons_zero,List.set_cons_succ,Bd',Cd']
  rfl
 refine Td' (i:=13) (N:=some 25) (bz_ 16 16383) rfl rfl da' ba' (fun K hK=>?_)
 refine goes_ Tryz.func79 da' rfl #[.pointer (some ⟨g,0,none⟩),.pointer (some ⟨gt,0,none⟩),.int .i64 B] ca' rfl rfl xa' ?_
 refine (Zg' HS4.o HT4.o HW.o k pa' B us HWA.o.2).mono ?_
 rintro e_ wc4 ⟨vb_,rfl,hr,hb⟩
 obtain ⟨Ab,cb,e_⟩:=Kd.R_slice hr
 subst e_
 have HR9:=qz.mk hr
 have HB5:=qz.mk hb
 have HS5:=qz.mk (HS4.o.to hb)
 have HT5:=qz.mk (HT4.o.to hb)
 clear hr
 refine ⟨_,rfl,?_⟩
 refine hK.out _ _ ⟨vd' hb hHeld.1,vd' hb hHeld.2⟩ (fun hHeld=>?_)
 clear hK K
 refine zd' (a':=?_) ?_ ?_
 rotate_left
 ·show Act.put _ (some 25) _ = _
  simp only [Act.put,List.setIfInBounds_toArray,List.set_cons_zero,List.set_cons_succ,Bd',Cd']
  rfl
 refine de' (i:=14) (N:=some 26) (bz_ 16 32767) rfl rfl da' ba' (fun K hK=>?_)
 refine jf' (w1:=?_) (v:=?_) ca' rfl ?_ ?_
 rotate_left 2
 ·go_simp
  constructor
  ·rfl
  rfl
 refine hK.out _ _ ?_
 clear hK K
 refine zd' (a':=?_) ?_ ?_
 rotate_left
 ·show Act.put _ (some 26) _ = _
  simp only [Act.put,List.setIfInBounds_toArray,List.set_cons_zero,List.set_cons_succ,Bd',Cd']
  rfl
 refine pa_ 15 6 (bz_ 16 65535) ?_
 refine Wd' da' ?_
 have BXW : qz ((wc4.alloc (.cells #[.slice Aa ws.length ca,.slice Ab us.length cb] 27)).heap[wc4.heap.size]? = some (.cells #[.slice Aa ws.length ca,.slice Ab us.length cb] 27 (0,0))):=⟨yd' wc4 _⟩
 have HBW : qz (Below wc4.heap.size wc4 (wc4.alloc (.cells #[.slice Aa ws.length ca,.slice Ab us.length cb] 27))):=⟨qo (Below.refl _ _) _⟩
 generalize wc4.alloc (.cells #[.slice Aa ws.length ca,.slice Ab us.length cb] 27) = W6 at *
 have HB6:=qz.mk (qy HB1d.o (qy HB2.o (qy HB3.o (qy HB4.o (qy HB5.o HBW.o)))))
 have HZ1 : qz (W.heap.size ≤ wc1.heap.size ∧ W.heap.size ≤ wc3.heap.size ∧ W.heap.size ≤ wc4.heap.size):=⟨by have h1:=HB1d.o.size;have h2:=HB2.o.size;have h3:=HB3.o.size;have h4:=HB4.o.size;have h5:=HB5.o.size;omega⟩
 have HRa : qz (Kd.R (Kd.int .i64) 3 W6 wc1.heap.size (fun k=>col8 k = 8) (.slice Aa ws.length ca) ws):=⟨Kd.R_mono (Kd.R_bound (Kd.R_below HR8.o (qy HB4.o (qy HB5.o HBW.o)))) (by rintro k ⟨_,h1,_⟩;exact HC8.o k (Nat.le_trans HZ1.o.1 h1))⟩
 have HRb : qz (Kd.R (Kd.int .i64) 3 W6 wc3.heap.size (fun k=>col8 k = 8) (.slice Ab us.length cb) us):=⟨Kd.R_mono (Kd.R_bound (Kd.R_below HR9.o HBW.o)) (by rintro k ⟨_,h1,_⟩;exact HC8.o k (Nat.le_trans HZ1.o.2.1 h1))⟩
 have HTz:=qz.mk (HT5.o.to HBW.o)
 have BE:=qz.mk (qx BX1.o (qy (qh (Below.refl _ _)) (qy HB2.o (qy HB3.o (qy HB4.o (qy HB5.o HBW.o))))))
 have HSk:=qz.mk ((HS5.o.to HBW.o).keep (Z':=fun k=>4 ≤ col8 k ∧ k ≠ g ∧ k < W6.heap.size) (fun k h=>h))
 have HCB : qz (4 ≤ col8 W.heap.size ∧ 4 ≤ col8 wc4.heap.size):=⟨by rw [HC8.o _ (Nat.le_refl _),HC8.o _ HZ1.o.2.2];decide⟩
 have HB39:=qz.mk HSk.o.blk
 generalize wc4.heap.size = gw at BXW HCB ⊢
 generalize W.heap.size = gb at BE HCB ⊢
 clear hHeld HB1 HB1d HB2 HB3 HB4 HB5 HBW HB6 HZ1 HR8 HR9 HT0 HT1 HT2 HT3 HT4 HT5 HS0 HS1 HS2 HS3 HS4 HS5 HC8 BX1 HWA
 obtain ⟨Am,cm,e_⟩:=Kd.R_slice HSk.o.rm
 go_wp2_with fail
 as_aux_lemma =>
  go_loopg [7] 3 (fun kq v7 w'=>∃ (kk : Int) (mt : List S56) (col' : Nat → Nat) (vm' : Value),v7 = .int .i64 kk ∧ qz (kk + kq = 3 ∧ (kk = 0 ∧ mt = s.mt ∨ kk = 1 ∧ mt = wlF (cvs s.nd) ws s.mt ∨ kk = 2 ∧ mt = wlF (cvs s.nd) us (wlF (cvs s.nd) ws s.mt))) ∧ qz ((∀ x ∈ mt,inR x.f0 s.nd.length ∧ inR x.f1 s.nd.length) ∧ mt.length ≤ 1000) ∧ qz (Rn w0 w' (fun k=>4 ≤ col8 k ∧ k ≠ g ∧ k < W6.heap.size) W6 g N Ae ce es col' vy vn vm' { s with mt:=mt }))
  case atStart=>exact ⟨0,s.mt,col8,vm,rfl,⟨aa',.inl ⟨rfl,rfl⟩⟩,⟨HM.o,H0.o.1⟩,HSk⟩
  clear HSk
  obtain ⟨kk,mt,col1,vm1,rfl,HK,HMR,HS⟩:=hrel
  have HKP:=qz.mk HS.o.kp
  have BW2:=qz.mk (HKP.o.blk BXW.o HB39.o ba' HCB.o.2)
  have hw0 : wr.cell? ⟨gw,0,none⟩ = some (.slice Aa ws.length ca):=(qq BW2.o 0).trans rfl
  have hw1 : wr.cell? ⟨gw,1,none⟩ = some (.slice Ab us.length cb):=(qq BW2.o 1).trans rfl
  cases gk with
  | zero =>
   obtain ⟨h1,h2⟩:=HK.o
   exfalso
   omega
  | succ gk1 =>
  rcases HK.o with ⟨hk0,⟨rfl,hmt⟩|⟨rfl,hmt⟩|⟨rfl,hmt⟩⟩
  ·have HK0:=qz.mk hk0
   have HMT:=qz.mk hmt
   clear hk0 hmt HK
   as_aux_lemma =>
    go_wp2_with fail
    go_loopg [8] (ws.length + 1) (fun ki v8 w'=>∃ (i : Int) (mt' : List S56) (col' : Nat → Nat) (vm' : Value),v8 = .int .i64 i ∧ qz (0 ≤ i ∧ i + ki = ws.length + 1 ∧ i ≤ ws.length) ∧ qz (wlF (cvs s.nd) (ws.drop i.toNat) mt' = wlF (cvs s.nd) ws mt) ∧ qz ((∀ x ∈ mt',inR x.f0 s.nd.length ∧ inR x.f1 s.nd.length) ∧ mt'.length ≤ 1000) ∧ qz (Rn w0 w' (fun k=>4 ≤ col8 k ∧ k ≠ g ∧ k < W6.heap.size) W6 g N Ae ce es col' vy vn vm' { s with mt:=mt' }))
    case atStart=>exact ⟨0,mt,_,_,rfl,⟨aa',aa',aa'⟩,⟨rfl⟩,HMR,HS⟩
    clear hw0 hw1 BW2 HS HKP HMR
    obtain ⟨i,mt',col2,vm2,rfl,HI,HTT,HMR,HS⟩:=hrel
    have h:=HTT.o
    clear HTT
    have HKP:=qz.mk HS.o.kp
    have BW2:=qz.mk (HKP.o.blk BXW.o HB39.o ba' HCB.o.2)
    have hw0 : wr.cell? ⟨gw,0,none⟩ = some (.slice Aa ws.length ca):=(qq BW2.o 0).trans rfl
    cases gk with
    | zero =>
     exfalso
     have h1:=HI.o
     omega
    | succ ki =>
     by_cases c : i < (ws.length : Int)
     ·have hi:=HI.o
      rw [Jf' _ _ hi.1 c,wlF] at h
      have HTT:=qz.mk h
      have cl0 : decide (i < (ws.length : Int)) = true:=decide_eq_true c
      have HIL:=qz.mk c
      have HRR:=qz.mk (HKP.o.row HRa.o HB39.o lg' (fun k hk=>by omega))
      obtain ⟨aa,e_,hxi⟩:=Kd.at_int (Kd.R_reads' HRR.o).2.2 i hi.1 c
      subst e_
      have pi:=eq_true hi.1
      have qi:=eq_true c
      clear c hi h
      go_wp2_with (first|(go_at_call 82;refine (ii' HS.o HW.o _ HMR.o.1 Wc').mono ?_;rintro e_ w7 ⟨rfl,col7,vm7,hs,-⟩;have HS7:=qz.mk hs;clear hs))
      go_roundg ki
      case measure=>omega
      case rel=>exact ⟨i + 1,_,col7,vm7,kb',⟨fa',fa',ga'⟩,HTT,⟨fun x hx=>HMR.o.1 x (oi' hx),Nat.le_trans pi' HMR.o.2⟩,HS7⟩
     have hi:=HI.o
     rw [List.drop_eq_nil_of_le aa',wlF] at h
     have cl0 : decide (i < (ws.length : Int)) = false:=decide_eq_false c
     have HTT:=qz.mk h
     clear c hi h
     go_wp2_with fail
     go_roundg gk1
     case measure=>omega
     case rel=>exact ⟨1,mt',_,_,Vb',⟨Ia',.inr (.inl ⟨rfl,Wb'⟩)⟩,HMR,HS⟩
  ·have HK0:=qz.mk hk0
   have HMT:=qz.mk hmt
   clear hk0 hmt HK
   as_aux_lemma =>
    go_wp2_with fail
    go_loopg [8] (us.length + 1) (fun ki v8 w'=>∃ (i : Int) (mt' : List S56) (col' : Nat → Nat) (vm' : Value),v8 = .int .i64 i ∧ qz (0 ≤ i ∧ i + ki = us.length + 1 ∧ i ≤ us.length) ∧ qz (wlF (cvs s.nd) (us.drop i.toNat) mt' = wlF (cvs s.nd) us mt) ∧ qz ((∀ x ∈ mt',inR x.f0 s.nd.length ∧ inR x.f1 s.nd.length) ∧ mt'.length ≤ 1000) ∧ qz (Rn w0 w' (fun k=>4 ≤ col8 k ∧ k ≠ g ∧ k < W6.heap.size) W6 g N Ae ce es col' vy vn vm' { s with mt:=mt' }))
    case atStart=>exact ⟨0,mt,_,_,rfl,⟨aa',aa',aa'⟩,⟨rfl⟩,HMR,HS⟩
    clear hw0 hw1 BW2 HS HKP HMR
    obtain ⟨i,mt',col2,vm2,rfl,HI,HTT,HMR,HS⟩:=hrel
    have h:=HTT.o
    clear HTT
    have HKP:=qz.mk HS.o.kp
    have BW2:=qz.mk (HKP.o.blk BXW.o HB39.o ba' HCB.o.2)
    have hw1 : wr.cell? ⟨gw,1,none⟩ = some (.slice Ab us.length cb):=(qq BW2.o 1).trans rfl
    cases gk with
    | zero =>
     exfalso
     have h1:=HI.o
     omega
    | succ ki =>
     by_cases c : i < (us.length : Int)
     ·have hi:=HI.o
      rw [Jf' _ _ hi.1 c,wlF] at h
      have HTT:=qz.mk h
      have cl0 : decide (i < (us.length : Int)) = true:=decide_eq_true c
      have HIL:=qz.mk c
      have HRR:=qz.mk (HKP.o.row HRb.o HB39.o lg' (fun k hk=>by omega))
      obtain ⟨aa,e_,hxi⟩:=Kd.at_int (Kd.R_reads' HRR.o).2.2 i hi.1 c
      subst e_
      have pi:=eq_true hi.1
      have qi:=eq_true c
      clear c hi h
      go_wp2_with (first|(go_at_call 82;refine (ii' HS.o HW.o _ HMR.o.1 Wc').mono ?_;rintro e_ w7 ⟨rfl,col7,vm7,hs,-⟩;have HS7:=qz.mk hs;clear hs))
      go_roundg ki
      case measure=>omega
      case rel=>exact ⟨i + 1,_,col7,vm7,kb',⟨fa',fa',ga'⟩,HTT,⟨fun x hx=>HMR.o.1 x (oi' hx),Nat.le_trans pi' HMR.o.2⟩,HS7⟩
     have hi:=HI.o
     rw [List.drop_eq_nil_of_le aa',wlF] at h
     have cl0 : decide (i < (us.length : Int)) = false:=decide_eq_false c
     have HTT:=qz.mk h
     clear c hi h
     go_wp2_with fail
     go_roundg gk1
     case measure=>omega
     case rel=>exact ⟨2,mt',_,_,Vb',⟨Ia',.inr (.inr ⟨rfl,Wb'⟩)⟩,HMR,HS⟩
  have HMT:=qz.mk hmt
  clear hk0 hmt HK hw0 hw1 BW2
  as_aux_lemma =>
   have BE2:=qz.mk (HKP.o.blk BE.o HB39.o ba' HCB.o.1)
   go_wp2_with fail
   obtain ⟨Am1,cm1,e_⟩:=Kd.R_slice HS.o.rm
   subst e_
   have HSd:=qz.mk ((HS.o.ahead 3).to (qh (Below.refl _ _)))
   refine Md' (n:=15) (S:=fun w'=>w'.cell? ⟨g,4,none⟩ = some (.slice Am1 mt.length cm1) ∧ w'.cell? ⟨gb,0,none⟩ = some (.int .i64 X.f0) ∧ w'.cell? ⟨gb,1,none⟩ = some (.int .i64 X.f1)) (ds:=[11,14]) (Array.replicate 15 false) da' rfl rfl ⟨HS.o.cells.2.2.2.2.1,(qq BE2.o 0).trans rfl,(qq BE2.o 1).trans rfl⟩ (fun hHeld=>?_)
   refine pa_ 0 49 (bz_ 15 1) ?_
   refine pa_ 1 50 (bz_ 15 3) ?_
   refine pa_ 2 51 (bz_ 15 7) ?_
   refine pa_ 3 52 (bz_ 15 15) ?_
   refine pa_ 5 54 (bz_ 15 47) ?_
   refine pa_ 7 56 (bz_ 15 175) ?_
   refine ta_ 4 53 (bz_ 15 191) hHeld (hy:=Or.inl ⟨ca',ra'⟩) (h:=?_)
   refine ta_ 6 55 (bz_ 15 255) hHeld (hy:=Or.inl ⟨ca',ra'⟩) (h:=?_)
   refine ta_ 8 57 (bz_ 15 511) hHeld (hy:=Or.inl ⟨ca',ra'⟩) (h:=?_)
   refine pa_ 9 58 (bz_ 15 1023) ?_
   refine Td' (i:=10) (N:=some 59) (bz_ 15 2047) rfl rfl da' ba' (fun K hK=>?_)
   refine jf' (w1:=?_) (v:=?_) ca' rfl ?_ ?_
   rotate_left 2
   ·go_simp
    constructor
    ·rfl
    rfl
   refine hK.out _ _ ⟨vd' (qo (Below.refl _ _) _) hHeld.1,vd' (qo (Below.refl _ _) _) hHeld.2.1,vd' (qo (Below.refl _ _) _) hHeld.2.2⟩ (fun hHeld=>?_)
   clear hK K
   refine zd' (a':=?_) ?_ ?_
   rotate_left
   ·show Act.put _ (some 59) _ = _
    simp only [Act.put,List.setIfInBounds_toArray,List.set_cons_zero,List.set_cons_succ,Bd',Cd']
    rfl
   refine de' (i:=11) (N:=some 60) (bz_ 15 4095) rfl rfl da' ba' (fun K hK=>?_)
   refine Kd.R_append_step k56 (w0:=w0) (W:=wr.drew) w0.heap.size ca' (.tmp 53) (.tmp 59) 49 56 (.agg #[.int .i64 0,.int .i64 0]) 16 rfl Tryz.underlying49 Ff' rfl ba' aa' (.slice Am1 mt.length cm1) mt ((⟨X.f0,X.f1⟩ : S56)) [.int .i64 ((⟨X.f0,X.f1⟩ : S56)).f0,.int .i64 ((⟨X.f0,X.f1⟩ : S56)).f1] _ (fun _=>False) ca' ca' (cf' _ _ _ ((⟨X.f0,X.f1⟩ : S56))) (fun _ hk=>hk.elim) (fun q hq=>if_pos hq) HSd.o.rm HSd.o.hb HSd.o.hb.size (by have:=HMR.o.2;omega) ?_
   intro v7 w7 ho hb hg hat
   obtain ⟨A7,c7,e_⟩:=Kd.R_slice ho
   rw [List.length_append,List.length_singleton] at e_
   subst e_
   obtain ⟨hS3,hx3,hf3⟩:=Rn.app_m HSd.o ho hb hg
   have HS8:=qz.mk hS3
   clear hS3 ho hb hg hat
   refine hK.out _ _ ?_
   clear hK K
   refine zd' (a':=?_) ?_ ?_
   rotate_left
   ·show Act.put _ (some 60) _ = _
    simp only [Act.put,List.setIfInBounds_toArray,List.set_cons_zero,List.set_cons_succ,Bd',Cd']
    rfl
   refine pa_ 12 61 (bz_ 15 8191) ?_
   refine pa_ 13 62 (bz_ 15 16383) ?_
   refine de' (i:=14) (N:=none) (bz_ 15 32767) rfl rfl da' ba' (fun K hK=>?_)
   refine Id' (w1:=?_) ca' rfl ?_ ?_
   rotate_left
   ·go_simp
    rfl
   refine hK.out _ _ ?_
   clear hK K
   refine Wd' da' ?_
   clear hx3 hf3 hHeld HSd HS HKP BE2
   have HMR8 : qz ((∀ x ∈ mt ++ [(⟨X.f0,X.f1⟩ : S56)],inR x.f0 s.nd.length ∧ inR x.f1 s.nd.length) ∧ (mt ++ [(⟨X.f0,X.f1⟩ : S56)]).length ≤ 1001):=⟨fun x hx=>by rcases List.mem_append.1 hx with h|h;exact HMR.o.1 x h;rw [List.mem_singleton.1 h];exact HX.o,by rw [List.length_append,List.length_singleton];have:=HMR.o.2;omega⟩
   generalize w7.setCell _ _ = w8 at HS8 ⊢
   rw [← List.length_singleton (a:=(⟨X.f0,X.f1⟩ : S56)),← List.length_append] at HS8
   obtain ⟨mt1,hmt1⟩ : ∃ mt1,mt ++ [(⟨X.f0,X.f1⟩ : S56)] = mt1:=⟨_,rfl⟩
   have HMT1 : qz (wlF (cvs s.nd) us (wlF (cvs s.nd) ws s.mt) ++ [⟨X.f0,X.f1⟩] = mt1):=⟨by rw [← HMT.o];exact hmt1⟩
   rw [hmt1] at HS8 HMR8
   clear HMT HMR hmt1
   go_wp2_with fail
   as_aux_lemma =>
    go_loopg [9] 3 (fun kq v9 w'=>∃ (kk : Int) (mt : List S56) (col' : Nat → Nat) (vm' : Value),v9 = .int .i64 kk ∧ qz (kk + kq = 3 ∧ (kk = 0 ∧ mt = mt1 ∨ kk = 1 ∧ mt = ahF t.lb t.ah ws mt1 ∨ kk = 2 ∧ mt = ahF t.lb t.ah us (ahF t.lb t.ah ws mt1))) ∧ qz ((mt.length : Int) ≤ 1001 + 1000 * kk) ∧ qz (Rn w0 w' (fun k=>4 ≤ col8 k ∧ k ≠ g ∧ k < W6.heap.size) W6 g N Ae ce es col' vy vn vm' { s with mt:=mt }))
    case atStart=>exact ⟨0,mt1,_,_,rfl,⟨aa',.inl ⟨rfl,rfl⟩⟩,⟨by have:=HMR8.o.2;omega⟩,HS8⟩
    clear HS8 HMR8
    obtain ⟨kk,mt,col1,vm1,rfl,HK,HML,HS⟩:=hrel
    have HKP:=qz.mk HS.o.kp
    have BW2:=qz.mk (HKP.o.blk BXW.o HB39.o ba' HCB.o.2)
    have hw0 : wr.cell? ⟨gw,0,none⟩ = some (.slice Aa ws.length ca):=(qq BW2.o 0).trans rfl
    have hw1 : wr.cell? ⟨gw,1,none⟩ = some (.slice Ab us.length cb):=(qq BW2.o 1).trans rfl
    cases gk with
    | zero =>
     obtain ⟨h1,h2⟩:=HK.o
     exfalso
     omega
    | succ gk1 =>
    rcases HK.o with ⟨hk0,⟨rfl,hmt⟩|⟨rfl,hmt⟩|⟨rfl,hmt⟩⟩
    ·have HK0:=qz.mk hk0
     have HMT:=qz.mk hmt
     clear hk0 hmt HK
     as_aux_lemma =>
      go_wp2_with fail
      go_loopg [10] (ws.length + 1) (fun ki v10 w'=>∃ (i : Int) (mt' : List S56) (col' : Nat → Nat) (vm' : Value),v10 = .int .i64 i ∧ qz (0 ≤ i ∧ i + ki = ws.length + 1 ∧ i ≤ ws.length) ∧ qz (ahF t.lb t.ah (ws.drop i.toNat) mt' = ahF t.lb t.ah ws mt) ∧ qz ((mt'.length : Int) ≤ 1001 + 1000 * 0 + i) ∧ qz (Rn w0 w' (fun k=>4 ≤ col8 k ∧ k ≠ g ∧ k < W6.heap.size) W6 g N Ae ce es col' vy vn vm' { s with mt:=mt' }))
      case atStart=>exact ⟨0,mt,_,_,rfl,⟨aa',aa',aa'⟩,⟨rfl⟩,⟨Pa'⟩,HS⟩
      clear hw0 hw1 BW2 HS HKP HML
      obtain ⟨i,mt',col2,vm2,rfl,HI,HTT,HML,HS⟩:=hrel
      have h:=HTT.o
      clear HTT
      have HKP:=qz.mk HS.o.kp
      have BW2:=qz.mk (HKP.o.blk BXW.o HB39.o ba' HCB.o.2)
      have hw0 : wr.cell? ⟨gw,0,none⟩ = some (.slice Aa ws.length ca):=(qq BW2.o 0).trans rfl
      cases gk with
      | zero =>
       exfalso
       have h1:=HI.o
       omega
      | succ ki =>
       by_cases c : i < (ws.length : Int)
       ·have hi:=HI.o
        rw [Jf' _ _ hi.1 c,ahF] at h
        have cl0 : decide (i < (ws.length : Int)) = true:=decide_eq_true c
        have HIL:=qz.mk c
        have HRR:=qz.mk (HKP.o.row HRa.o HB39.o lg' (fun k hk=>by omega))
        obtain ⟨aa,e_,hxi⟩:=Kd.at_int (Kd.R_reads' HRR.o).2.2 i hi.1 c
        subst e_
        have HT2:=qz.mk (HKP.o.tp HTz.o HB39.o)
        obtain ⟨⟨n0,n1⟩,⟨n2,n3⟩⟩:=HAS.o _ (Vd' ws i hi.1 c)
        obtain ⟨Al,cl,e_⟩:=Kd.R_slice HT2.o.rl
        subst e_
        obtain ⟨Aq,cq,e_⟩:=Kd.R_slice HT2.o.ra
        subst e_
        obtain ⟨al,e_,hlb⟩:=Kd.at_int (Kd.R_reads' HT2.o.rl).2.2 _ n0 n1
        subst e_
        obtain ⟨aq,e_,hah0,hah1⟩:=Cf' (Kd.R_reads' HT2.o.ra).2.2 _ n2 n3
        subst e_
        have pi:=eq_true hi.1
        have qi:=eq_true c
        have p1:=eq_true n0
        have q1:=eq_true n1
        have p2:=eq_true n2
        have q2:=eq_true n3
        clear c hi
        have cr:=HI.o
        go_wp2_with fail
        refine Md' (n:=14) (S:=fun w'=>w'.cell? ⟨gt,0,none⟩ = some (.slice (some al) t.lb.length cl) ∧ w'.cell? (al.add (rd ws i).toNat) = some (.int .i64 (rd t.lb (rd ws i))) ∧ w'.cell? ⟨gw,0,none⟩ = some (.slice (some aa) ws.length ca) ∧ w'.cell? (aa.add i.toNat) = some (.int .i64 (rd ws i))) (ds:=[]) (Array.replicate 14 false) da' rfl rfl ⟨HT2.o.cells.1,hlb,hw0,hxi⟩ (fun hHeld=>?_)
        refine pa_ 0 76 (bz_ 14 1) ?_
        refine pa_ 1 77 (bz_ 14 3) ?_
        refine pa_ 2 78 (bz_ 14 7) ?_
        refine pa_ 4 80 (bz_ 14 23) ?_
        refine pa_ 5 81 (bz_ 14 55) ?_
        refine pa_ 6 82 (bz_ 14 119) ?_
        refine pa_ 8 84 (bz_ 14 375) ?_
        refine ta_ 3 79 (bz_ 14 383) hHeld (hy:=Or.inl ⟨ca',na'⟩) (h:=?_)
        refine ta_ 7 83 (bz_ 14 511) hHeld (hy:=Or.inl ⟨ca',na'⟩) (h:=?_)
        refine pa_ 9 85 (bz_ 14 1023) ?_
        refine ta_ 10 86 (bz_ 14 2047) hHeld (hy:=Or.inl ⟨ca',na'⟩) (h:=?_)
        refine pa_ 11 87 (bz_ 14 4095) ?_
        refine ta_ 12 88 (bz_ 14 8191) hHeld (hy:=Or.inl ⟨ca',na'⟩) (h:=?_)
        refine pa_ 13 89 (bz_ 14 16383) ?_
        refine Wd' da' ?_
        have HSe:=qz.mk (HS.o.to (qh (Below.refl _ _)))
        by_cases c2 : rd t.lb (rd ws i) = 2
        ·rw [if_pos c2] at h
         have HTT:=qz.mk h
         have cb2 : (rd t.lb (rd ws i) == 2) = true:=by simpa using c2
         clear h c2
         replace HT2:=qz.mk (HT2.o.to (qh (Below.refl _ _)))
         go_wp2_with fail
         obtain ⟨Am1,cm1,e_⟩:=Kd.R_slice HSe.o.rm
         subst e_
         have HSd:=qz.mk ((HSe.o.ahead 3).to (qh (Below.refl _ _)))
         refine Md' (n:=23) (S:=fun w'=>w'.cell? ⟨g,4,none⟩ = some (.slice Am1 mt'.length cm1) ∧ w'.cell? ⟨gt,1,none⟩ = some (.slice (some aq) t.ah.length cq) ∧ w'.cell? (aq.add ((rd ws i).toNat * 2)) = some (.int .i64 (xd' t.ah (rd ws i)).f0) ∧ w'.cell? ⟨(aq.add ((rd ws i).toNat * 2)).block,(aq.add ((rd ws i).toNat * 2)).off + 1,none⟩ = some (.int .i64 (xd' t.ah (rd ws i)).f1) ∧ w'.cell? ⟨gw,0,none⟩ = some (.slice (some aa) ws.length ca) ∧ w'.cell? (aa.add i.toNat) = some (.int .i64 (rd ws i))) (ds:=[19,22]) (Array.replicate 23 false) da' rfl rfl ⟨HSe.o.cells.2.2.2.2.1,HT2.o.cells.2.1,hah0,hah1,hw0,hxi⟩ (fun hHeld=>?_)
         refine pa_ 0 90 (bz_ 23 1) ?_
         refine pa_ 1 91 (bz_ 23 3) ?_
         refine pa_ 2 92 (bz_ 23 7) ?_
         refine pa_ 3 93 (bz_ 23 15) ?_
         refine pa_ 5 95 (bz_ 23 47) ?_
         refine pa_ 6 96 (bz_ 23 111) ?_
         refine pa_ 7 97 (bz_ 23 239) ?_
         refine pa_ 9 99 (bz_ 23 751) ?_
         refine pa_ 10 100 (bz_ 23 1775) ?_
         refine pa_ 11 101 (bz_ 23 3823) ?_
         refine pa_ 13 103 (bz_ 23 12015) ?_
         refine ta_ 4 94 (bz_ 23 12031) hHeld (hy:=Or.inl ⟨ca',Ha'⟩) (h:=?_)
         refine ta_ 8 98 (bz_ 23 12287) hHeld (hy:=Or.inl ⟨ca',Ha'⟩) (h:=?_)
         refine ta_ 12 102 (bz_ 23 16383) hHeld (hy:=Or.inl ⟨ca',Ha'⟩) (h:=?_)
         refine pa_ 14 104 (bz_ 23 32767) ?_
         refine ta_ 15 105 (bz_ 23 65535) hHeld (hy:=Or.inl ⟨ca',Ha'⟩) (h:=?_)
         refine pa_ 16 106 (bz_ 23 131071) ?_
         refine ta_ 17 107 (bz_ 23 262143) hHeld (hy:=Or.inl ⟨ca',Ha'⟩) (h:=?_)
         refine Td' (i:=18) (N:=some 108) (bz_ 23 524287) rfl rfl da' ba' (fun K hK=>?_)
         refine jf' (w1:=?_) (v:=?_) ca' rfl ?_ ?_
         rotate_left 2
         ·go_simp
          constructor
          ·rfl
          rfl
         refine hK.out _ _ ⟨vd' (qo (Below.refl _ _) _) hHeld.1,vd' (qo (Below.refl _ _) _) hHeld.2.1,vd' (qo (Below.refl _ _) _) hHeld.2.2.1,vd' (qo (Below.refl _ _) _) hHeld.2.2.2.1,vd' (qo (Below.refl _ _) _) hHeld.2.2.2.2.1,vd' (qo (Below.refl _ _) _) hHeld.2.2.2.2.2⟩ (fun hHeld=>?_)
         clear hK K
         refine zd' (a':=?_) ?_ ?_
         rotate_left
         ·show Act.put _ (some 108) _ = _
          simp only [Act.put,List.setIfInBounds_toArray,List.set_cons_zero,List.set_cons_succ,Bd',Cd']
          rfl
         refine de' (i:=19) (N:=some 109) (bz_ 23 1048575) rfl rfl da' ba' (fun K hK=>?_)
         refine Kd.R_append_step k56 (w0:=w0) (W:=wr.drew.drew) w0.heap.size ca' (.tmp 94) (.tmp 108) 49 56 (.agg #[.int .i64 0,.int .i64 0]) 16 rfl Tryz.underlying49 Ff' rfl ba' aa' (.slice Am1 mt'.length cm1) mt' (xd' t.ah (rd ws i)) [.int .i64 (xd' t.ah (rd ws i)).f0,.int .i64 (xd' t.ah (rd ws i)).f1] _ (fun _=>False) ca' ca' (cf' _ _ _ (xd' t.ah (rd ws i))) (fun _ hk=>hk.elim) (fun q hq=>if_pos hq) HSd.o.rm HSd.o.hb HSd.o.hb.size Xc' ?_
         intro v7 w7 ho hb hg hat
         obtain ⟨A7,c7,e_⟩:=Kd.R_slice ho
         rw [List.length_append,List.length_singleton] at e_
         subst e_
         obtain ⟨hS3,hx3,hf3⟩:=Rn.app_m HSd.o ho hb hg
         have HS8:=qz.mk hS3
         clear hS3 ho hb hg hat
         refine hK.out _ _ ?_
         clear hK K
         refine zd' (a':=?_) ?_ ?_
         rotate_left
         ·show Act.put _ (some 109) _ = _
          simp only [Act.put,List.setIfInBounds_toArray,List.set_cons_zero,List.set_cons_succ,Bd',Cd']
          rfl
         refine pa_ 20 110 (bz_ 23 2097151) ?_
         refine pa_ 21 111 (bz_ 23 4194303) ?_
         refine de' (i:=22) (N:=none) (bz_ 23 8388607) rfl rfl da' ba' (fun K hK=>?_)
         refine Id' (w1:=?_) ca' rfl ?_ ?_
         rotate_left
         ·go_simp
          rfl
         refine hK.out _ _ ?_
         clear hK K
         refine Wd' da' ?_
         clear hx3 hf3 HSd HSe HS HT2
         generalize w7.setCell _ _ = w8 at HS8 ⊢
         go_wp2_with fail
         go_roundg ki
         case measure=>omega
         case rel=>exact ⟨i + 1,mt' ++ [xd' t.ah (rd ws i)],_,_,kb',⟨fa',fa',ga'⟩,HTT,⟨sc'⟩,HS8⟩
        rw [if_neg c2] at h
        have HTT:=qz.mk h
        have cb2 : (rd t.lb (rd ws i) == 2) = false:=by simpa using c2
        clear h c2
        go_wp2_with fail
        go_roundg ki
        case measure=>omega
        case rel=>exact ⟨i + 1,mt',_,_,kb',⟨fa',fa',ga'⟩,HTT,⟨Pa'⟩,HSe⟩
       have hi:=HI.o
       rw [List.drop_eq_nil_of_le aa',ahF] at h
       have cl0 : decide (i < (ws.length : Int)) = false:=decide_eq_false c
       have HTT:=qz.mk h
       have hi2:=HI.o.2.2
       clear c hi h
       go_wp2_with fail
       go_roundg gk1
       case measure=>omega
       case rel=>exact ⟨1,mt',_,_,Vb',⟨Ia',.inr (.inl ⟨rfl,Wb'⟩)⟩,⟨by have h1:=HML.o;have h2:=H0.o;omega⟩,HS⟩
    ·have HK0:=qz.mk hk0
     have HMT:=qz.mk hmt
     clear hk0 hmt HK
     as_aux_lemma =>
      go_wp2_with fail
      go_loopg [10] (us.length + 1) (fun ki v10 w'=>∃ (i : Int) (mt' : List S56) (col' : Nat → Nat) (vm' : Value),v10 = .int .i64 i ∧ qz (0 ≤ i ∧ i + ki = us.length + 1 ∧ i ≤ us.length) ∧ qz (ahF t.lb t.ah (us.drop i.toNat) mt' = ahF t.lb t.ah us mt) ∧ qz ((mt'.length : Int) ≤ 1001 + 1000 * 1 + i) ∧ qz (Rn w0 w' (fun k=>4 ≤ col8 k ∧ k ≠ g ∧ k < W6.heap.size) W6 g N Ae ce es col' vy vn vm' { s with mt:=mt' }))
      case atStart=>exact ⟨0,mt,_,_,rfl,⟨aa',aa',aa'⟩,⟨rfl⟩,⟨Pa'⟩,HS⟩
      clear hw0 hw1 BW2 HS HKP HML
      obtain ⟨i,mt',col2,vm2,rfl,HI,HTT,HML,HS⟩:=hrel
      have h:=HTT.o
      clear HTT
      have HKP:=qz.mk HS.o.kp
      have BW2:=qz.mk (HKP.o.blk BXW.o HB39.o ba' HCB.o.2)
      have hw1 : wr.cell? ⟨gw,1,none⟩ = some (.slice Ab us.length cb):=(qq BW2.o 1).trans rfl
      cases gk with
      | zero =>
       exfalso
       have h1:=HI.o
       omega
      | succ ki =>
       by_cases c : i < (us.length : Int)
       ·have hi:=HI.o
        rw [Jf' _ _ hi.1 c,ahF] at h
        have cl0 : decide (i < (us.length : Int)) = true:=decide_eq_true c
        have HIL:=qz.mk c
        have HRR:=qz.mk (HKP.o.row HRb.o HB39.o lg' (fun k hk=>by omega))
        obtain ⟨aa,e_,hxi⟩:=Kd.at_int (Kd.R_reads' HRR.o).2.2 i hi.1 c
        subst e_
        have HT2:=qz.mk (HKP.o.tp HTz.o HB39.o)
        obtain ⟨⟨n0,n1⟩,⟨n2,n3⟩⟩:=HBS.o _ (Vd' us i hi.1 c)
        obtain ⟨Al,cl,e_⟩:=Kd.R_slice HT2.o.rl
        subst e_
        obtain ⟨Aq,cq,e_⟩:=Kd.R_slice HT2.o.ra
        subst e_
        obtain ⟨al,e_,hlb⟩:=Kd.at_int (Kd.R_reads' HT2.o.rl).2.2 _ n0 n1
        subst e_
        obtain ⟨aq,e_,hah0,hah1⟩:=Cf' (Kd.R_reads' HT2.o.ra).2.2 _ n2 n3
        subst e_
        have pi:=eq_true hi.1
        have qi:=eq_true c
        have p1:=eq_true n0
        have q1:=eq_true n1
        have p2:=eq_true n2
        have q2:=eq_true n3
        clear c hi
        have cr:=HI.o
        go_wp2_with fail
        refine Md' (n:=14) (S:=fun w'=>w'.cell? ⟨gt,0,none⟩ = some (.slice (some al) t.lb.length cl) ∧ w'.cell? (al.add (rd us i).toNat) = some (.int .i64 (rd t.lb (rd us i))) ∧ w'.cell? ⟨gw,1,none⟩ = some (.slice (some aa) us.length cb) ∧ w'.cell? (aa.add i.toNat) = some (.int .i64 (rd us i))) (ds:=[]) (Array.replicate 14 false) da' rfl rfl ⟨HT2.o.cells.1,hlb,hw1,hxi⟩ (fun hHeld=>?_)
        refine pa_ 0 76 (bz_ 14 1) ?_
        refine pa_ 1 77 (bz_ 14 3) ?_
        refine pa_ 2 78 (bz_ 14 7) ?_
        refine pa_ 4 80 (bz_ 14 23) ?_
        refine pa_ 5 81 (bz_ 14 55) ?_
        refine pa_ 6 82 (bz_ 14 119) ?_
        refine pa_ 8 84 (bz_ 14 375) ?_
        refine ta_ 3 79 (bz_ 14 383) hHeld (hy:=Or.inl ⟨ca',na'⟩) (h:=?_)
        refine ta_ 7 83 (bz_ 14 511) hHeld (hy:=Or.inl ⟨ca',na'⟩) (h:=?_)
        refine pa_ 9 85 (bz_ 14 1023) ?_
        refine ta_ 10 86 (bz_ 14 2047) hHeld (hy:=Or.inl ⟨ca',na'⟩) (h:=?_)
        refine pa_ 11 87 (bz_ 14 4095) ?_
        refine ta_ 12 88 (bz_ 14 8191) hHeld (hy:=Or.inl ⟨ca',na'⟩) (h:=?_)
        refine pa_ 13 89 (bz_ 14 16383) ?_
        refine Wd' da' ?_
        have HSe:=qz.mk (HS.o.to (qh (Below.refl _ _)))
        by_cases c2 : rd t.lb (rd us i) = 2
        ·rw [if_pos c2] at h
         have HTT:=qz.mk h
         have cb2 : (rd t.lb (rd us i) == 2) = true:=by simpa using c2
         clear h c2
         replace HT2:=qz.mk (HT2.o.to (qh (Below.refl _ _)))
         go_wp2_with fail
         obtain ⟨Am1,cm1,e_⟩:=Kd.R_slice HSe.o.rm
         subst e_
         have HSd:=qz.mk ((HSe.o.ahead 3).to (qh (Below.refl _ _)))
         refine Md' (n:=23) (S:=fun w'=>w'.cell? ⟨g,4,none⟩ = some (.slice Am1 mt'.length cm1) ∧ w'.cell? ⟨gt,1,none⟩ = some (.slice (some aq) t.ah.length cq) ∧ w'.cell? (aq.add ((rd us i).toNat * 2)) = some (.int .i64 (xd' t.ah (rd us i)).f0) ∧ w'.cell? ⟨(aq.add ((rd us i).toNat * 2)).block,(aq.add ((rd us i).toNat * 2)).off + 1,none⟩ = some (.int .i64 (xd' t.ah (rd us i)).f1) ∧ w'.cell? ⟨gw,1,none⟩ = some (.slice (some aa) us.length cb) ∧ w'.cell? (aa.add i.toNat) = some (.int .i64 (rd us i))) (ds:=[19,22]) (Array.replicate 23 false) da' rfl rfl ⟨HSe.o.cells.2.2.2.2.1,HT2.o.cells.2.1,hah0,hah1,hw1,hxi⟩ (fun hHeld=>?_)
         refine pa_ 0 90 (bz_ 23 1) ?_
         refine pa_ 1 91 (bz_ 23 3) ?_
         refine pa_ 2 92 (bz_ 23 7) ?_
         refine pa_ 3 93 (bz_ 23 15) ?_
         refine pa_ 5 95 (bz_ 23 47) ?_
         refine pa_ 6 96 (bz_ 23 111) ?_
         refine pa_ 7 97 (bz_ 23 239) ?_
         refine pa_ 9 99 (bz_ 23 751) ?_
         refine pa_ 10 100 (bz_ 23 1775) ?_
         refine pa_ 11 101 (bz_ 23 3823) ?_
         refine pa_ 13 103 (bz_ 23 12015) ?_
         refine ta_ 4 94 (bz_ 23 12031) hHeld (hy:=Or.inl ⟨ca',Ha'⟩) (h:=?_)
         refine ta_ 8 98 (bz_ 23 12287) hHeld (hy:=Or.inl ⟨ca',Ha'⟩) (h:=?_)
         refine ta_ 12 102 (bz_ 23 16383) hHeld (hy:=Or.inl ⟨ca',Ha'⟩) (h:=?_)
         refine pa_ 14 104 (bz_ 23 32767) ?_
         refine ta_ 15 105 (bz_ 23 65535) hHeld (hy:=Or.inl ⟨ca',Ha'⟩) (h:=?_)
         refine pa_ 16 106 (bz_ 23 131071) ?_
         refine ta_ 17 107 (bz_ 23 262143) hHeld (hy:=Or.inl ⟨ca',Ha'⟩) (h:=?_)
         refine Td' (i:=18) (N:=some 108) (bz_ 23 524287) rfl rfl da' ba' (fun K hK=>?_)
         refine jf' (w1:=?_) (v:=?_) ca' rfl ?_ ?_
         rotate_left 2
         ·go_simp
          constructor
          ·rfl
          rfl
         refine hK.out _ _ ⟨vd' (qo (Below.refl _ _) _) hHeld.1,vd' (qo (Below.refl _ _) _) hHeld.2.1,vd' (qo (Below.refl _ _) _) hHeld.2.2.1,vd' (qo (Below.refl _ _) _) hHeld.2.2.2.1,vd' (qo (Below.refl _ _) _) hHeld.2.2.2.2.1,vd' (qo (Below.refl _ _) _) hHeld.2.2.2.2.2⟩ (fun hHeld=>?_)
         clear hK K
         refine zd' (a':=?_) ?_ ?_
         rotate_left
         ·show Act.put _ (some 108) _ = _
          simp only [Act.put,List.setIfInBounds_toArray,List.set_cons_zero,List.set_cons_succ,Bd',Cd']
          rfl
         refine de' (i:=19) (N:=some 109) (bz_ 23 1048575) rfl rfl da' ba' (fun K hK=>?_)
         refine Kd.R_append_step k56 (w0:=w0) (W:=wr.drew.drew) w0.heap.size ca' (.tmp 94) (.tmp 108) 49 56 (.agg #[.int .i64 0,.int .i64 0]) 16 rfl Tryz.underlying49 Ff' rfl ba' aa' (.slice Am1 mt'.length cm1) mt' (xd' t.ah (rd us i)) [.int .i64 (xd' t.ah (rd us i)).f0,.int .i64 (xd' t.ah (rd us i)).f1] _ (fun _=>False) ca' ca' (cf' _ _ _ (xd' t.ah (rd us i))) (fun _ hk=>hk.elim) (fun q hq=>if_pos hq) HSd.o.rm HSd.o.hb HSd.o.hb.size Xc' ?_
         intro v7 w7 ho hb hg hat
         obtain ⟨A7,c7,e_⟩:=Kd.R_slice ho
         rw [List.length_append,List.length_singleton] at e_
         subst e_
         obtain ⟨hS3,hx3,hf3⟩:=Rn.app_m HSd.o ho hb hg
         have HS8:=qz.mk hS3
         clear hS3 ho hb hg hat
         refine hK.out _ _ ?_
         clear hK K
         refine zd' (a':=?_) ?_ ?_
         rotate_left
         ·show Act.put _ (some 109) _ = _
          simp only [Act.put,List.setIfInBounds_toArray,List.set_cons_zero,List.set_cons_succ,Bd',Cd']
          rfl
         refine pa_ 20 110 (bz_ 23 2097151) ?_
         refine pa_ 21 111 (bz_ 23 4194303) ?_
         refine de' (i:=22) (N:=none) (bz_ 23 8388607) rfl rfl da' ba' (fun K hK=>?_)
         refine Id' (w1:=?_) ca' rfl ?_ ?_
         rotate_left
         ·go_simp
          rfl
         refine hK.out _ _ ?_
         clear hK K
         refine Wd' da' ?_
         clear hx3 hf3 HSd HSe HS HT2
         generalize w7.setCell _ _ = w8 at HS8 ⊢
         go_wp2_with fail
         go_roundg ki
         case measure=>omega
         case rel=>exact ⟨i + 1,mt' ++ [xd' t.ah (rd us i)],_,_,kb',⟨fa',fa',ga'⟩,HTT,⟨sc'⟩,HS8⟩
        rw [if_neg c2] at h
        have HTT:=qz.mk h
        have cb2 : (rd t.lb (rd us i) == 2) = false:=by simpa using c2
        clear h c2
        go_wp2_with fail
        go_roundg ki
        case measure=>omega
        case rel=>exact ⟨i + 1,mt',_,_,kb',⟨fa',fa',ga'⟩,HTT,⟨Pa'⟩,HSe⟩
       have hi:=HI.o
       rw [List.drop_eq_nil_of_le aa',ahF] at h
       have cl0 : decide (i < (us.length : Int)) = false:=decide_eq_false c
       have HTT:=qz.mk h
       have hi2:=HI.o.2.2
       clear c hi h
       go_wp2_with fail
       go_roundg gk1
       case measure=>omega
       case rel=>exact ⟨2,mt',_,_,Vb',⟨Ia',.inr (.inr ⟨rfl,Wb'⟩)⟩,⟨by have h1:=HML.o;have h2:=H0.o;omega⟩,HS⟩
    have HO2 : qz (ch' N s.nd.length ko { s with mt:=mt } r'):=⟨by rw [hmt,← HMT1.o];exact HO.o⟩
    clear hk0 hmt HK hw0 hw1 BW2
    as_aux_lemma =>
     go_upto_region 18 with fail
     have HI18:=qz.mk HS.o.is
     clear HS HKP
     obtain ⟨col3,vy3,vn3,vm3,hS3⟩:=HI18.o
     have HFN:=qz.mk (ij' hS3 HW.o HN.o H0.o.2.1)
     go_upto_region 19 with (first|(go_at_call 78;refine HFN.o.mono ?_;rintro e_ w7 ⟨rfl,h2⟩;replace h2:=h2.symm;subst h2))
     have HIR : qz (Gh' w0 (wr.alloc (.cells #[] 3)) g N Ae ce es { s with mt:=mt }):=⟨(hS3.to (qo (Below.refl _ _) _)).is⟩
     clear hS3 HI18
     generalize wr.alloc _ = w8 at HIR ⊢
     go_wp2_with fail
     as_aux_lemma =>
      go_loopg [11] ko (fun kq v11 w'=>∃ (q : Int) (rr : RI),v11 = .int .i64 q ∧ qz (ch' N s.nd.length kq rr r') ∧ qz (Zd' (cvs rr.nd) [] 0 (rr.nd.length + 1) N = q) ∧ qz (Gh' w0 w' g N Ae ce es rr))
      case atStart=>exact ⟨_,_,rfl,HO2,⟨rfl⟩,HIR⟩
      clear HIR HO2
      obtain ⟨q,rr,rfl,HO2,HQ,HIR⟩:=hrel
      have h:=HO2.o
      clear HO2
      cases h with
      | done hl hw hq =>
       obtain rfl : q = -1:=HQ.o.symm.trans hq
       clear hl hw hq
       go_wp2_with fail
       go_end0
       exact ⟨rfl,HIR.o⟩
      | @more kk _ _ q2 hl hw hq hq1 hU rest =>
       obtain rfl : q = q2:=HQ.o.symm.trans hq
       have HU:=qz.mk hU
       have HWr:=qz.mk hw
       have HO2:=qz.mk rest
       have HLr:=qz.mk hl
       have hq0 : 0 ≤ q:=by
        rcases pj' (nd:=cvs rr.nd) (lb:=[]) (label:=0) (rr.nd.length + 1) N HN.o with h|h
        ·exact absurd (hq.symm.trans h) hq1
        rw [hq] at h;exact h.1
       have cq : decide (q ≥ 0) = true:=decide_eq_true hq0
       obtain ⟨col3,vy3,vn3,vm3,hS3⟩:=HIR.o
       have HS3:=qz.mk hS3
       clear hl hw hq hq1 hU rest hq0 hS3 HIR
       go_upto_region 21 with (first|(go_at_call 21;refine (Fh' HS3.o HWr.o HU.o.m HU.o.sz q HU.o.ni HU.o.b HU.o.mem HU.o.pos HU.o.lk HU.o.szf).mono ?_;rintro e_ w7 ⟨rfl,col7,vm7,hs,-⟩;have HS7:=qz.mk hs;clear hs))
       have HWr2 : qz (WFn (cvs (nf' rr q).nd) ∧ (nf' rr q).nd.length = s.nd.length):=⟨by cases HO2.o with|done a b _=>exact ⟨b,a⟩|more a b _ _ _ _=>exact ⟨b,a⟩⟩
       have HFN:=qz.mk (ij' HS7.o HWr2.o.1 HN.o (by rw [HWr2.o.2];exact H0.o.2.1))
       go_wp2_with (first|(go_at_call 78;refine HFN.o.mono ?_;rintro e_ w9 ⟨rfl,h2⟩;replace h2:=h2.symm;subst h2))
       have HIR : qz (Gh' w0 (w7.alloc (.cells #[] 3)) g N Ae ce es (nf' rr q)):=⟨(HS7.o.to (qo (Below.refl _ _) _)).is⟩
       clear HS3 HS7
       generalize w7.alloc _ = w8 at HIR ⊢
       go_roundg kk
       case measure=>omega
       case rel=>exact ⟨_,_,rfl,HO2,⟨rfl⟩,HIR⟩
end Go.Proofs.YtnffimpoekjkpaaGreat.QFnExactSolve
