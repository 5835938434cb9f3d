/- The reference's solver: l10Augment. -/
import Derived.Test.YtnffimpoekjkpaaZFnExactRoundsx56
namespace Go.Proofs.Ytnffimpoekjkpaa.QFnExactRounds
open Go.RowKit Go.Proofs.YtnffimpoekjkpaaW.PrintWords Go.Proofs.YtnffimpoekjkpaaW.PrintLast Go.Proofs.YtnffimpoekjkpaaW.PrintMore
attribute [local go_sem] max2_int min2_int max_two min_two max_three min_three max_four min_four
set_option linter.unusedVariables false
set_option linter.unusedSimpArgs false
/-- A solver, whatever its rows' places. -/
def IsRn (w0 W : World) (g : Nat) (N : Int) (Ae : Option Addr) (ce : Nat) (es : List (S51)) (s : RI) : Prop:=∃ col vy vn vm,Rn w0 W (fun _=>False) w0 g N Ae ce es col vy vn vm s
theorem Rn.is {w0 W : World} {Z : Nat → Prop} {wz : World} {g : Nat} {N : Int} {Ae : Option Addr} {ce : Nat} {es : List (S51)} {col : Nat → Nat} {vy vn vm : Value} {s : RI} (h : Rn w0 W Z wz g N Ae ce es col vy vn vm s) : IsRn w0 W g N Ae ce es s :=
 ⟨col,vy,vn,vm,h.blk,h.ge,h.hb,h.he,h.hec,h.ry,h.rn,h.rm,fun _ h=>h.elim⟩
section
variable {w0 W w' : World} {g : Nat} {col : Nat → Nat}
/-- What is kept of the blocks of other colours. -/
def Kp (W w' : World) (g : Nat) (col : Nat → Nat) : Prop:=∀ k,4 ≤ col k → k ≠ g → k < W.heap.size → w'.heap[k]? = W.heap[k]?
theorem Rn.kp {N : Int} {Ae : Option Addr} {ce : Nat} {es : List (S51)} {col' : Nat → Nat} {vy vn vm : Value} {s : RI} (h : Rn w0 w' (fun k=>4 ≤ col k ∧ k ≠ g ∧ k < W.heap.size) W g N Ae ce es col' vy vn vm s) : Kp W w' g col:=fun k h1 h2 h3=>(h.hz k ⟨h1,h2,h3⟩).2.2.2
theorem Kp.row {α : Type} {d : Kd α} {e base : Nat} {ok : Nat → Prop} {v : Value} {xs : List α} {cells : Array Value} (h : Kp W w' g col) (hr : d.R e W base ok v xs) (hb : W.heap[g]? = some (.cells cells 39 (0,0))) (ht : ∀ q,q ∈ e :: d.E → q ≠ 39) (hok : ∀ k,ok k → 4 ≤ col k) : d.R e w' base ok v xs :=
 Kd.R_mono (Kd.R_step (Kd.R_types hr hb ht) (fun k ho hk=>h k (hok k ho.1) ho.2 hk)) (fun _ h=>h.1)
theorem Kp.tp {base gt : Nat} {vl va vr : Value} {t : TI} {cells : Array Value} (h : Kp W w' g col) (hT : Tp W base gt col vl va vr t) (hb : W.heap[g]? = some (.cells cells 39 (0,0))) : Tp w' base gt col vl va vr t :=
 ⟨(h gt (by rw [hT.cg];decide) (blk_ne hT.blk hb (by decide)) (blk_lt hT.blk)).trans hT.blk,hT.ge,hT.cg,h.row hT.rl hb t39_3 (fun k hk=>by omega),h.row hT.ra hb t39_77 (fun k hk=>by omega),h.row hT.rr hb t39_3 (fun k hk=>by omega)⟩
theorem Kp.blk {b : Nat} {cs cells : Array Value} {ty : TypeId} (h : Kp W w' g col) (hB : W.heap[b]? = some (.cells cs ty (0,0))) (hb : W.heap[g]? = some (.cells cells 39 (0,0))) (ht : ty ≠ 39) (hc : 4 ≤ col b) : w'.heap[b]? = some (.cells cs ty (0,0)) :=
 (h b hc (blk_ne hB hb ht) (blk_lt hB)).trans hB
end
/-- What a ring must be that the reference opens. -/
structure UOkS (r : RI) (n : Int) : Prop where
 m : ∀ x ∈ r.mt,inR x.f0 r.nd.length ∧ inR x.f1 r.nd.length
 sz : r.mt.length ≤ 1000000
 ni : inR n r.nd.length
 b : baseS r.nd r.mt n = -1 ∨ inR (baseS r.nd r.mt n) r.nd.length
 mem : ∀ m ∈ (rd_T55 r.nd n).f0,inR m r.nd.length
 pos : 0 < (rd_T55 r.nd n).f0.length
 lk : (rd_T55 r.nd n).f0.length ≤ (rd_T55 r.nd n).f1.length
 szf : (rd_T55 r.nd n).f0.length ≤ 1000000
inductive OpenSR (N : Int) (n0 : Nat) : Nat → RI → RI → Prop
 | done {r : RI} (hl : r.nd.length = n0) (hw : WFn (cvs r.nd)) (h : firstF (cvs r.nd) [] 0 (r.nd.length + 1) N = -1) : OpenSR N n0 1 r r
 | more {k : Nat} {r r' : RI} {q : Int} (hl : r.nd.length = n0) (hw : WFn (cvs r.nd)) (h : firstF (cvs r.nd) [] 0 (r.nd.length + 1) N = q) (hq : q ≠ -1) (hU : UOkS r q) (rest : OpenSR N n0 k (openS r q) r') : OpenSR N n0 (k + 1) r r'
/-- The mate links of all tops of a way left out. -/
def wlF (nd : List S60) : List Int → List S77 → List S77
 | [],mt=>mt
 | n :: l,mt=>wlF nd l (withF nd n mt)
/-- The links by which the odd tops of a way were found. -/
def ahF (lb : List Int) (ah : List S77) : List Int → List S77 → List S77
 | [],mt=>mt
 | n :: l,mt=>ahF lb ah l (if rd lb n = 2 then mt ++ [rd_T77 ah n] else mt)
theorem withF_mem {nd : List S60} {t : Int} : ∀ {mt : List S77} {x : S77},x ∈ withF nd t mt → x ∈ mt
 | [],x,h=>h
 | y :: l,x,h=>by
  rw [withF] at h
  split at h
  ·rcases List.mem_cons.1 h with e|h
   ·exact e ▸ List.mem_cons_self
   exact List.mem_cons_of_mem _ (withF_mem h)
  exact List.mem_cons_of_mem _ (withF_mem h)
theorem withF_len {nd : List S60} {t : Int} : ∀ {mt : List S77},(withF nd t mt).length ≤ mt.length
 | []=>Nat.le_refl _
 | y :: l=>by
  rw [withF]
  split
  ·simp only [List.length_cons];exact Nat.succ_le_succ withF_len
  simp only [List.length_cons];exact Nat.le_succ_of_le withF_len
theorem l10Top_bl {w0 W : World} {Z : Nat → Prop} {wz : World} {g : Nat} {N : Int} {Ae : Option Addr} {ce : Nat} {es : List (S51)} {col : Nat → Nat} {vy vn vm : Value} {s : RI} (hS : Rn w0 W Z wz g N Ae ce es col vy vn vm s) (n : Int) (hw : WFn (cvs s.nd)) (hn : inR n s.nd.length) :
  Calls Try.prog 28 #[.pointer (some ⟨g,0,none⟩),.int .i64 n] W fun e w'=>e = .returned (.int .i64 (topI (cvs s.nd) n)) ∧ Below W.heap.size W w' :=
 (l10Top_is hS n hw hn).mono fun e w' h=>⟨h.1,by rw [h.2];exact Below.refl _ _⟩
theorem nil_C (w : World) : Kd.C (Kd.int .i64) (w.alloc (.cells #[] 3)) (some ⟨w.heap.size,0,none⟩) ([] : List Int).length [] :=
 (Kd.R_reads' (nil_R (base:=0) (ok:=fun _=>True) (Kd.int .i64) (Nat.zero_le _) (blk_new w _) trivial)).2.2
/-- l10First over a row of labels that is empty. -/
theorem l10First_none {w0 W : World} {Z : Nat → Prop} {wz : World} {g : Nat} {N : Int} {Ae : Option Addr} {ce : Nat} {es : List (S51)} {col : Nat → Nat} {vy vn vm : Value} {s : RI} (hS : Rn w0 W Z wz g N Ae ce es col vy vn vm s) (hw : WFn (cvs s.nd)) (hN : 0 ≤ N) (hsz : s.nd.length ≤ 1000000) :
  Calls Try.prog 43 #[.pointer (some ⟨g,0,none⟩),.slice (some ⟨W.heap.size,0,none⟩) 0 0] (W.alloc (.cells #[] 3)) fun e w'=>e = .returned (.int .i64 (firstF (cvs s.nd) [] 0 (s.nd.length + 1) N)) ∧ w' = W.alloc (.cells #[] 3) :=
 l10First_calls (hS.to (qo (Below.refl _ _) _)) hw hN hsz _ 0 [] (nil_C W) (Nat.le_refl _) 0 _ (.inl ⟨rfl,rfl⟩) rfl
set_option maxHeartbeats 8000000 in
set_option maxRecDepth 100000 in
theorem l10Augment_calls {w0 W : World} {Z : Nat → Prop} {wz : World} {g : Nat} {N : Int} {Ae : Option Addr} {ce : Nat} {es : List (S51)} {col : Nat → Nat} {vy vn vm : Value} {s : RI} (hS : Rn w0 W Z wz g N Ae ce es col vy vn vm s) {gt : Nat} {vl va vr : Value} {t : TI} (hT : Tp W w0.heap.size gt col vl va vr t) (hw : WFn (cvs s.nd)) (hm : ∀ x ∈ s.mt,inR x.f0 s.nd.length ∧ inR x.f1 s.nd.length) (hsm : s.mt.length ≤ 1000) (hsz : s.nd.length ≤ 1000000) (hN : 0 ≤ N)
  (X : S51) (hX0 : inR X.f0 s.nd.length) (hX1 : inR X.f1 s.nd.length) (k ko : Nat) (hk : k ≤ 1000) (ws us : List Int) (h1 : wayS (cvs s.nd) t.ah t.rt k (topI (cvs s.nd) X.f0) = some ws) (h2 : wayS (cvs s.nd) t.ah t.rt k (topI (cvs s.nd) X.f1) = some us)
  (hla : ws.length ≤ 1000) (hlb : us.length ≤ 1000) (hws : ∀ n ∈ ws,inR n t.lb.length ∧ inR n t.ah.length) (hus : ∀ n ∈ us,inR n t.lb.length ∧ inR n t.ah.length) (r' : RI)
  (ho : OpenSR N s.nd.length ko { s with mt:=ahF t.lb t.ah us (ahF t.lb t.ah ws (wlF (cvs s.nd) us (wlF (cvs s.nd) ws s.mt) ++ [⟨X.f0,X.f1⟩])) } r') :
  Calls Try.prog 30 #[.pointer (some ⟨g,0,none⟩),.pointer (some ⟨gt,0,none⟩),.agg #[.int .i64 X.f0,.int .i64 X.f1,.int .i64 X.f2,.int .i64 X.f3,.int .i64 X.f4]] W fun e w'=>e = .returned (.tuple #[]) ∧ IsRn w0 w' g N Ae ce es r':=by
 have hu39:=Try.underlying39
 have hu55:=Try.underlying55
 have hu77:=Try.underlying77
 have hu51:=Try.underlying51
 have hu29:=Try.underlying29
 have HS:=qy.mk hS
 clear hS
 have hu35:=Try.underlying35
 have hu37:=Try.underlying37
 have hu68:=Try.underlying68
 have hu89:=Try.underlying89
 have HTP:=qy.mk hT
 have HW:=qy.mk hw
 have HM:=qy.mk hm
 have H0:=qy.mk (And.intro hsm (And.intro hsz (And.intro hla (And.intro hlb hk))))
 have HN:=qy.mk hN
 have HX:=qy.mk (And.intro hX0 hX1)
 have HWA:=qy.mk (And.intro h1 h2)
 have HAS:=qy.mk hws
 have HBS:=qy.mk hus
 have HO:=qy.mk ho
 obtain ⟨A,hA⟩ : ∃ A,topI (cvs s.nd) X.f0 = A:=⟨_,rfl⟩
 obtain ⟨B,hB⟩ : ∃ B,topI (cvs s.nd) X.f1 = B:=⟨_,rfl⟩
 rw [hA,hB] at HWA
 have HAB:=qy.mk (And.intro hA hB)
 clear hT hw hm hsm hsz hla hlb hk hN hX0 hX1 h1 h2 hws hus ho hA hB
 go_enter Try.func30,Try.ntmps30
 go_upto_region 1 with fail
 have BX1 : qy ((W.alloc (.cells #[.int .i64 X.f0,.int .i64 X.f1,.int .i64 X.f2,.int .i64 X.f3,.int .i64 X.f4] 51)).heap[W.heap.size]? = some (.cells #[.int .i64 X.f0,.int .i64 X.f1,.int .i64 X.f2,.int .i64 X.f3,.int .i64 X.f4] 51 (0,0))):=⟨blk_new W _⟩
 have HB1 : qy (Below W.heap.size W (W.alloc (.cells #[.int .i64 X.f0,.int .i64 X.f1,.int .i64 X.f2,.int .i64 X.f3,.int .i64 X.f4] 51))):=⟨qo (Below.refl _ _) _⟩
 generalize W.alloc (.cells #[.int .i64 X.f0,.int .i64 X.f1,.int .i64 X.f2,.int .i64 X.f3,.int .i64 X.f4] 51) = W1 at *
 have HC8 : qy (∀ k,W.heap.size ≤ k → (if W.heap.size ≤ k then 8 else col k) = 8):=⟨fun k hk=>if_pos hk⟩
 have HS0:=qy.mk (HS.out.ahead 8)
 have HT0:=qy.mk (HTP.out.ahead 8)
 generalize hcol : (fun k=>if W.heap.size ≤ k then 8 else col k) = col8 at HS0 HT0
 replace HC8 : qy (∀ k,W.heap.size ≤ k → col8 k = 8):=⟨fun k hk=>by rw [← hcol];exact HC8.out k hk⟩
 clear hcol HS HTP
 have HB1d:=qy.mk (qx HB1.out (qh (Below.refl _ _)))
 have HS1:=qy.mk (HS0.out.to HB1d.out)
 have HT1:=qy.mk (HT0.out.to HB1d.out)
 refine start_ (n:=16) (S:=fun w'=>w'.cell? ⟨W.heap.size,0,none⟩ = some (.int .i64 X.f0) ∧ w'.cell? ⟨W.heap.size,1,none⟩ = some (.int .i64 X.f1)) (ds:=[14]) (Array.replicate 16 false) (by kernel_rfl) rfl rfl ⟨(qq BX1.out 0).trans rfl,(qq BX1.out 1).trans rfl⟩ (fun hHeld=>?_)
 refine pa_ 0 12 (bz_ 16 1) ?_
 refine pa_ 1 13 (bz_ 16 3) ?_
 refine pa_ 2 14 (bz_ 16 7) ?_
 refine pa_ 3 15 (bz_ 16 15) ?_
 refine pa_ 7 19 (bz_ 16 143) ?_
 refine pa_ 8 20 (bz_ 16 399) ?_
 refine pa_ 9 21 (bz_ 16 911) ?_
 refine pa_ 10 22 (bz_ 16 1935) ?_
 refine ta_ 4 16 (bz_ 16 1951) hHeld (hy:=Or.inl ⟨by rfl,by rintro w' ⟨s0,s1⟩;go_simp;with_reducible rfl⟩) (h:=?_)
 refine ta_ 11 23 (bz_ 16 3999) hHeld (hy:=Or.inl ⟨by rfl,by rintro w' ⟨s0,s1⟩;go_simp;with_reducible rfl⟩) (h:=?_)
 refine one_ (i:=5) (N:=some 17) (bz_ 16 4031) rfl rfl (by kernel_rfl) (by decide) (fun K hK=>?_)
 refine goes_ Try.func28 (by kernel_rfl) rfl #[.pointer (some ⟨g,0,none⟩),.int .i64 X.f0] (by rfl) rfl rfl (by simp only [List.map_toArray,List.map_cons,List.map_nil];rfl) ?_
 refine (l10Top_bl HS1.out X.f0 HW.out HX.out.1).mono ?_
 rintro e_ wc1 ⟨rfl,hb⟩
 try rw [HAB.out.1]
 have HB2:=qy.mk hb
 have HS2:=qy.mk (HS1.out.to hb)
 have HT2:=qy.mk (HT1.out.to hb)
 refine ⟨_,rfl,?_⟩
 refine hK.out _ _ ⟨pw_cell_below hb hHeld.1,pw_cell_below hb hHeld.2⟩ (fun hHeld=>?_)
 clear hK K
 refine norm_ (a':=?_) ?_ ?_
 rotate_left
 ·show Act.put _ (some 17) _ = _
  simp only [Act.put,List.setIfInBounds_toArray,List.set_cons_zero,List.set_cons_succ,i64_w,i32_w]
  rfl
 refine one_ (i:=6) (N:=some 18) (bz_ 16 4095) rfl rfl (by kernel_rfl) (by decide) (fun K hK=>?_)
 refine goes_ Try.func45 (by kernel_rfl) rfl #[.pointer (some ⟨g,0,none⟩),.pointer (some ⟨gt,0,none⟩),.int .i64 A] (by rfl) rfl rfl (by simp only [List.map_toArray,List.map_cons,List.map_nil];rfl) ?_
 refine (l10Way_calls HS2.out HT2.out HW.out k (by have:=H0.out;omega) A ws HWA.out.1).mono ?_
 rintro e_ wc2 ⟨va_,rfl,hr,hb⟩
 obtain ⟨Aa,ca,e_⟩:=Kd.R_slice hr
 subst e_
 have HR8:=qy.mk hr
 have HB3:=qy.mk hb
 have HS3:=qy.mk (HS2.out.to hb)
 have HT3:=qy.mk (HT2.out.to hb)
 clear hr
 refine ⟨_,rfl,?_⟩
 refine hK.out _ _ ⟨pw_cell_below hb hHeld.1,pw_cell_below hb hHeld.2⟩ (fun hHeld=>?_)
 clear hK K
 refine norm_ (a':=?_) ?_ ?_
 rotate_left
 ·show Act.put _ (some 18) _ = _
  simp only [Act.put,List.setIfInBounds_toArray,List.set_cons_zero,List.set_cons_succ,i64_w,i32_w]
  rfl
 refine one_ (i:=12) (N:=some 24) (bz_ 16 8191) rfl rfl (by kernel_rfl) (by decide) (fun K hK=>?_)
 refine goes_ Try.func28 (by kernel_rfl) rfl #[.pointer (some ⟨g,0,none⟩),.int .i64 X.f1] (by rfl) rfl rfl (by simp only [List.map_toArray,List.map_cons,List.map_nil];rfl) ?_
 refine (l10Top_bl HS3.out X.f1 HW.out HX.out.2).mono ?_
 rintro e_ wc3 ⟨rfl,hb⟩
 try rw [HAB.out.2]
 have HB4:=qy.mk hb
 have HS4:=qy.mk (HS3.out.to hb)
 have HT4:=qy.mk (HT3.out.to hb)
 refine ⟨_,rfl,?_⟩
 refine hK.out _ _ ⟨pw_cell_below hb hHeld.1,pw_cell_below hb hHeld.2⟩ (fun hHeld=>?_)
 clear hK K
 refine norm_ (a':=?_) ?_ ?_
 rotate_left
 ·show Act.put _ (some 24) _ = _
  simp only [Act.put,List.setIfInBounds_toArray,List.set_cons_zero,List.set_cons_succ,i64_w,i32_w]
  rfl
 refine one_ (i:=13) (N:=some 25) (bz_ 16 16383) rfl rfl (by kernel_rfl) (by decide) (fun K hK=>?_)
 refine goes_ Try.func45 (by kernel_rfl) rfl #[.pointer (some ⟨g,0,none⟩),.pointer (some ⟨gt,0,none⟩),.int .i64 B] (by rfl) rfl rfl (by simp only [List.map_toArray,List.map_cons,List.map_nil];rfl) ?_
 refine (l10Way_calls HS4.out HT4.out HW.out k (by have:=H0.out;omega) B us HWA.out.2).mono ?_
 rintro e_ wc4 ⟨vb_,rfl,hr,hb⟩
 obtain ⟨Ab,cb,e_⟩:=Kd.R_slice hr
 subst e_
 have HR9:=qy.mk hr
 have HB5:=qy.mk hb
 have HS5:=qy.mk (HS4.out.to hb)
 have HT5:=qy.mk (HT4.out.to hb)
 clear hr
 refine ⟨_,rfl,?_⟩
 refine hK.out _ _ ⟨pw_cell_below hb hHeld.1,pw_cell_below hb hHeld.2⟩ (fun hHeld=>?_)
 clear hK K
 refine norm_ (a':=?_) ?_ ?_
 rotate_left
 ·show Act.put _ (some 25) _ = _
  simp only [Act.put,List.setIfInBounds_toArray,List.set_cons_zero,List.set_cons_succ,i64_w,i32_w]
  rfl
 refine last_ (i:=14) (N:=some 26) (bz_ 16 32767) rfl rfl (by kernel_rfl) (by decide) (fun K hK=>?_)
 refine value_ (w1:=?_) (v:=?_) (by rfl) rfl ?_ ?_
 rotate_left 2
 ·go_simp
  constructor
  ·rfl
  rfl
 refine hK.out _ _ ?_
 clear hK K
 refine norm_ (a':=?_) ?_ ?_
 rotate_left
 ·show Act.put _ (some 26) _ = _
  simp only [Act.put,List.setIfInBounds_toArray,List.set_cons_zero,List.set_cons_succ,i64_w,i32_w]
  rfl
 refine pa_ 15 6 (bz_ 16 65535) ?_
 refine done_ (by kernel_rfl) ?_
 have BXW : qy ((wc4.alloc (.cells #[.slice Aa ws.length ca,.slice Ab us.length cb] 35)).heap[wc4.heap.size]? = some (.cells #[.slice Aa ws.length ca,.slice Ab us.length cb] 35 (0,0))):=⟨blk_new wc4 _⟩
 have HBW : qy (Below wc4.heap.size wc4 (wc4.alloc (.cells #[.slice Aa ws.length ca,.slice Ab us.length cb] 35))):=⟨qo (Below.refl _ _) _⟩
 generalize wc4.alloc (.cells #[.slice Aa ws.length ca,.slice Ab us.length cb] 35) = W6 at *
 have HB6:=qy.mk (qx HB1d.out (qx HB2.out (qx HB3.out (qx HB4.out (qx HB5.out HBW.out)))))
 have HZ1 : qy (W.heap.size ≤ wc1.heap.size ∧ W.heap.size ≤ wc3.heap.size ∧ W.heap.size ≤ wc4.heap.size):=⟨by have h1:=HB1d.out.size;have h2:=HB2.out.size;have h3:=HB3.out.size;have h4:=HB4.out.size;have h5:=HB5.out.size;omega⟩
 have HRa : qy (Kd.R (Kd.int .i64) 3 W6 wc1.heap.size (fun k=>col8 k = 8) (.slice Aa ws.length ca) ws):=⟨Kd.R_mono (Kd.R_bound (Kd.R_below HR8.out (qx HB4.out (qx HB5.out HBW.out)))) (by rintro k ⟨_,h1,_⟩;exact HC8.out k (Nat.le_trans HZ1.out.1 h1))⟩
 have HRb : qy (Kd.R (Kd.int .i64) 3 W6 wc3.heap.size (fun k=>col8 k = 8) (.slice Ab us.length cb) us):=⟨Kd.R_mono (Kd.R_bound (Kd.R_below HR9.out HBW.out)) (by rintro k ⟨_,h1,_⟩;exact HC8.out k (Nat.le_trans HZ1.out.2.1 h1))⟩
 have HTz:=qy.mk (HT5.out.to HBW.out)
 have BE:=qy.mk (qw BX1.out (qx (qh (Below.refl _ _)) (qx HB2.out (qx HB3.out (qx HB4.out (qx HB5.out HBW.out))))))
 have HSk:=qy.mk ((HS5.out.to HBW.out).keep (Z':=fun k=>4 ≤ col8 k ∧ k ≠ g ∧ k < W6.heap.size) (fun k h=>h))
 have HCB : qy (4 ≤ col8 W.heap.size ∧ 4 ≤ col8 wc4.heap.size):=⟨by rw [HC8.out _ (Nat.le_refl _),HC8.out _ HZ1.out.2.2];decide⟩
 have HB39:=qy.mk HSk.out.blk
 generalize wc4.heap.size = gw at BXW HCB ⊢
 generalize W.heap.size = gb at BE HCB ⊢
 clear hHeld HB1 HB1d HB2 HB3 HB4 HB5 HBW HB6 HZ1 HR8 HR9 HT0 HT1 HT2 HT3 HT4 HT5 HS0 HS1 HS2 HS3 HS4 HS5 HC8 BX1 HWA
 obtain ⟨Am,cm,e_⟩:=Kd.R_slice HSk.out.rm
 go_wp2_with fail
 as_aux_lemma =>
  go_loopg [7] 3 (fun kq v7 w'=>∃ (kk : Int) (mt : List S77) (col' : Nat → Nat) (vm' : Value),v7 = .int .i64 kk ∧ qy (kk + kq = 3 ∧ (kk = 0 ∧ mt = s.mt ∨ kk = 1 ∧ mt = wlF (cvs s.nd) ws s.mt ∨ kk = 2 ∧ mt = wlF (cvs s.nd) us (wlF (cvs s.nd) ws s.mt))) ∧ qy ((∀ x ∈ mt,inR x.f0 s.nd.length ∧ inR x.f1 s.nd.length) ∧ mt.length ≤ 1000) ∧ qy (Rn w0 w' (fun k=>4 ≤ col8 k ∧ k ≠ g ∧ k < W6.heap.size) W6 g N Ae ce es col' vy vn vm' { s with mt:=mt }))
  case atStart=>exact ⟨0,s.mt,col8,vm,rfl,⟨by omega,.inl ⟨rfl,rfl⟩⟩,⟨HM.out,H0.out.1⟩,HSk⟩
  clear HSk
  obtain ⟨kk,mt,col1,vm1,rfl,HK,HMR,HS⟩:=hrel
  have HKP:=qy.mk HS.out.kp
  have BW2:=qy.mk (HKP.out.blk BXW.out HB39.out (by decide) HCB.out.2)
  have hw0 : wr.cell? ⟨gw,0,none⟩ = some (.slice Aa ws.length ca):=(qq BW2.out 0).trans rfl
  have hw1 : wr.cell? ⟨gw,1,none⟩ = some (.slice Ab us.length cb):=(qq BW2.out 1).trans rfl
  cases gk with
  | zero =>
   obtain ⟨h1,h2⟩:=HK.out
   exfalso
   omega
  | succ gk1 =>
  rcases HK.out with ⟨hk0,⟨rfl,hmt⟩|⟨rfl,hmt⟩|⟨rfl,hmt⟩⟩
  ·have HK0:=qy.mk hk0
   have HMT:=qy.mk hmt
   clear hk0 hmt HK
   as_aux_lemma =>
    go_wp2_with fail
    go_loopg [8] (ws.length + 1) (fun ki v8 w'=>∃ (i : Int) (mt' : List S77) (col' : Nat → Nat) (vm' : Value),v8 = .int .i64 i ∧ qy (0 ≤ i ∧ i + ki = ws.length + 1 ∧ i ≤ ws.length) ∧ qy (wlF (cvs s.nd) (ws.drop i.toNat) mt' = wlF (cvs s.nd) ws mt) ∧ qy ((∀ x ∈ mt',inR x.f0 s.nd.length ∧ inR x.f1 s.nd.length) ∧ mt'.length ≤ 1000) ∧ qy (Rn w0 w' (fun k=>4 ≤ col8 k ∧ k ≠ g ∧ k < W6.heap.size) W6 g N Ae ce es col' vy vn vm' { s with mt:=mt' }))
    case atStart=>exact ⟨0,mt,_,_,rfl,⟨by omega,by omega,by omega⟩,⟨rfl⟩,HMR,HS⟩
    clear hw0 hw1 BW2 HS HKP HMR
    obtain ⟨i,mt',col2,vm2,rfl,HI,HTT,HMR,HS⟩:=hrel
    have h:=HTT.out
    clear HTT
    have HKP:=qy.mk HS.out.kp
    have BW2:=qy.mk (HKP.out.blk BXW.out HB39.out (by decide) HCB.out.2)
    have hw0 : wr.cell? ⟨gw,0,none⟩ = some (.slice Aa ws.length ca):=(qq BW2.out 0).trans rfl
    cases gk with
    | zero =>
     exfalso
     have h1:=HI.out
     omega
    | succ ki =>
     by_cases c : i < (ws.length : Int)
     ·have hi:=HI.out
      rw [drop_rd _ _ hi.1 c,wlF] at h
      have HTT:=qy.mk h
      have cl0 : decide (i < (ws.length : Int)) = true:=decide_eq_true c
      have HIL:=qy.mk c
      have HRR:=qy.mk (HKP.out.row HRa.out HB39.out t39_3 (fun k hk=>by omega))
      obtain ⟨aa,e_,hxi⟩:=Kd.at_int (Kd.R_reads' HRR.out).2.2 i hi.1 c
      subst e_
      have pi:=eq_true hi.1
      have qi:=eq_true c
      clear c hi h
      go_wp2_with (first|(go_at_call 49;refine (l10Without_calls HS.out HW.out _ HMR.out.1 (by have:=HMR.out.2;show mt'.length ≤ 1000000;omega)).mono ?_;rintro e_ w7 ⟨rfl,col7,vm7,hs,-⟩;have HS7:=qy.mk hs;clear hs))
      go_roundg ki
      case measure=>omega
      case rel=>exact ⟨i + 1,_,col7,vm7,by first|rfl|rw [w64 (by have:=HI.out;omega) (by have:=HIL.out;have:=H0.out;omega)],⟨by have:=HI.out;omega,by have:=HI.out;omega,by have:=HIL.out;omega⟩,HTT,⟨fun x hx=>HMR.out.1 x (withF_mem hx),Nat.le_trans withF_len HMR.out.2⟩,HS7⟩
     have hi:=HI.out
     rw [List.drop_eq_nil_of_le (by omega),wlF] at h
     have cl0 : decide (i < (ws.length : Int)) = false:=decide_eq_false c
     have HTT:=qy.mk h
     clear c hi h
     go_wp2_with fail
     go_roundg gk1
     case measure=>omega
     case rel=>exact ⟨1,mt',_,_,by first|rfl|decide,⟨by have:=HK0.out;omega,.inr (.inl ⟨rfl,by rw [HTT.out,HMT.out]⟩)⟩,HMR,HS⟩
  ·have HK0:=qy.mk hk0
   have HMT:=qy.mk hmt
   clear hk0 hmt HK
   as_aux_lemma =>
    go_wp2_with fail
    go_loopg [8] (us.length + 1) (fun ki v8 w'=>∃ (i : Int) (mt' : List S77) (col' : Nat → Nat) (vm' : Value),v8 = .int .i64 i ∧ qy (0 ≤ i ∧ i + ki = us.length + 1 ∧ i ≤ us.length) ∧ qy (wlF (cvs s.nd) (us.drop i.toNat) mt' = wlF (cvs s.nd) us mt) ∧ qy ((∀ x ∈ mt',inR x.f0 s.nd.length ∧ inR x.f1 s.nd.length) ∧ mt'.length ≤ 1000) ∧ qy (Rn w0 w' (fun k=>4 ≤ col8 k ∧ k ≠ g ∧ k < W6.heap.size) W6 g N Ae ce es col' vy vn vm' { s with mt:=mt' }))
    case atStart=>exact ⟨0,mt,_,_,rfl,⟨by omega,by omega,by omega⟩,⟨rfl⟩,HMR,HS⟩
    clear hw0 hw1 BW2 HS HKP HMR
    obtain ⟨i,mt',col2,vm2,rfl,HI,HTT,HMR,HS⟩:=hrel
    have h:=HTT.out
    clear HTT
    have HKP:=qy.mk HS.out.kp
    have BW2:=qy.mk (HKP.out.blk BXW.out HB39.out (by decide) HCB.out.2)
    have hw1 : wr.cell? ⟨gw,1,none⟩ = some (.slice Ab us.length cb):=(qq BW2.out 1).trans rfl
    cases gk with
    | zero =>
     exfalso
     have h1:=HI.out
     omega
    | succ ki =>
     by_cases c : i < (us.length : Int)
     ·have hi:=HI.out
      rw [drop_rd _ _ hi.1 c,wlF] at h
      have HTT:=qy.mk h
      have cl0 : decide (i < (us.length : Int)) = true:=decide_eq_true c
      have HIL:=qy.mk c
      have HRR:=qy.mk (HKP.out.row HRb.out HB39.out t39_3 (fun k hk=>by omega))
      obtain ⟨aa,e_,hxi⟩:=Kd.at_int (Kd.R_reads' HRR.out).2.2 i hi.1 c
      subst e_
      have pi:=eq_true hi.1
      have qi:=eq_true c
      clear c hi h
      go_wp2_with (first|(go_at_call 49;refine (l10Without_calls HS.out HW.out _ HMR.out.1 (by have:=HMR.out.2;show mt'.length ≤ 1000000;omega)).mono ?_;rintro e_ w7 ⟨rfl,col7,vm7,hs,-⟩;have HS7:=qy.mk hs;clear hs))
      go_roundg ki
      case measure=>omega
      case rel=>exact ⟨i + 1,_,col7,vm7,by first|rfl|rw [w64 (by have:=HI.out;omega) (by have:=HIL.out;have:=H0.out;omega)],⟨by have:=HI.out;omega,by have:=HI.out;omega,by have:=HIL.out;omega⟩,HTT,⟨fun x hx=>HMR.out.1 x (withF_mem hx),Nat.le_trans withF_len HMR.out.2⟩,HS7⟩
     have hi:=HI.out
     rw [List.drop_eq_nil_of_le (by omega),wlF] at h
     have cl0 : decide (i < (us.length : Int)) = false:=decide_eq_false c
     have HTT:=qy.mk h
     clear c hi h
     go_wp2_with fail
     go_roundg gk1
     case measure=>omega
     case rel=>exact ⟨2,mt',_,_,by first|rfl|decide,⟨by have:=HK0.out;omega,.inr (.inr ⟨rfl,by rw [HTT.out,HMT.out]⟩)⟩,HMR,HS⟩
  have HMT:=qy.mk hmt
  clear hk0 hmt HK hw0 hw1 BW2
  as_aux_lemma =>
   have BE2:=qy.mk (HKP.out.blk BE.out HB39.out (by decide) HCB.out.1)
   go_wp2_with fail
   obtain ⟨Am1,cm1,e_⟩:=Kd.R_slice HS.out.rm
   subst e_
   have HSd:=qy.mk ((HS.out.ahead 3).to (qh (Below.refl _ _)))
   refine start_ (n:=15) (S:=fun w'=>w'.cell? ⟨g,4,none⟩ = some (.slice Am1 mt.length cm1) ∧ w'.cell? ⟨gb,0,none⟩ = some (.int .i64 X.f0) ∧ w'.cell? ⟨gb,1,none⟩ = some (.int .i64 X.f1)) (ds:=[11,14]) (Array.replicate 15 false) (by kernel_rfl) rfl rfl ⟨HS.out.cells.2.2.2.2.1,(qq BE2.out 0).trans rfl,(qq BE2.out 1).trans rfl⟩ (fun hHeld=>?_)
   refine pa_ 0 49 (bz_ 15 1) ?_
   refine pa_ 1 50 (bz_ 15 3) ?_
   refine pa_ 2 51 (bz_ 15 7) ?_
   refine pa_ 3 52 (bz_ 15 15) ?_
   refine pa_ 5 54 (bz_ 15 47) ?_
   refine pa_ 7 56 (bz_ 15 175) ?_
   refine ta_ 4 53 (bz_ 15 191) hHeld (hy:=Or.inl ⟨by rfl,by rintro w' ⟨s0,s1,s2⟩;go_simp;with_reducible rfl⟩) (h:=?_)
   refine ta_ 6 55 (bz_ 15 255) hHeld (hy:=Or.inl ⟨by rfl,by rintro w' ⟨s0,s1,s2⟩;go_simp;with_reducible rfl⟩) (h:=?_)
   refine ta_ 8 57 (bz_ 15 511) hHeld (hy:=Or.inl ⟨by rfl,by rintro w' ⟨s0,s1,s2⟩;go_simp;with_reducible rfl⟩) (h:=?_)
   refine pa_ 9 58 (bz_ 15 1023) ?_
   refine one_ (i:=10) (N:=some 59) (bz_ 15 2047) rfl rfl (by kernel_rfl) (by decide) (fun K hK=>?_)
   refine value_ (w1:=?_) (v:=?_) (by rfl) rfl ?_ ?_
   rotate_left 2
   ·go_simp
    constructor
    ·rfl
    rfl
   refine hK.out _ _ ⟨pw_cell_below (qo (Below.refl _ _) _) hHeld.1,pw_cell_below (qo (Below.refl _ _) _) hHeld.2.1,pw_cell_below (qo (Below.refl _ _) _) hHeld.2.2⟩ (fun hHeld=>?_)
   clear hK K
   refine norm_ (a':=?_) ?_ ?_
   rotate_left
   ·show Act.put _ (some 59) _ = _
    simp only [Act.put,List.setIfInBounds_toArray,List.set_cons_zero,List.set_cons_succ,i64_w,i32_w]
    rfl
   refine last_ (i:=11) (N:=some 60) (bz_ 15 4095) rfl rfl (by kernel_rfl) (by decide) (fun K hK=>?_)
   refine Kd.R_append_step k77 (w0:=w0) (W:=wr.drew) w0.heap.size (by rfl) (.tmp 53) (.tmp 59) 37 77 (.agg #[.int .i64 0,.int .i64 0]) 16 rfl Try.underlying37 info77 rfl (by decide) (by omega) (.slice Am1 mt.length cm1) mt ((⟨X.f0,X.f1⟩ : S77)) [.int .i64 ((⟨X.f0,X.f1⟩ : S77)).f0,.int .i64 ((⟨X.f0,X.f1⟩ : S77)).f1] _ (fun _=>False) (by rfl) (by rfl) (k77_mkM _ _ _ ((⟨X.f0,X.f1⟩ : S77))) (fun _ hk=>hk.elim) (fun q hq=>if_pos hq) HSd.out.rm HSd.out.hb HSd.out.hb.size (by have:=HMR.out.2;omega) ?_
   intro v7 w7 ho hb hg hat
   obtain ⟨A7,c7,e_⟩:=Kd.R_slice ho
   rw [List.length_append,List.length_singleton] at e_
   subst e_
   obtain ⟨hS3,hx3,hf3⟩:=Rn.app_m HSd.out ho hb hg
   have HS8:=qy.mk hS3
   clear hS3 ho hb hg hat
   refine hK.out _ _ ?_
   clear hK K
   refine norm_ (a':=?_) ?_ ?_
   rotate_left
   ·show Act.put _ (some 60) _ = _
    simp only [Act.put,List.setIfInBounds_toArray,List.set_cons_zero,List.set_cons_succ,i64_w,i32_w]
    rfl
   refine pa_ 12 61 (bz_ 15 8191) ?_
   refine pa_ 13 62 (bz_ 15 16383) ?_
   refine last_ (i:=14) (N:=none) (bz_ 15 32767) rfl rfl (by kernel_rfl) (by decide) (fun K hK=>?_)
   refine skip_ (w1:=?_) (by rfl) rfl ?_ ?_
   rotate_left
   ·go_simp
    rfl
   refine hK.out _ _ ?_
   clear hK K
   refine done_ (by kernel_rfl) ?_
   clear hx3 hf3 hHeld HSd HS HKP BE2
   have HMR8 : qy ((∀ x ∈ mt ++ [(⟨X.f0,X.f1⟩ : S77)],inR x.f0 s.nd.length ∧ inR x.f1 s.nd.length) ∧ (mt ++ [(⟨X.f0,X.f1⟩ : S77)]).length ≤ 1001):=⟨fun x hx=>by rcases List.mem_append.1 hx with h|h;exact HMR.out.1 x h;rw [List.mem_singleton.1 h];exact HX.out,by rw [List.length_append,List.length_singleton];have:=HMR.out.2;omega⟩
   generalize w7.setCell _ _ = w8 at HS8 ⊢
   rw [← List.length_singleton (a:=(⟨X.f0,X.f1⟩ : S77)),← List.length_append] at HS8
   obtain ⟨mt1,hmt1⟩ : ∃ mt1,mt ++ [(⟨X.f0,X.f1⟩ : S77)] = mt1:=⟨_,rfl⟩
   have HMT1 : qy (wlF (cvs s.nd) us (wlF (cvs s.nd) ws s.mt) ++ [⟨X.f0,X.f1⟩] = mt1):=⟨by rw [← HMT.out];exact hmt1⟩
   rw [hmt1] at HS8 HMR8
   clear HMT HMR hmt1
   go_wp2_with fail
   as_aux_lemma =>
    go_loopg [9] 3 (fun kq v9 w'=>∃ (kk : Int) (mt : List S77) (col' : Nat → Nat) (vm' : Value),v9 = .int .i64 kk ∧ qy (kk + kq = 3 ∧ (kk = 0 ∧ mt = mt1 ∨ kk = 1 ∧ mt = ahF t.lb t.ah ws mt1 ∨ kk = 2 ∧ mt = ahF t.lb t.ah us (ahF t.lb t.ah ws mt1))) ∧ qy ((mt.length : Int) ≤ 1001 + 1000 * kk) ∧ qy (Rn w0 w' (fun k=>4 ≤ col8 k ∧ k ≠ g ∧ k < W6.heap.size) W6 g N Ae ce es col' vy vn vm' { s with mt:=mt }))
    case atStart=>exact ⟨0,mt1,_,_,rfl,⟨by omega,.inl ⟨rfl,rfl⟩⟩,⟨by have:=HMR8.out.2;omega⟩,HS8⟩
    clear HS8 HMR8
    obtain ⟨kk,mt,col1,vm1,rfl,HK,HML,HS⟩:=hrel
    have HKP:=qy.mk HS.out.kp
    have BW2:=qy.mk (HKP.out.blk BXW.out HB39.out (by decide) HCB.out.2)
    have hw0 : wr.cell? ⟨gw,0,none⟩ = some (.slice Aa ws.length ca):=(qq BW2.out 0).trans rfl
    have hw1 : wr.cell? ⟨gw,1,none⟩ = some (.slice Ab us.length cb):=(qq BW2.out 1).trans rfl
    cases gk with
    | zero =>
     obtain ⟨h1,h2⟩:=HK.out
     exfalso
     omega
    | succ gk1 =>
    rcases HK.out with ⟨hk0,⟨rfl,hmt⟩|⟨rfl,hmt⟩|⟨rfl,hmt⟩⟩
    ·have HK0:=qy.mk hk0
     have HMT:=qy.mk hmt
     clear hk0 hmt HK
     as_aux_lemma =>
      go_wp2_with fail
      go_loopg [10] (ws.length + 1) (fun ki v10 w'=>∃ (i : Int) (mt' : List S77) (col' : Nat → Nat) (vm' : Value),v10 = .int .i64 i ∧ qy (0 ≤ i ∧ i + ki = ws.length + 1 ∧ i ≤ ws.length) ∧ qy (ahF t.lb t.ah (ws.drop i.toNat) mt' = ahF t.lb t.ah ws mt) ∧ qy ((mt'.length : Int) ≤ 1001 + 1000 * 0 + i) ∧ qy (Rn w0 w' (fun k=>4 ≤ col8 k ∧ k ≠ g ∧ k < W6.heap.size) W6 g N Ae ce es col' vy vn vm' { s with mt:=mt' }))
      case atStart=>exact ⟨0,mt,_,_,rfl,⟨by omega,by omega,by omega⟩,⟨rfl⟩,⟨by have:=HML.out;omega⟩,HS⟩
      clear hw0 hw1 BW2 HS HKP HML
      obtain ⟨i,mt',col2,vm2,rfl,HI,HTT,HML,HS⟩:=hrel
      have h:=HTT.out
      clear HTT
      have HKP:=qy.mk HS.out.kp
      have BW2:=qy.mk (HKP.out.blk BXW.out HB39.out (by decide) HCB.out.2)
      have hw0 : wr.cell? ⟨gw,0,none⟩ = some (.slice Aa ws.length ca):=(qq BW2.out 0).trans rfl
      cases gk with
      | zero =>
       exfalso
       have h1:=HI.out
       omega
      | succ ki =>
       by_cases c : i < (ws.length : Int)
       ·have hi:=HI.out
        rw [drop_rd _ _ hi.1 c,ahF] at h
        have cl0 : decide (i < (ws.length : Int)) = true:=decide_eq_true c
        have HIL:=qy.mk c
        have HRR:=qy.mk (HKP.out.row HRa.out HB39.out t39_3 (fun k hk=>by omega))
        obtain ⟨aa,e_,hxi⟩:=Kd.at_int (Kd.R_reads' HRR.out).2.2 i hi.1 c
        subst e_
        have HT2:=qy.mk (HKP.out.tp HTz.out HB39.out)
        obtain ⟨⟨n0,n1⟩,⟨n2,n3⟩⟩:=HAS.out _ (rd_mem ws i hi.1 c)
        obtain ⟨Al,cl,e_⟩:=Kd.R_slice HT2.out.rl
        subst e_
        obtain ⟨Aq,cq,e_⟩:=Kd.R_slice HT2.out.ra
        subst e_
        obtain ⟨al,e_,hlb⟩:=Kd.at_int (Kd.R_reads' HT2.out.rl).2.2 _ n0 n1
        subst e_
        obtain ⟨aq,e_,hah0,hah1⟩:=at_T77 (Kd.R_reads' HT2.out.ra).2.2 _ n2 n3
        subst e_
        have pi:=eq_true hi.1
        have qi:=eq_true c
        have p1:=eq_true n0
        have q1:=eq_true n1
        have p2:=eq_true n2
        have q2:=eq_true n3
        clear c hi
        have cr:=HI.out
        go_wp2_with fail
        refine start_ (n:=14) (S:=fun w'=>w'.cell? ⟨gt,0,none⟩ = some (.slice (some al) t.lb.length cl) ∧ w'.cell? (al.add (rd ws i).toNat) = some (.int .i64 (rd t.lb (rd ws i))) ∧ w'.cell? ⟨gw,0,none⟩ = some (.slice (some aa) ws.length ca) ∧ w'.cell? (aa.add i.toNat) = some (.int .i64 (rd ws i))) (ds:=[]) (Array.replicate 14 false) (by kernel_rfl) rfl rfl ⟨HT2.out.cells.1,hlb,hw0,hxi⟩ (fun hHeld=>?_)
        refine pa_ 0 76 (bz_ 14 1) ?_
        refine pa_ 1 77 (bz_ 14 3) ?_
        refine pa_ 2 78 (bz_ 14 7) ?_
        refine pa_ 4 80 (bz_ 14 23) ?_
        refine pa_ 5 81 (bz_ 14 55) ?_
        refine pa_ 6 82 (bz_ 14 119) ?_
        refine pa_ 8 84 (bz_ 14 375) ?_
        refine ta_ 3 79 (bz_ 14 383) hHeld (hy:=Or.inl ⟨by rfl,by rintro w' ⟨s0,s1,s2,s3⟩;go_simp;with_reducible rfl⟩) (h:=?_)
        refine ta_ 7 83 (bz_ 14 511) hHeld (hy:=Or.inl ⟨by rfl,by rintro w' ⟨s0,s1,s2,s3⟩;go_simp;with_reducible rfl⟩) (h:=?_)
        refine pa_ 9 85 (bz_ 14 1023) ?_
        refine ta_ 10 86 (bz_ 14 2047) hHeld (hy:=Or.inl ⟨by rfl,by rintro w' ⟨s0,s1,s2,s3⟩;go_simp;with_reducible rfl⟩) (h:=?_)
        refine pa_ 11 87 (bz_ 14 4095) ?_
        refine ta_ 12 88 (bz_ 14 8191) hHeld (hy:=Or.inl ⟨by rfl,by rintro w' ⟨s0,s1,s2,s3⟩;go_simp;with_reducible rfl⟩) (h:=?_)
        refine pa_ 13 89 (bz_ 14 16383) ?_
        refine done_ (by kernel_rfl) ?_
        have HSe:=qy.mk (HS.out.to (qh (Below.refl _ _)))
        by_cases c2 : rd t.lb (rd ws i) = 2
        ·rw [if_pos c2] at h
         have HTT:=qy.mk h
         have cb2 : (rd t.lb (rd ws i) == 2) = true:=by simpa using c2
         clear h c2
         replace HT2:=qy.mk (HT2.out.to (qh (Below.refl _ _)))
         go_wp2_with fail
         obtain ⟨Am1,cm1,e_⟩:=Kd.R_slice HSe.out.rm
         subst e_
         have HSd:=qy.mk ((HSe.out.ahead 3).to (qh (Below.refl _ _)))
         refine start_ (n:=23) (S:=fun w'=>w'.cell? ⟨g,4,none⟩ = some (.slice Am1 mt'.length cm1) ∧ w'.cell? ⟨gt,1,none⟩ = some (.slice (some aq) t.ah.length cq) ∧ w'.cell? (aq.add ((rd ws i).toNat * 2)) = some (.int .i64 (rd_T77 t.ah (rd ws i)).f0) ∧ w'.cell? ⟨(aq.add ((rd ws i).toNat * 2)).block,(aq.add ((rd ws i).toNat * 2)).off + 1,none⟩ = some (.int .i64 (rd_T77 t.ah (rd ws i)).f1) ∧ w'.cell? ⟨gw,0,none⟩ = some (.slice (some aa) ws.length ca) ∧ w'.cell? (aa.add i.toNat) = some (.int .i64 (rd ws i))) (ds:=[19,22]) (Array.replicate 23 false) (by kernel_rfl) rfl rfl ⟨HSe.out.cells.2.2.2.2.1,HT2.out.cells.2.1,hah0,hah1,hw0,hxi⟩ (fun hHeld=>?_)
         refine pa_ 0 90 (bz_ 23 1) ?_
         refine pa_ 1 91 (bz_ 23 3) ?_
         refine pa_ 2 92 (bz_ 23 7) ?_
         refine pa_ 3 93 (bz_ 23 15) ?_
         refine pa_ 5 95 (bz_ 23 47) ?_
         refine pa_ 6 96 (bz_ 23 111) ?_
         refine pa_ 7 97 (bz_ 23 239) ?_
         refine pa_ 9 99 (bz_ 23 751) ?_
         refine pa_ 10 100 (bz_ 23 1775) ?_
         refine pa_ 11 101 (bz_ 23 3823) ?_
         refine pa_ 13 103 (bz_ 23 12015) ?_
         refine ta_ 4 94 (bz_ 23 12031) hHeld (hy:=Or.inl ⟨by rfl,by rintro w' ⟨s0,s1,s2,s3,s4,s5⟩;go_simp;with_reducible rfl⟩) (h:=?_)
         refine ta_ 8 98 (bz_ 23 12287) hHeld (hy:=Or.inl ⟨by rfl,by rintro w' ⟨s0,s1,s2,s3,s4,s5⟩;go_simp;with_reducible rfl⟩) (h:=?_)
         refine ta_ 12 102 (bz_ 23 16383) hHeld (hy:=Or.inl ⟨by rfl,by rintro w' ⟨s0,s1,s2,s3,s4,s5⟩;go_simp;with_reducible rfl⟩) (h:=?_)
         refine pa_ 14 104 (bz_ 23 32767) ?_
         refine ta_ 15 105 (bz_ 23 65535) hHeld (hy:=Or.inl ⟨by rfl,by rintro w' ⟨s0,s1,s2,s3,s4,s5⟩;go_simp;with_reducible rfl⟩) (h:=?_)
         refine pa_ 16 106 (bz_ 23 131071) ?_
         refine ta_ 17 107 (bz_ 23 262143) hHeld (hy:=Or.inl ⟨by rfl,by rintro w' ⟨s0,s1,s2,s3,s4,s5⟩;go_simp;with_reducible rfl⟩) (h:=?_)
         refine one_ (i:=18) (N:=some 108) (bz_ 23 524287) rfl rfl (by kernel_rfl) (by decide) (fun K hK=>?_)
         refine value_ (w1:=?_) (v:=?_) (by rfl) rfl ?_ ?_
         rotate_left 2
         ·go_simp
          constructor
          ·rfl
          rfl
         refine hK.out _ _ ⟨pw_cell_below (qo (Below.refl _ _) _) hHeld.1,pw_cell_below (qo (Below.refl _ _) _) hHeld.2.1,pw_cell_below (qo (Below.refl _ _) _) hHeld.2.2.1,pw_cell_below (qo (Below.refl _ _) _) hHeld.2.2.2.1,pw_cell_below (qo (Below.refl _ _) _) hHeld.2.2.2.2.1,pw_cell_below (qo (Below.refl _ _) _) hHeld.2.2.2.2.2⟩ (fun hHeld=>?_)
         clear hK K
         refine norm_ (a':=?_) ?_ ?_
         rotate_left
         ·show Act.put _ (some 108) _ = _
          simp only [Act.put,List.setIfInBounds_toArray,List.set_cons_zero,List.set_cons_succ,i64_w,i32_w]
          rfl
         refine last_ (i:=19) (N:=some 109) (bz_ 23 1048575) rfl rfl (by kernel_rfl) (by decide) (fun K hK=>?_)
         refine Kd.R_append_step k77 (w0:=w0) (W:=wr.drew.drew) w0.heap.size (by rfl) (.tmp 94) (.tmp 108) 37 77 (.agg #[.int .i64 0,.int .i64 0]) 16 rfl Try.underlying37 info77 rfl (by decide) (by omega) (.slice Am1 mt'.length cm1) mt' (rd_T77 t.ah (rd ws i)) [.int .i64 (rd_T77 t.ah (rd ws i)).f0,.int .i64 (rd_T77 t.ah (rd ws i)).f1] _ (fun _=>False) (by rfl) (by rfl) (k77_mkM _ _ _ (rd_T77 t.ah (rd ws i))) (fun _ hk=>hk.elim) (fun q hq=>if_pos hq) HSd.out.rm HSd.out.hb HSd.out.hb.size (by have:=HML.out;have:=HIL.out;have:=H0.out;omega) ?_
         intro v7 w7 ho hb hg hat
         obtain ⟨A7,c7,e_⟩:=Kd.R_slice ho
         rw [List.length_append,List.length_singleton] at e_
         subst e_
         obtain ⟨hS3,hx3,hf3⟩:=Rn.app_m HSd.out ho hb hg
         have HS8:=qy.mk hS3
         clear hS3 ho hb hg hat
         refine hK.out _ _ ?_
         clear hK K
         refine norm_ (a':=?_) ?_ ?_
         rotate_left
         ·show Act.put _ (some 109) _ = _
          simp only [Act.put,List.setIfInBounds_toArray,List.set_cons_zero,List.set_cons_succ,i64_w,i32_w]
          rfl
         refine pa_ 20 110 (bz_ 23 2097151) ?_
         refine pa_ 21 111 (bz_ 23 4194303) ?_
         refine last_ (i:=22) (N:=none) (bz_ 23 8388607) rfl rfl (by kernel_rfl) (by decide) (fun K hK=>?_)
         refine skip_ (w1:=?_) (by rfl) rfl ?_ ?_
         rotate_left
         ·go_simp
          rfl
         refine hK.out _ _ ?_
         clear hK K
         refine done_ (by kernel_rfl) ?_
         clear hx3 hf3 HSd HSe HS HT2
         generalize w7.setCell _ _ = w8 at HS8 ⊢
         go_wp2_with fail
         go_roundg ki
         case measure=>omega
         case rel=>exact ⟨i + 1,mt' ++ [rd_T77 t.ah (rd ws i)],_,_,by first|rfl|rw [w64 (by have:=HI.out;omega) (by have:=HIL.out;have:=H0.out;omega)],⟨by have:=HI.out;omega,by have:=HI.out;omega,by have:=HIL.out;omega⟩,HTT,⟨by rw [List.length_append,List.length_singleton];have:=HML.out;omega⟩,HS8⟩
        rw [if_neg c2] at h
        have HTT:=qy.mk h
        have cb2 : (rd t.lb (rd ws i) == 2) = false:=by simpa using c2
        clear h c2
        go_wp2_with fail
        go_roundg ki
        case measure=>omega
        case rel=>exact ⟨i + 1,mt',_,_,by first|rfl|rw [w64 (by have:=HI.out;omega) (by have:=HIL.out;have:=H0.out;omega)],⟨by have:=HI.out;omega,by have:=HI.out;omega,by have:=HIL.out;omega⟩,HTT,⟨by have:=HML.out;omega⟩,HSe⟩
       have hi:=HI.out
       rw [List.drop_eq_nil_of_le (by omega),ahF] at h
       have cl0 : decide (i < (ws.length : Int)) = false:=decide_eq_false c
       have HTT:=qy.mk h
       have hi2:=HI.out.2.2
       clear c hi h
       go_wp2_with fail
       go_roundg gk1
       case measure=>omega
       case rel=>exact ⟨1,mt',_,_,by first|rfl|decide,⟨by have:=HK0.out;omega,.inr (.inl ⟨rfl,by rw [HTT.out,HMT.out]⟩)⟩,⟨by have h1:=HML.out;have h2:=H0.out;omega⟩,HS⟩
    ·have HK0:=qy.mk hk0
     have HMT:=qy.mk hmt
     clear hk0 hmt HK
     as_aux_lemma =>
      go_wp2_with fail
      go_loopg [10] (us.length + 1) (fun ki v10 w'=>∃ (i : Int) (mt' : List S77) (col' : Nat → Nat) (vm' : Value),v10 = .int .i64 i ∧ qy (0 ≤ i ∧ i + ki = us.length + 1 ∧ i ≤ us.length) ∧ qy (ahF t.lb t.ah (us.drop i.toNat) mt' = ahF t.lb t.ah us mt) ∧ qy ((mt'.length : Int) ≤ 1001 + 1000 * 1 + i) ∧ qy (Rn w0 w' (fun k=>4 ≤ col8 k ∧ k ≠ g ∧ k < W6.heap.size) W6 g N Ae ce es col' vy vn vm' { s with mt:=mt' }))
      case atStart=>exact ⟨0,mt,_,_,rfl,⟨by omega,by omega,by omega⟩,⟨rfl⟩,⟨by have:=HML.out;omega⟩,HS⟩
      clear hw0 hw1 BW2 HS HKP HML
      obtain ⟨i,mt',col2,vm2,rfl,HI,HTT,HML,HS⟩:=hrel
      have h:=HTT.out
      clear HTT
      have HKP:=qy.mk HS.out.kp
      have BW2:=qy.mk (HKP.out.blk BXW.out HB39.out (by decide) HCB.out.2)
      have hw1 : wr.cell? ⟨gw,1,none⟩ = some (.slice Ab us.length cb):=(qq BW2.out 1).trans rfl
      cases gk with
      | zero =>
       exfalso
       have h1:=HI.out
       omega
      | succ ki =>
       by_cases c : i < (us.length : Int)
       ·have hi:=HI.out
        rw [drop_rd _ _ hi.1 c,ahF] at h
        have cl0 : decide (i < (us.length : Int)) = true:=decide_eq_true c
        have HIL:=qy.mk c
        have HRR:=qy.mk (HKP.out.row HRb.out HB39.out t39_3 (fun k hk=>by omega))
        obtain ⟨aa,e_,hxi⟩:=Kd.at_int (Kd.R_reads' HRR.out).2.2 i hi.1 c
        subst e_
        have HT2:=qy.mk (HKP.out.tp HTz.out HB39.out)
        obtain ⟨⟨n0,n1⟩,⟨n2,n3⟩⟩:=HBS.out _ (rd_mem us i hi.1 c)
        obtain ⟨Al,cl,e_⟩:=Kd.R_slice HT2.out.rl
        subst e_
        obtain ⟨Aq,cq,e_⟩:=Kd.R_slice HT2.out.ra
        subst e_
        obtain ⟨al,e_,hlb⟩:=Kd.at_int (Kd.R_reads' HT2.out.rl).2.2 _ n0 n1
        subst e_
        obtain ⟨aq,e_,hah0,hah1⟩:=at_T77 (Kd.R_reads' HT2.out.ra).2.2 _ n2 n3
        subst e_
        have pi:=eq_true hi.1
        have qi:=eq_true c
        have p1:=eq_true n0
        have q1:=eq_true n1
        have p2:=eq_true n2
        have q2:=eq_true n3
        clear c hi
        have cr:=HI.out
        go_wp2_with fail
        refine start_ (n:=14) (S:=fun w'=>w'.cell? ⟨gt,0,none⟩ = some (.slice (some al) t.lb.length cl) ∧ w'.cell? (al.add (rd us i).toNat) = some (.int .i64 (rd t.lb (rd us i))) ∧ w'.cell? ⟨gw,1,none⟩ = some (.slice (some aa) us.length cb) ∧ w'.cell? (aa.add i.toNat) = some (.int .i64 (rd us i))) (ds:=[]) (Array.replicate 14 false) (by kernel_rfl) rfl rfl ⟨HT2.out.cells.1,hlb,hw1,hxi⟩ (fun hHeld=>?_)
        refine pa_ 0 76 (bz_ 14 1) ?_
        refine pa_ 1 77 (bz_ 14 3) ?_
        refine pa_ 2 78 (bz_ 14 7) ?_
        refine pa_ 4 80 (bz_ 14 23) ?_
        refine pa_ 5 81 (bz_ 14 55) ?_
        refine pa_ 6 82 (bz_ 14 119) ?_
        refine pa_ 8 84 (bz_ 14 375) ?_
        refine ta_ 3 79 (bz_ 14 383) hHeld (hy:=Or.inl ⟨by rfl,by rintro w' ⟨s0,s1,s2,s3⟩;go_simp;with_reducible rfl⟩) (h:=?_)
        refine ta_ 7 83 (bz_ 14 511) hHeld (hy:=Or.inl ⟨by rfl,by rintro w' ⟨s0,s1,s2,s3⟩;go_simp;with_reducible rfl⟩) (h:=?_)
        refine pa_ 9 85 (bz_ 14 1023) ?_
        refine ta_ 10 86 (bz_ 14 2047) hHeld (hy:=Or.inl ⟨by rfl,by rintro w' ⟨s0,s1,s2,s3⟩;go_simp;with_reducible rfl⟩) (h:=?_)
        refine pa_ 11 87 (bz_ 14 4095) ?_
        refine ta_ 12 88 (bz_ 14 8191) hHeld (hy:=Or.inl ⟨by rfl,by rintro w' ⟨s0,s1,s2,s3⟩;go_simp;with_reducible rfl⟩) (h:=?_)
        refine pa_ 13 89 (bz_ 14 16383) ?_
        refine done_ (by kernel_rfl) ?_
        have HSe:=qy.mk (HS.out.to (qh (Below.refl _ _)))
        by_cases c2 : rd t.lb (rd us i) = 2
        ·rw [if_pos c2] at h
         have HTT:=qy.mk h
         have cb2 : (rd t.lb (rd us i) == 2) = true:=by simpa using c2
         clear h c2
         replace HT2:=qy.mk (HT2.out.to (qh (Below.refl _ _)))
         go_wp2_with fail
         obtain ⟨Am1,cm1,e_⟩:=Kd.R_slice HSe.out.rm
         subst e_
         have HSd:=qy.mk ((HSe.out.ahead 3).to (qh (Below.refl _ _)))
         refine start_ (n:=23) (S:=fun w'=>w'.cell? ⟨g,4,none⟩ = some (.slice Am1 mt'.length cm1) ∧ w'.cell? ⟨gt,1,none⟩ = some (.slice (some aq) t.ah.length cq) ∧ w'.cell? (aq.add ((rd us i).toNat * 2)) = some (.int .i64 (rd_T77 t.ah (rd us i)).f0) ∧ w'.cell? ⟨(aq.add ((rd us i).toNat * 2)).block,(aq.add ((rd us i).toNat * 2)).off + 1,none⟩ = some (.int .i64 (rd_T77 t.ah (rd us i)).f1) ∧ w'.cell? ⟨gw,1,none⟩ = some (.slice (some aa) us.length cb) ∧ w'.cell? (aa.add i.toNat) = some (.int .i64 (rd us i))) (ds:=[19,22]) (Array.replicate 23 false) (by kernel_rfl) rfl rfl ⟨HSe.out.cells.2.2.2.2.1,HT2.out.cells.2.1,hah0,hah1,hw1,hxi⟩ (fun hHeld=>?_)
         refine pa_ 0 90 (bz_ 23 1) ?_
         refine pa_ 1 91 (bz_ 23 3) ?_
         refine pa_ 2 92 (bz_ 23 7) ?_
         refine pa_ 3 93 (bz_ 23 15) ?_
         refine pa_ 5 95 (bz_ 23 47) ?_
         refine pa_ 6 96 (bz_ 23 111) ?_
         refine pa_ 7 97 (bz_ 23 239) ?_
         refine pa_ 9 99 (bz_ 23 751) ?_
         refine pa_ 10 100 (bz_ 23 1775) ?_
         refine pa_ 11 101 (bz_ 23 3823) ?_
         refine pa_ 13 103 (bz_ 23 12015) ?_
         refine ta_ 4 94 (bz_ 23 12031) hHeld (hy:=Or.inl ⟨by rfl,by rintro w' ⟨s0,s1,s2,s3,s4,s5⟩;go_simp;with_reducible rfl⟩) (h:=?_)
         refine ta_ 8 98 (bz_ 23 12287) hHeld (hy:=Or.inl ⟨by rfl,by rintro w' ⟨s0,s1,s2,s3,s4,s5⟩;go_simp;with_reducible rfl⟩) (h:=?_)
         refine ta_ 12 102 (bz_ 23 16383) hHeld (hy:=Or.inl ⟨by rfl,by rintro w' ⟨s0,s1,s2,s3,s4,s5⟩;go_simp;with_reducible rfl⟩) (h:=?_)
         refine pa_ 14 104 (bz_ 23 32767) ?_
         refine ta_ 15 105 (bz_ 23 65535) hHeld (hy:=Or.inl ⟨by rfl,by rintro w' ⟨s0,s1,s2,s3,s4,s5⟩;go_simp;with_reducible rfl⟩) (h:=?_)
         refine pa_ 16 106 (bz_ 23 131071) ?_
         refine ta_ 17 107 (bz_ 23 262143) hHeld (hy:=Or.inl ⟨by rfl,by rintro w' ⟨s0,s1,s2,s3,s4,s5⟩;go_simp;with_reducible rfl⟩) (h:=?_)
         refine one_ (i:=18) (N:=some 108) (bz_ 23 524287) rfl rfl (by kernel_rfl) (by decide) (fun K hK=>?_)
         refine value_ (w1:=?_) (v:=?_) (by rfl) rfl ?_ ?_
         rotate_left 2
         ·go_simp
          constructor
          ·rfl
          rfl
         refine hK.out _ _ ⟨pw_cell_below (qo (Below.refl _ _) _) hHeld.1,pw_cell_below (qo (Below.refl _ _) _) hHeld.2.1,pw_cell_below (qo (Below.refl _ _) _) hHeld.2.2.1,pw_cell_below (qo (Below.refl _ _) _) hHeld.2.2.2.1,pw_cell_below (qo (Below.refl _ _) _) hHeld.2.2.2.2.1,pw_cell_below (qo (Below.refl _ _) _) hHeld.2.2.2.2.2⟩ (fun hHeld=>?_)
         clear hK K
         refine norm_ (a':=?_) ?_ ?_
         rotate_left
         ·show Act.put _ (some 108) _ = _
          simp only [Act.put,List.setIfInBounds_toArray,List.set_cons_zero,List.set_cons_succ,i64_w,i32_w]
          rfl
         refine last_ (i:=19) (N:=some 109) (bz_ 23 1048575) rfl rfl (by kernel_rfl) (by decide) (fun K hK=>?_)
         refine Kd.R_append_step k77 (w0:=w0) (W:=wr.drew.drew) w0.heap.size (by rfl) (.tmp 94) (.tmp 108) 37 77 (.agg #[.int .i64 0,.int .i64 0]) 16 rfl Try.underlying37 info77 rfl (by decide) (by omega) (.slice Am1 mt'.length cm1) mt' (rd_T77 t.ah (rd us i)) [.int .i64 (rd_T77 t.ah (rd us i)).f0,.int .i64 (rd_T77 t.ah (rd us i)).f1] _ (fun _=>False) (by rfl) (by rfl) (k77_mkM _ _ _ (rd_T77 t.ah (rd us i))) (fun _ hk=>hk.elim) (fun q hq=>if_pos hq) HSd.out.rm HSd.out.hb HSd.out.hb.size (by have:=HML.out;have:=HIL.out;have:=H0.out;omega) ?_
         intro v7 w7 ho hb hg hat
         obtain ⟨A7,c7,e_⟩:=Kd.R_slice ho
         rw [List.length_append,List.length_singleton] at e_
         subst e_
         obtain ⟨hS3,hx3,hf3⟩:=Rn.app_m HSd.out ho hb hg
         have HS8:=qy.mk hS3
         clear hS3 ho hb hg hat
         refine hK.out _ _ ?_
         clear hK K
         refine norm_ (a':=?_) ?_ ?_
         rotate_left
         ·show Act.put _ (some 109) _ = _
          simp only [Act.put,List.setIfInBounds_toArray,List.set_cons_zero,List.set_cons_succ,i64_w,i32_w]
          rfl
         refine pa_ 20 110 (bz_ 23 2097151) ?_
         refine pa_ 21 111 (bz_ 23 4194303) ?_
         refine last_ (i:=22) (N:=none) (bz_ 23 8388607) rfl rfl (by kernel_rfl) (by decide) (fun K hK=>?_)
         refine skip_ (w1:=?_) (by rfl) rfl ?_ ?_
         rotate_left
         ·go_simp
          rfl
         refine hK.out _ _ ?_
         clear hK K
         refine done_ (by kernel_rfl) ?_
         clear hx3 hf3 HSd HSe HS HT2
         generalize w7.setCell _ _ = w8 at HS8 ⊢
         go_wp2_with fail
         go_roundg ki
         case measure=>omega
         case rel=>exact ⟨i + 1,mt' ++ [rd_T77 t.ah (rd us i)],_,_,by first|rfl|rw [w64 (by have:=HI.out;omega) (by have:=HIL.out;have:=H0.out;omega)],⟨by have:=HI.out;omega,by have:=HI.out;omega,by have:=HIL.out;omega⟩,HTT,⟨by rw [List.length_append,List.length_singleton];have:=HML.out;omega⟩,HS8⟩
        rw [if_neg c2] at h
        have HTT:=qy.mk h
        have cb2 : (rd t.lb (rd us i) == 2) = false:=by simpa using c2
        clear h c2
        go_wp2_with fail
        go_roundg ki
        case measure=>omega
        case rel=>exact ⟨i + 1,mt',_,_,by first|rfl|rw [w64 (by have:=HI.out;omega) (by have:=HIL.out;have:=H0.out;omega)],⟨by have:=HI.out;omega,by have:=HI.out;omega,by have:=HIL.out;omega⟩,HTT,⟨by have:=HML.out;omega⟩,HSe⟩
       have hi:=HI.out
       rw [List.drop_eq_nil_of_le (by omega),ahF] at h
       have cl0 : decide (i < (us.length : Int)) = false:=decide_eq_false c
       have HTT:=qy.mk h
       have hi2:=HI.out.2.2
       clear c hi h
       go_wp2_with fail
       go_roundg gk1
       case measure=>omega
       case rel=>exact ⟨2,mt',_,_,by first|rfl|decide,⟨by have:=HK0.out;omega,.inr (.inr ⟨rfl,by rw [HTT.out,HMT.out]⟩)⟩,⟨by have h1:=HML.out;have h2:=H0.out;omega⟩,HS⟩
    have HO2 : qy (OpenSR N s.nd.length ko { s with mt:=mt } r'):=⟨by rw [hmt,← HMT1.out];exact HO.out⟩
    clear hk0 hmt HK hw0 hw1 BW2
    as_aux_lemma =>
     go_upto_region 18 with fail
     have HI18:=qy.mk HS.out.is
     clear HS HKP
     obtain ⟨col3,vy3,vn3,vm3,hS3⟩:=HI18.out
     have HFN:=qy.mk (l10First_none hS3 HW.out HN.out H0.out.2.1)
     go_upto_region 19 with (first|(go_at_call 43;refine HFN.out.mono ?_;rintro e_ w7 ⟨rfl,h2⟩;replace h2:=h2.symm;subst h2))
     have HIR : qy (IsRn w0 (wr.alloc (.cells #[] 3)) g N Ae ce es { s with mt:=mt }):=⟨(hS3.to (qo (Below.refl _ _) _)).is⟩
     clear hS3 HI18
     generalize wr.alloc _ = w8 at HIR ⊢
     go_wp2_with fail
     as_aux_lemma =>
      go_loopg [11] ko (fun kq v11 w'=>∃ (q : Int) (rr : RI),v11 = .int .i64 q ∧ qy (OpenSR N s.nd.length kq rr r') ∧ qy (firstF (cvs rr.nd) [] 0 (rr.nd.length + 1) N = q) ∧ qy (IsRn w0 w' g N Ae ce es rr))
      case atStart=>exact ⟨_,_,rfl,HO2,⟨rfl⟩,HIR⟩
      clear HIR HO2
      obtain ⟨q,rr,rfl,HO2,HQ,HIR⟩:=hrel
      have h:=HO2.out
      clear HO2
      cases h with
      | done hl hw hq =>
       obtain rfl : q = -1:=HQ.out.symm.trans hq
       clear hl hw hq
       go_wp2_with fail
       go_end0
       exact ⟨rfl,HIR.out⟩
      | @more kk _ _ q2 hl hw hq hq1 hU rest =>
       obtain rfl : q = q2:=HQ.out.symm.trans hq
       have HU:=qy.mk hU
       have HWr:=qy.mk hw
       have HO2:=qy.mk rest
       have HLr:=qy.mk hl
       have hq0 : 0 ≤ q:=by
        rcases firstF_in (nd:=cvs rr.nd) (lb:=[]) (label:=0) (rr.nd.length + 1) N HN.out with h|h
        ·exact absurd (hq.symm.trans h) hq1
        rw [hq] at h;exact h.1
       have cq : decide (q ≥ 0) = true:=decide_eq_true hq0
       obtain ⟨col3,vy3,vn3,vm3,hS3⟩:=HIR.out
       have HS3:=qy.mk hS3
       clear hl hw hq hq1 hU rest hq0 hS3 HIR
       go_upto_region 21 with (first|(go_at_call 44;refine (l10Open_calls HS3.out HWr.out HU.out.m HU.out.sz q HU.out.ni HU.out.b HU.out.mem HU.out.pos HU.out.lk HU.out.szf).mono ?_;rintro e_ w7 ⟨rfl,col7,vm7,hs,-⟩;have HS7:=qy.mk hs;clear hs))
       have HWr2 : qy (WFn (cvs (openS rr q).nd) ∧ (openS rr q).nd.length = s.nd.length):=⟨by cases HO2.out with|done a b _=>exact ⟨b,a⟩|more a b _ _ _ _=>exact ⟨b,a⟩⟩
       have HFN:=qy.mk (l10First_none HS7.out HWr2.out.1 HN.out (by rw [HWr2.out.2];exact H0.out.2.1))
       go_wp2_with (first|(go_at_call 43;refine HFN.out.mono ?_;rintro e_ w9 ⟨rfl,h2⟩;replace h2:=h2.symm;subst h2))
       have HIR : qy (IsRn w0 (w7.alloc (.cells #[] 3)) g N Ae ce es (openS rr q)):=⟨(HS7.out.to (qo (Below.refl _ _) _)).is⟩
       clear HS3 HS7
       generalize w7.alloc _ = w8 at HIR ⊢
       go_roundg kk
       case measure=>omega
       case rel=>exact ⟨_,_,rfl,HO2,⟨rfl⟩,HIR⟩
end Go.Proofs.Ytnffimpoekjkpaa.QFnExactRounds
