/- The law FnTrees walked by hand: it answers true where the functions answer as told. -/
import Derived.Test.YtcnoccefdejphaaZFnTreesx7
import Derived.Test.YtcnoccefdejphaaZFnTreesx10
import Derived.Test.YtcnoccefdejphaaZFnTreesx26
import Derived.Test.YtcnoccefdejphaaZFnTreesx32
namespace Go.Proofs.Ytcnoccefdejphaa.QFnTrees
open Go.RowKit Go.Proofs.YtcnoccefdejphaaW.PrintWords Go.Proofs.YtcnoccefdejphaaW.PrintLast Go.Proofs.YtcnoccefdejphaaW.PrintMore
attribute [local go_sem] max2_int min2_int max_two min_two max_three min_three max_four min_four
set_option linter.unusedVariables false
set_option linter.unusedSimpArgs false
/-- What the law's functions answer where all is right. -/
structure Main (l0 : List Int) (m n : List (S69)) (s0 : List ByteArray) (p0 : List (S96)) (fr : List Int) (e0 : List ByteArray) (e1 : List (S96)) (root : Int) (used : List Int) (f0 : List ByteArray) (f1 : List (S96)) (free : List Int) (g0 h0 : List ByteArray) (h1 : List (S96)) (other : Int) (u2 u3 u4 : List Int) : Prop where
 dr : Ev (fun k=>spec_DrawRightMap.f k l0) (m,n)
 dn : impl_DeviceNew.f 400 = some (s0,p0,true)
 fo : Ev (fun k=>impl_FreeOf.f k s0 p0 []) fr
 t1 : impl_tree.f s0 p0 fr m = some (e0,e1,root,used,true)
 fl : Ev (fun k=>impl_FlushDevice.f k e0 e1) (f0,f1,true)
 r1 : impl_rtree.f f0 f1 root = some (m,used)
 sm : Ev (fun k=>laws_sameMap.f k m m) true
 si : Ev (fun k=>laws_sameInts.f k used used) true
 fo2 : Ev (fun k=>impl_FreeOf.f k f0 f1 used) free
 t2 : impl_tree.f f0 f1 free m = some (g0,[],root,used,true)
 t3 : impl_tree.f f0 f1 free n = some (h0,h1,other,u2,true)
 r2 : impl_rtree.f h0 h1 other = some (n,u3)
 r3 : impl_rtree.f h0 h1 root = some (m,u4)
 sn : Ev (fun k=>laws_sameMap.f k n n) true
theorem C_zero (W : World) (A : Option Addr) : (Kd.int .i64).C W A ([] : List Int).length []:=⟨rfl,by simp,fun h=>absurd h (Nat.lt_irrefl 0)⟩
theorem new_at (W : World) (o1 o2 : Obj) : ((W.alloc o1).alloc o2).heap[W.heap.size + 1]? = some o2:=by
 have:=heap_alloc_new (W.alloc o1) o2
 rwa [show (W.alloc o1).heap.size = W.heap.size + 1 from by simp] at this
theorem free_nil (k : Nat) (A0 : Option Addr) (c0 : Nat) (l0 : List ByteArray) (A1 : Option Addr) (c1 : Nat) (l1 : List (S96)) (A : Option Addr) (r : List Int) (w : World) (hr0 : Kd.C Kd.string w A0 l0.length l0) (hc0 : l0.length ≤ c0) (hr1 : Kd.C k96 w A1 l1.length l1) (hc1 : l1.length ≤ c1) (h : impl_FreeOf.f k l0 l1 [] = some r) :
  Calls Try.prog 23 #[.agg #[.slice A0 l0.length c0,.slice A1 l1.length c1],.slice A 0 0] w fun e w'=>∃ v0_ : Value,e = .returned (v0_) ∧ Kd.R (Kd.int .i64) 3 w' w.heap.size (fun _=>True) v0_ r ∧ Below w.heap.size w w' :=
 impl_FreeOf.calls k A0 c0 l0 A1 c1 l1 A 0 [] r w hr0 hc0 hr1 hc1 (C_zero w A) (Nat.le_refl _) h
/-- What the first placing leaves, with the box of its device. -/
structure R5 (w w' : World) (g : Nat) (Aa : Option Addr) (ca : Nat) (Ab : Option Addr) (cb : Nat) (Au : Option Addr) (cu : Nat) (e0 : List ByteArray) (e1 : List (S96)) (used : List Int) : Prop where
 hb : Below w.heap.size w w'
 ge : w.heap.size ≤ g
 bx : w'.heap[g]? = some (.cells #[.slice none 0 0,.slice none 0 0] 32 (0,0))
 h0 : Kd.R Kd.string 9 w' w.heap.size (fun _=>True) (.slice Aa e0.length ca) e0
 h1 : Kd.R k96 96 w' w.heap.size (fun _=>True) (.slice Ab e1.length cb) e1
 hu : Kd.R (Kd.int .i64) 3 w' w.heap.size (fun _=>True) (.slice Au used.length cu) used
theorem R5.put {w w' : World} {g : Nat} {Aa : Option Addr} {ca : Nat} {Ab : Option Addr} {cb : Nat} {Au : Option Addr} {cu : Nat} {e0 : List ByteArray} {e1 : List (S96)} {used : List Int} (h : R5 w w' g Aa ca Ab cb Au cu e0 e1 used) (x y : Value) :
  Below w.heap.size w ((w'.setCell ⟨g,0,none⟩ x).setCell ⟨g,1,none⟩ y) ∧ ((w'.setCell ⟨g,0,none⟩ x).setCell ⟨g,1,none⟩ y).heap[g]? = some (.cells #[x,y] 32 (0,0)) ∧ Kd.C Kd.string ((w'.setCell ⟨g,0,none⟩ x).setCell ⟨g,1,none⟩ y) Aa e0.length e0 ∧ e0.length ≤ ca ∧ Kd.C k96 ((w'.setCell ⟨g,0,none⟩ x).setCell ⟨g,1,none⟩ y) Ab e1.length e1 ∧ e1.length ≤ cb ∧ Kd.C (Kd.int .i64) ((w'.setCell ⟨g,0,none⟩ x).setCell ⟨g,1,none⟩ y) Au used.length used ∧ used.length ≤ cu:=by
 have e1:=blk_put h.bx 0 x rfl
 have e2 : (w'.setCell ⟨g,0,none⟩ x).heap[g]? = some (.cells #[x,.slice none 0 0] 32 (0,0)):=by simpa using e1
 have e3:=blk_put e2 1 y rfl
 have r0:=Kd.R_reads' (Kd.R_set (Kd.R_set h.h0 h.bx t32_9 0 x) e2 t32_9 1 y)
 have r1:=Kd.R_reads' (Kd.R_set (Kd.R_set h.h1 h.bx t32_96 0 x) e2 t32_96 1 y)
 have r2:=Kd.R_reads' (Kd.R_set (Kd.R_set h.hu h.bx t32_3 0 x) e2 t32_3 1 y)
 exact ⟨qg (qg h.hb h.ge) h.ge,by simpa using e3,r0.2.2,r0.2.1,r1.2.2,r1.2.1,r2.2.2,r2.2.1⟩
inductive LawOk (l0 : List Int) : Prop
 | long : (l0.length : Int) > 1048576 → LawOk l0
 | main : ¬ (l0.length : Int) > 1048576 → ∀ m n s0 p0 fr e0 e1 root used f0 f1 free g0 h0 h1 other u2 u3 u4,Main l0 m n s0 p0 fr e0 e1 root used f0 f1 free g0 h0 h1 other u2 u3 u4 → LawOk l0
set_option maxHeartbeats 16000000 in
set_option maxRecDepth 100000 in
theorem laws_FnTrees.calls (A0 : Option Addr) (c0 : Nat) (l0 : List Int) (w : World) (hr0 : Kd.C (Kd.int .u8) w A0 l0.length l0) (hc0 : l0.length ≤ c0) (hok : LawOk l0) :
  Calls Try.prog 4 #[.slice A0 l0.length c0] w fun e w'=>e = .returned (.bool true) ∧ Below w.heap.size w w':=by
 have hu32:=Try.underlying32
 have H0:=qo.mk hr0
 have H0c:=qo.mk hc0
 have HB:=qo.mk (Below.refl w.heap.size w)
 clear hr0 hc0
 rcases hok with hl|⟨hl,m,n,s0,p0,fr,e0,e1,root,used,f0,f1,free,g0,h0,h1,other,u2,u3,u4,M⟩
 ·have hbig : laws_big.f l0 = some true:=by unfold laws_big.f;rw [decide_eq_true hl]
  clear hl
  go_enter Try.func4,Try.ntmps4
  go_wp2_with (first|(go_at_call 20;(with_reducible refine (laws_big.calls _ _ l0 true _ ?s1 H0c.out hbig).mono ?_);(case s1=>exact H0.out);rintro e w11 ⟨rfl,hd⟩;have hb:=hd.below;clear hd;replace HB:=qo.mk (qn HB.out hb);replace H0:=qo.mk (Kd.C_below H0.out hb);clear hb))
  go_ret
  exact ⟨rfl,HB.out⟩
 have hbig : laws_big.f l0 = some false:=by unfold laws_big.f;rw [decide_eq_false hl]
 clear hl
 obtain ⟨kd,hDR_⟩:=M.dr.rounds
 have hDR:=qo.mk hDR_
 clear hDR_
 obtain ⟨kf,hFO_⟩:=M.fo.rounds
 have hFO:=qo.mk hFO_
 clear hFO_
 obtain ⟨kl,hFL_⟩:=M.fl.rounds
 have hFL:=qo.mk hFL_
 clear hFL_
 obtain ⟨km,hSM_⟩:=M.sm.rounds
 have hSM:=qo.mk hSM_
 clear hSM_
 obtain ⟨ki,hSI_⟩:=M.si.rounds
 have hSI:=qo.mk hSI_
 clear hSI_
 obtain ⟨kg,hFO2_⟩:=M.fo2.rounds
 have hFO2:=qo.mk hFO2_
 clear hFO2_
 obtain ⟨kn,hSN_⟩:=M.sn.rounds
 have hSN:=qo.mk hSN_
 clear hSN_
 have hDN:=qo.mk M.dn
 have hT1:=qo.mk M.t1
 have hR1:=qo.mk M.r1
 have hT2:=qo.mk M.t2
 have hT3:=qo.mk M.t3
 have hR2:=qo.mk M.r2
 have hR3:=qo.mk M.r3
 clear M
 go_enter Try.func4,Try.ntmps4
 go_upto_region 3 with (first|(go_at_call 20;(with_reducible refine (laws_big.calls _ _ l0 false _ ?s1 H0c.out hbig).mono ?_);(case s1=>exact H0.out);rintro e w12 ⟨rfl,hd⟩;have hb:=hd.below;clear hd;replace HB:=qo.mk (qn HB.out hb);replace H0:=qo.mk (Kd.C_below H0.out hb);clear hb))
 go_upto_region 4 with (first|(go_at_call 21;(with_reducible refine (spec_DrawRightMap.calls kd _ _ l0 m n _ ?s1 H0c.out hDR.out).mono ?_);(case s1=>exact H0.out);rintro e w13 ⟨v0_,v1_,rfl,ho0,ho1,hb⟩;have hb_:=hb;replace HB:=qo.mk (qn HB.out hb);replace H0:=qo.mk (Kd.C_below H0.out hb);clear hb;obtain ⟨AMm,cMm,e_⟩:=Kd.R_slice ho0;subst e_;have Mm:=qo.mk (Kd.R_reads' ho0).2.2;have Mmc:=qo.mk (Kd.R_reads' ho0).2.1;clear ho0;obtain ⟨AMn,cMn,e_⟩:=Kd.R_slice ho1;subst e_;have Mn:=qo.mk (Kd.R_reads' ho1).2.2;have Mnc:=qo.mk (Kd.R_reads' ho1).2.1;clear ho1;clear hb_))
 go_upto_region 5 with (first|(go_at_call 22;(with_reducible refine (impl_DeviceNew.calls 400 s0 p0 true _ hDN.out).mono ?_);rintro e w14 ⟨v0_,v1_,rfl,ho0,ho1,hb⟩;replace HB:=qo.mk (qn HB.out hb);replace Mm:=qo.mk (Kd.C_below Mm.out hb);replace Mn:=qo.mk (Kd.C_below Mn.out hb);clear hb;obtain ⟨AD0,cD0,e_⟩:=Kd.R_slice ho0;subst e_;have D0:=qo.mk (Kd.R_reads' ho0).2.2;have D0c:=qo.mk (Kd.R_reads' ho0).2.1;clear ho0;obtain ⟨AD1,cD1,e_⟩:=Kd.R_slice ho1;subst e_;have D1:=qo.mk (Kd.R_reads' ho1).2.2;have D1c:=qo.mk (Kd.R_reads' ho1).2.1;clear ho1;))
 generalize hW : w14.alloc (.cells #[.slice AD0 s0.length cD0,.slice AD1 p0.length cD1] 32) = w50
 have hb : Below w14.heap.size w14 w50:=by rw [← hW];exact qf (Below.refl _ _) _
 have hbx : w50.heap[w14.heap.size]? = some (.cells #[.slice AD0 s0.length cD0,.slice AD1 p0.length cD1] 32 (0,0)):=by rw [← hW];exact heap_alloc_new _ _
 generalize hG : w14.heap.size = gBD
 rw [hG] at hbx
 clear hW hG
 have BD:=qo.mk hbx
 clear hbx
 replace HB:=qo.mk (qn HB.out hb);replace Mm:=qo.mk (Kd.C_below Mm.out hb);replace Mn:=qo.mk (Kd.C_below Mn.out hb);replace D0:=qo.mk (Kd.C_below D0.out hb);replace D1:=qo.mk (Kd.C_below D1.out hb);clear hb
 have hc_BD:=box2 BD.out
 refine start_ (n:=16) (S:=fun w'=>w'.cell? ⟨gBD,0,none⟩ = some (.slice AD0 s0.length cD0) ∧ w'.cell? ⟨gBD,1,none⟩ = some (.slice AD1 p0.length cD1)) (ds:=[12]) (Array.replicate 16 false) (by kernel_rfl) rfl rfl ⟨hc_BD.1,hc_BD.2.1⟩ (fun hHeld=>?_)
 refine pa_ 4 47 (bz_ 16 16) ?_
 refine ta_ 0 43 (bz_ 16 17) hHeld (hy:=Or.inl ⟨by rfl,by rintro w' ⟨s0,s1⟩;go_simp;with_reducible rfl⟩) (h:=?_)
 refine ta_ 1 44 (bz_ 16 19) hHeld (hy:=Or.inl ⟨by rfl,by rintro w' ⟨s0,s1⟩;go_simp;with_reducible rfl⟩) (h:=?_)
 refine join_ (σ:=Nat × Nat × (Option Addr × Nat) × (Option Addr × Nat) × (Option Addr × Nat) × (Option Addr × Nat)) 4 (bz_ 16 4095) (fun s=>[(45,.slice (some ⟨s.1,0,none⟩) 0 0),(46,.slice s.2.2.2.2.2.1 fr.length s.2.2.2.2.2.2),(48,.tuple #[.agg #[.slice s.2.2.1.1 e0.length s.2.2.1.2,.slice s.2.2.2.1.1 e1.length s.2.2.2.1.2],.int .i64 root,.slice s.2.2.2.2.1.1 used.length s.2.2.2.2.1.2,.bool true]),(42,.tuple #[.agg #[.slice s.2.2.1.1 e0.length s.2.2.1.2,.slice s.2.2.2.1.1 e1.length s.2.2.2.1.2],.int .i64 root,.slice s.2.2.2.2.1.1 used.length s.2.2.2.2.1.2,.bool true]),(49,.agg #[.slice s.2.2.1.1 e0.length s.2.2.1.2,.slice s.2.2.2.1.1 e1.length s.2.2.2.1.2]),(50,.int .i64 root),(51,.slice s.2.2.2.2.1.1 used.length s.2.2.2.2.1.2),(52,.bool true),(7,.pointer (some ⟨s.2.1,0,none⟩))]) (fun s w'=>R5 w50 w' s.2.1 s.2.2.1.1 s.2.2.1.2 s.2.2.2.1.1 s.2.2.2.1.2 s.2.2.2.2.1.1 s.2.2.2.2.1.2 e0 e1 used) ?_ ?_
 rotate_left
 ·intro hCont
  refine two_ (i:=2) (j:=11) (Ni:=some 45) (Nj:=some 7) (bz_ 16 23) (bz_ 16 2067) rfl rfl rfl rfl (by kernel_rfl) (by decide) (by decide) (fun K hK=>?_) (fun K hK=>?_)
  ·skip
   refine value_ (w1:=?_) (v:=?_) (by rfl) rfl ?_ ?_
   rotate_left 2
   ·go_simp
    constructor
    ·rfl
    rfl
   refine hK.out _ _ ⟨(qh (qm BD.out (by repeat (first|(with_reducible exact (Below.refl _ _))|apply qd|apply qf))) 0).trans rfl,(qh (qm BD.out (by repeat (first|(with_reducible exact (Below.refl _ _))|apply qd|apply qf))) 1).trans rfl⟩ (fun hHeld=>?_)
   clear hK K
   refine norm_ (a':=?_) ?_ ?_
   rotate_left
   ·show Act.put _ (some 45) _ = _
    simp only [Act.put,List.setIfInBounds_toArray,List.set_cons_zero,List.set_cons_succ,i64_w,i32_w]
    rfl
   refine two_ (i:=3) (j:=11) (Ni:=some 46) (Nj:=some 7) (bz_ 16 31) (bz_ 16 2071) rfl rfl rfl rfl (by kernel_rfl) (by decide) (by decide) (fun K hK=>?_) (fun K hK=>?_)
   ·skip
    refine goes_ Try.func23 (by kernel_rfl) rfl #[.agg #[.slice AD0 s0.length cD0,.slice AD1 p0.length cD1],.slice (some ⟨w50.heap.size,0,none⟩) 0 0] (by rfl) rfl rfl (by simp only [List.map_toArray,List.map_cons,List.map_nil];rfl) ?_
    with_reducible refine (free_nil kf _ _ s0 _ _ p0 _ fr _ ?s2_1 D0c.out ?s2_2 D1c.out hFO.out).mono ?_
    (case s2_1=>exact (Kd.C_below D0.out (by repeat (first|(with_reducible exact (Below.refl _ _))|apply qd|apply qf))))
    (case s2_2=>exact (Kd.C_below D1.out (by repeat (first|(with_reducible exact (Below.refl _ _))|apply qd|apply qf))))
    rintro e w55 ⟨v0_,rfl,ho,hb⟩
    refine ⟨_,rfl,?_⟩
    have HX5:=qo.mk (qn (w:=w50) (by repeat (first|(with_reducible exact (Below.refl _ _))|apply qd|apply qf)) hb)
    obtain ⟨Afr,cfr,e_⟩:=Kd.R_slice ho
    subst e_
    have Hfr:=qo.mk (Kd.R_reads' ho).2.2
    have Hfrc:=qo.mk (Kd.R_reads' ho).2.1
    clear ho hb
    refine hK.out _ _ ⟨(qh (qm BD.out (by repeat (first|(with_reducible exact HX5.out)|apply qd|apply qf))) 0).trans rfl,(qh (qm BD.out (by repeat (first|(with_reducible exact HX5.out)|apply qd|apply qf))) 1).trans rfl⟩ (fun hHeld=>?_)
    clear hK K
    refine norm_ (a':=?_) ?_ ?_
    rotate_left
    ·show Act.put _ (some 46) _ = _
     simp only [Act.put,List.setIfInBounds_toArray,List.set_cons_zero,List.set_cons_succ,i64_w,i32_w]
     rfl
    refine two_ (i:=5) (j:=11) (Ni:=some 48) (Nj:=some 7) (bz_ 16 63) (bz_ 16 2079) rfl rfl rfl rfl (by kernel_rfl) (by decide) (by decide) (fun K hK=>?_) (fun K hK=>?_)
    ·skip
     refine goes_ Try.func11 (by kernel_rfl) rfl #[.agg #[.slice AD0 s0.length cD0,.slice AD1 p0.length cD1],.slice Afr fr.length cfr,.slice AMm m.length cMm] (by rfl) rfl rfl (by simp only [List.map_toArray,List.map_cons,List.map_nil];rfl) ?_
     with_reducible refine (impl_tree.calls _ _ s0 _ _ p0 _ _ fr _ _ m e0 e1 root used true _ ?s3_1 D0c.out ?s3_2 D1c.out ?s3_3 Hfrc.out ?s3_4 Mmc.out hT1.out).mono ?_
     (case s3_1=>exact (Kd.C_below D0.out (by repeat (first|(with_reducible exact HX5.out)|apply qd|apply qf))))
     (case s3_2=>exact (Kd.C_below D1.out (by repeat (first|(with_reducible exact HX5.out)|apply qd|apply qf))))
     (case s3_3=>exact Hfr.out)
     (case s3_4=>exact (Kd.C_below Mm.out (by repeat (first|(with_reducible exact HX5.out)|apply qd|apply qf))))
     rintro e w56 ⟨v0_,v1_,v3_,rfl,ho0,ho1,ho3,hb⟩
     refine ⟨_,rfl,?_⟩
     have HX6:=qo.mk (qn (w:=w50) (by repeat (first|(with_reducible exact HX5.out)|apply qd|apply qf)) hb)
     obtain ⟨AE0,cE0,e_⟩:=Kd.R_slice ho0
     subst e_
     have E0:=qo.mk (Kd.R_lower ho0 (qk (w:=w50) (by repeat (first|(with_reducible exact HX5.out)|apply qd|apply qf))))
     clear ho0
     obtain ⟨AE1,cE1,e_⟩:=Kd.R_slice ho1
     subst e_
     have E1:=qo.mk (Kd.R_lower ho1 (qk (w:=w50) (by repeat (first|(with_reducible exact HX5.out)|apply qd|apply qf))))
     clear ho1
     obtain ⟨AUs,cUs,e_⟩:=Kd.R_slice ho3
     subst e_
     have Us:=qo.mk (Kd.R_lower ho3 (qk (w:=w50) (by repeat (first|(with_reducible exact HX5.out)|apply qd|apply qf))))
     clear ho3
     clear hb
     refine hK.out _ _ ⟨(qh (qm BD.out (by repeat (first|(with_reducible exact HX6.out)|apply qd|apply qf))) 0).trans rfl,(qh (qm BD.out (by repeat (first|(with_reducible exact HX6.out)|apply qd|apply qf))) 1).trans rfl⟩ (fun hHeld=>?_)
     clear hK K
     refine norm_ (a':=?_) ?_ ?_
     rotate_left
     ·show Act.put _ (some 48) _ = _
      simp only [Act.put,List.setIfInBounds_toArray,List.set_cons_zero,List.set_cons_succ,i64_w,i32_w]
      rfl
     refine pa_ 6 42 (bz_ 16 127) ?_
     refine pa_ 7 49 (bz_ 16 255) ?_
     refine pa_ 8 50 (bz_ 16 511) ?_
     refine pa_ 9 51 (bz_ 16 1023) ?_
     refine pa_ 10 52 (bz_ 16 2047) ?_
     refine one_ (i:=11) (N:=some 7) (bz_ 16 4095) rfl rfl (by kernel_rfl) (by decide) (fun K hK=>?_)
     refine value_ (w1:=?_) (v:=?_) (by rfl) rfl ?_ ?_
     rotate_left 2
     ·go_simp
      constructor
      ·rfl
      rfl
     refine hK.out _ _ ⟨(qh (qm BD.out (by repeat (first|(with_reducible exact HX6.out)|apply qd|apply qf))) 0).trans rfl,(qh (qm BD.out (by repeat (first|(with_reducible exact HX6.out)|apply qd|apply qf))) 1).trans rfl⟩ (fun hHeld=>?_)
     clear hK K
     refine norm_ (a':=?_) ?_ ?_
     rotate_left
     ·show Act.put _ (some 7) _ = _
      simp only [Act.put,List.setIfInBounds_toArray,List.set_cons_zero,List.set_cons_succ,i64_w,i32_w]
      rfl
     exact norm_ (by simp only [putAll,Act.put,List.setIfInBounds_toArray,List.set_cons_zero,List.set_cons_succ]) (hCont (w50.heap.size,w56.heap.size,(AE0,cE0),(AE1,cE1),(AUs,cUs),(Afr,cfr)) _ ⟨(by repeat (first|(with_reducible exact HX6.out)|apply qd|apply qf)),qk HX6.out,heap_alloc_new _ _,(Kd.R_alloc E0.out _),(Kd.R_alloc E1.out _),(Kd.R_alloc Us.out _)⟩)
    skip
    refine value_ (w1:=?_) (v:=?_) (by rfl) rfl ?_ ?_
    rotate_left 2
    ·go_simp
     constructor
     ·rfl
     rfl
    refine hK.out _ _ ⟨(qh (qm BD.out (by repeat (first|(with_reducible exact HX5.out)|apply qd|apply qf))) 0).trans rfl,(qh (qm BD.out (by repeat (first|(with_reducible exact HX5.out)|apply qd|apply qf))) 1).trans rfl⟩ (fun hHeld=>?_)
    clear hK K
    refine norm_ (a':=?_) ?_ ?_
    rotate_left
    ·show Act.put _ (some 7) _ = _
     simp only [Act.put,List.setIfInBounds_toArray,List.set_cons_zero,List.set_cons_succ,i64_w,i32_w]
     rfl
    refine one_ (i:=5) (N:=some 48) (bz_ 16 2111) rfl rfl (by kernel_rfl) (by decide) (fun K hK=>?_)
    refine goes_ Try.func11 (by kernel_rfl) rfl #[.agg #[.slice AD0 s0.length cD0,.slice AD1 p0.length cD1],.slice Afr fr.length cfr,.slice AMm m.length cMm] (by rfl) rfl rfl (by simp only [List.map_toArray,List.map_cons,List.map_nil];rfl) ?_
    with_reducible refine (impl_tree.calls _ _ s0 _ _ p0 _ _ fr _ _ m e0 e1 root used true _ ?s6_1 D0c.out ?s6_2 D1c.out ?s6_3 Hfrc.out ?s6_4 Mmc.out hT1.out).mono ?_
    (case s6_1=>exact (Kd.C_below D0.out (by repeat (first|(with_reducible exact HX5.out)|apply qd|apply qf))))
    (case s6_2=>exact (Kd.C_below D1.out (by repeat (first|(with_reducible exact HX5.out)|apply qd|apply qf))))
    (case s6_3=>exact (Kd.C_alloc Hfr.out _))
    (case s6_4=>exact (Kd.C_below Mm.out (by repeat (first|(with_reducible exact HX5.out)|apply qd|apply qf))))
    rintro e w56 ⟨v0_,v1_,v3_,rfl,ho0,ho1,ho3,hb⟩
    refine ⟨_,rfl,?_⟩
    have HX6:=qo.mk (qn (w:=w50) (by repeat (first|(with_reducible exact HX5.out)|apply qd|apply qf)) hb)
    have HBY:=qo.mk (qm (heap_alloc_new _ _) hb)
    obtain ⟨AE0,cE0,e_⟩:=Kd.R_slice ho0
    subst e_
    have E0:=qo.mk (Kd.R_lower ho0 (qk (w:=w50) (by repeat (first|(with_reducible exact HX5.out)|apply qd|apply qf))))
    clear ho0
    obtain ⟨AE1,cE1,e_⟩:=Kd.R_slice ho1
    subst e_
    have E1:=qo.mk (Kd.R_lower ho1 (qk (w:=w50) (by repeat (first|(with_reducible exact HX5.out)|apply qd|apply qf))))
    clear ho1
    obtain ⟨AUs,cUs,e_⟩:=Kd.R_slice ho3
    subst e_
    have Us:=qo.mk (Kd.R_lower ho3 (qk (w:=w50) (by repeat (first|(with_reducible exact HX5.out)|apply qd|apply qf))))
    clear ho3
    clear hb
    refine hK.out _ _ ⟨(qh (qm BD.out (by repeat (first|(with_reducible exact HX6.out)|apply qd|apply qf))) 0).trans rfl,(qh (qm BD.out (by repeat (first|(with_reducible exact HX6.out)|apply qd|apply qf))) 1).trans rfl⟩ (fun hHeld=>?_)
    clear hK K
    refine norm_ (a':=?_) ?_ ?_
    rotate_left
    ·show Act.put _ (some 48) _ = _
     simp only [Act.put,List.setIfInBounds_toArray,List.set_cons_zero,List.set_cons_succ,i64_w,i32_w]
     rfl
    refine pa_ 6 42 (bz_ 16 2175) ?_
    refine pa_ 7 49 (bz_ 16 2303) ?_
    refine pa_ 8 50 (bz_ 16 2559) ?_
    refine pa_ 9 51 (bz_ 16 3071) ?_
    refine pa_ 10 52 (bz_ 16 4095) ?_
    exact norm_ (by simp only [putAll,Act.put,List.setIfInBounds_toArray,List.set_cons_zero,List.set_cons_succ]) (hCont (w50.heap.size,w55.heap.size,(AE0,cE0),(AE1,cE1),(AUs,cUs),(Afr,cfr)) _ ⟨(by repeat (first|(with_reducible exact HX6.out)|apply qd|apply qf)),qk HX5.out,HBY.out,E0.out,E1.out,Us.out⟩)
   skip
   refine value_ (w1:=?_) (v:=?_) (by rfl) rfl ?_ ?_
   rotate_left 2
   ·go_simp
    constructor
    ·rfl
    rfl
   refine hK.out _ _ ⟨(qh (qm BD.out (by repeat (first|(with_reducible exact (Below.refl _ _))|apply qd|apply qf))) 0).trans rfl,(qh (qm BD.out (by repeat (first|(with_reducible exact (Below.refl _ _))|apply qd|apply qf))) 1).trans rfl⟩ (fun hHeld=>?_)
   clear hK K
   refine norm_ (a':=?_) ?_ ?_
   rotate_left
   ·show Act.put _ (some 7) _ = _
    simp only [Act.put,List.setIfInBounds_toArray,List.set_cons_zero,List.set_cons_succ,i64_w,i32_w]
    rfl
   refine one_ (i:=3) (N:=some 46) (bz_ 16 2079) rfl rfl (by kernel_rfl) (by decide) (fun K hK=>?_)
   refine goes_ Try.func23 (by kernel_rfl) rfl #[.agg #[.slice AD0 s0.length cD0,.slice AD1 p0.length cD1],.slice (some ⟨w50.heap.size,0,none⟩) 0 0] (by rfl) rfl rfl (by simp only [List.map_toArray,List.map_cons,List.map_nil];rfl) ?_
   with_reducible refine (free_nil kf _ _ s0 _ _ p0 _ fr _ ?s8_1 D0c.out ?s8_2 D1c.out hFO.out).mono ?_
   (case s8_1=>exact (Kd.C_below D0.out (by repeat (first|(with_reducible exact (Below.refl _ _))|apply qd|apply qf))))
   (case s8_2=>exact (Kd.C_below D1.out (by repeat (first|(with_reducible exact (Below.refl _ _))|apply qd|apply qf))))
   rintro e w55 ⟨v0_,rfl,ho,hb⟩
   refine ⟨_,rfl,?_⟩
   have HX5:=qo.mk (qn (w:=w50) (by repeat (first|(with_reducible exact (Below.refl _ _))|apply qd|apply qf)) hb)
   have HBX:=qo.mk (qm (qe (new_at w50 _ _)) hb)
   obtain ⟨Afr,cfr,e_⟩:=Kd.R_slice ho
   subst e_
   have Hfr:=qo.mk (Kd.R_reads' ho).2.2
   have Hfrc:=qo.mk (Kd.R_reads' ho).2.1
   clear ho hb
   refine hK.out _ _ ⟨(qh (qm BD.out (by repeat (first|(with_reducible exact HX5.out)|apply qd|apply qf))) 0).trans rfl,(qh (qm BD.out (by repeat (first|(with_reducible exact HX5.out)|apply qd|apply qf))) 1).trans rfl⟩ (fun hHeld=>?_)
   clear hK K
   refine norm_ (a':=?_) ?_ ?_
   rotate_left
   ·show Act.put _ (some 46) _ = _
    simp only [Act.put,List.setIfInBounds_toArray,List.set_cons_zero,List.set_cons_succ,i64_w,i32_w]
    rfl
   refine one_ (i:=5) (N:=some 48) (bz_ 16 2111) rfl rfl (by kernel_rfl) (by decide) (fun K hK=>?_)
   refine goes_ Try.func11 (by kernel_rfl) rfl #[.agg #[.slice AD0 s0.length cD0,.slice AD1 p0.length cD1],.slice Afr fr.length cfr,.slice AMm m.length cMm] (by rfl) rfl rfl (by simp only [List.map_toArray,List.map_cons,List.map_nil];rfl) ?_
   with_reducible refine (impl_tree.calls _ _ s0 _ _ p0 _ _ fr _ _ m e0 e1 root used true _ ?s9_1 D0c.out ?s9_2 D1c.out ?s9_3 Hfrc.out ?s9_4 Mmc.out hT1.out).mono ?_
   (case s9_1=>exact (Kd.C_below D0.out (by repeat (first|(with_reducible exact HX5.out)|apply qd|apply qf))))
   (case s9_2=>exact (Kd.C_below D1.out (by repeat (first|(with_reducible exact HX5.out)|apply qd|apply qf))))
   (case s9_3=>exact Hfr.out)
   (case s9_4=>exact (Kd.C_below Mm.out (by repeat (first|(with_reducible exact HX5.out)|apply qd|apply qf))))
   rintro e w56 ⟨v0_,v1_,v3_,rfl,ho0,ho1,ho3,hb⟩
   refine ⟨_,rfl,?_⟩
   have HX6:=qo.mk (qn (w:=w50) (by repeat (first|(with_reducible exact HX5.out)|apply qd|apply qf)) hb)
   have HBY:=qo.mk (qm HBX.out hb)
   obtain ⟨AE0,cE0,e_⟩:=Kd.R_slice ho0
   subst e_
   have E0:=qo.mk (Kd.R_lower ho0 (qk (w:=w50) (by repeat (first|(with_reducible exact HX5.out)|apply qd|apply qf))))
   clear ho0
   obtain ⟨AE1,cE1,e_⟩:=Kd.R_slice ho1
   subst e_
   have E1:=qo.mk (Kd.R_lower ho1 (qk (w:=w50) (by repeat (first|(with_reducible exact HX5.out)|apply qd|apply qf))))
   clear ho1
   obtain ⟨AUs,cUs,e_⟩:=Kd.R_slice ho3
   subst e_
   have Us:=qo.mk (Kd.R_lower ho3 (qk (w:=w50) (by repeat (first|(with_reducible exact HX5.out)|apply qd|apply qf))))
   clear ho3
   clear hb
   refine hK.out _ _ ⟨(qh (qm BD.out (by repeat (first|(with_reducible exact HX6.out)|apply qd|apply qf))) 0).trans rfl,(qh (qm BD.out (by repeat (first|(with_reducible exact HX6.out)|apply qd|apply qf))) 1).trans rfl⟩ (fun hHeld=>?_)
   clear hK K
   refine norm_ (a':=?_) ?_ ?_
   rotate_left
   ·show Act.put _ (some 48) _ = _
    simp only [Act.put,List.setIfInBounds_toArray,List.set_cons_zero,List.set_cons_succ,i64_w,i32_w]
    rfl
   refine pa_ 6 42 (bz_ 16 2175) ?_
   refine pa_ 7 49 (bz_ 16 2303) ?_
   refine pa_ 8 50 (bz_ 16 2559) ?_
   refine pa_ 9 51 (bz_ 16 3071) ?_
   refine pa_ 10 52 (bz_ 16 4095) ?_
   exact norm_ (by simp only [putAll,Act.put,List.setIfInBounds_toArray,List.set_cons_zero,List.set_cons_succ]) (hCont (w50.heap.size,(w50.heap.size + 1),(AE0,cE0),(AE1,cE1),(AUs,cUs),(Afr,cfr)) _ ⟨(by repeat (first|(with_reducible exact HX6.out)|apply qd|apply qf)),Nat.le_succ _,HBY.out,E0.out,E1.out,Us.out⟩)
  skip
  refine value_ (w1:=?_) (v:=?_) (by rfl) rfl ?_ ?_
  rotate_left 2
  ·go_simp
   constructor
   ·rfl
   rfl
  refine hK.out _ _ ⟨(qh (qm BD.out (by repeat (first|(with_reducible exact (Below.refl _ _))|apply qd|apply qf))) 0).trans rfl,(qh (qm BD.out (by repeat (first|(with_reducible exact (Below.refl _ _))|apply qd|apply qf))) 1).trans rfl⟩ (fun hHeld=>?_)
  clear hK K
  refine norm_ (a':=?_) ?_ ?_
  rotate_left
  ·show Act.put _ (some 7) _ = _
   simp only [Act.put,List.setIfInBounds_toArray,List.set_cons_zero,List.set_cons_succ,i64_w,i32_w]
   rfl
  refine one_ (i:=2) (N:=some 45) (bz_ 16 2071) rfl rfl (by kernel_rfl) (by decide) (fun K hK=>?_)
  refine value_ (w1:=?_) (v:=?_) (by rfl) rfl ?_ ?_
  rotate_left 2
  ·go_simp
   constructor
   ·rfl
   rfl
  refine hK.out _ _ ⟨(qh (qm BD.out (by repeat (first|(with_reducible exact (Below.refl _ _))|apply qd|apply qf))) 0).trans rfl,(qh (qm BD.out (by repeat (first|(with_reducible exact (Below.refl _ _))|apply qd|apply qf))) 1).trans rfl⟩ (fun hHeld=>?_)
  clear hK K
  refine norm_ (a':=?_) ?_ ?_
  rotate_left
  ·show Act.put _ (some 45) _ = _
   simp only [Act.put,List.setIfInBounds_toArray,List.set_cons_zero,List.set_cons_succ,i64_w,i32_w]
   rfl
  refine one_ (i:=3) (N:=some 46) (bz_ 16 2079) rfl rfl (by kernel_rfl) (by decide) (fun K hK=>?_)
  refine goes_ Try.func23 (by kernel_rfl) rfl #[.agg #[.slice AD0 s0.length cD0,.slice AD1 p0.length cD1],.slice (some ⟨(w50.heap.size + 1),0,none⟩) 0 0] (by rfl) rfl rfl (by simp only [List.map_toArray,List.map_cons,List.map_nil];rfl) ?_
  with_reducible refine (free_nil kf _ _ s0 _ _ p0 _ fr _ ?s12_1 D0c.out ?s12_2 D1c.out hFO.out).mono ?_
  (case s12_1=>exact (Kd.C_below D0.out (by repeat (first|(with_reducible exact (Below.refl _ _))|apply qd|apply qf))))
  (case s12_2=>exact (Kd.C_below D1.out (by repeat (first|(with_reducible exact (Below.refl _ _))|apply qd|apply qf))))
  rintro e w55 ⟨v0_,rfl,ho,hb⟩
  refine ⟨_,rfl,?_⟩
  have HX5:=qo.mk (qn (w:=w50) (by repeat (first|(with_reducible exact (Below.refl _ _))|apply qd|apply qf)) hb)
  have HBX:=qo.mk (qm (qe (qc (heap_alloc_new _ _) _)) hb)
  obtain ⟨Afr,cfr,e_⟩:=Kd.R_slice ho
  subst e_
  have Hfr:=qo.mk (Kd.R_reads' ho).2.2
  have Hfrc:=qo.mk (Kd.R_reads' ho).2.1
  clear ho hb
  refine hK.out _ _ ⟨(qh (qm BD.out (by repeat (first|(with_reducible exact HX5.out)|apply qd|apply qf))) 0).trans rfl,(qh (qm BD.out (by repeat (first|(with_reducible exact HX5.out)|apply qd|apply qf))) 1).trans rfl⟩ (fun hHeld=>?_)
  clear hK K
  refine norm_ (a':=?_) ?_ ?_
  rotate_left
  ·show Act.put _ (some 46) _ = _
   simp only [Act.put,List.setIfInBounds_toArray,List.set_cons_zero,List.set_cons_succ,i64_w,i32_w]
   rfl
  refine one_ (i:=5) (N:=some 48) (bz_ 16 2111) rfl rfl (by kernel_rfl) (by decide) (fun K hK=>?_)
  refine goes_ Try.func11 (by kernel_rfl) rfl #[.agg #[.slice AD0 s0.length cD0,.slice AD1 p0.length cD1],.slice Afr fr.length cfr,.slice AMm m.length cMm] (by rfl) rfl rfl (by simp only [List.map_toArray,List.map_cons,List.map_nil];rfl) ?_
  with_reducible refine (impl_tree.calls _ _ s0 _ _ p0 _ _ fr _ _ m e0 e1 root used true _ ?s13_1 D0c.out ?s13_2 D1c.out ?s13_3 Hfrc.out ?s13_4 Mmc.out hT1.out).mono ?_
  (case s13_1=>exact (Kd.C_below D0.out (by repeat (first|(with_reducible exact HX5.out)|apply qd|apply qf))))
  (case s13_2=>exact (Kd.C_below D1.out (by repeat (first|(with_reducible exact HX5.out)|apply qd|apply qf))))
  (case s13_3=>exact Hfr.out)
  (case s13_4=>exact (Kd.C_below Mm.out (by repeat (first|(with_reducible exact HX5.out)|apply qd|apply qf))))
  rintro e w56 ⟨v0_,v1_,v3_,rfl,ho0,ho1,ho3,hb⟩
  refine ⟨_,rfl,?_⟩
  have HX6:=qo.mk (qn (w:=w50) (by repeat (first|(with_reducible exact HX5.out)|apply qd|apply qf)) hb)
  have HBY:=qo.mk (qm HBX.out hb)
  obtain ⟨AE0,cE0,e_⟩:=Kd.R_slice ho0
  subst e_
  have E0:=qo.mk (Kd.R_lower ho0 (qk (w:=w50) (by repeat (first|(with_reducible exact HX5.out)|apply qd|apply qf))))
  clear ho0
  obtain ⟨AE1,cE1,e_⟩:=Kd.R_slice ho1
  subst e_
  have E1:=qo.mk (Kd.R_lower ho1 (qk (w:=w50) (by repeat (first|(with_reducible exact HX5.out)|apply qd|apply qf))))
  clear ho1
  obtain ⟨AUs,cUs,e_⟩:=Kd.R_slice ho3
  subst e_
  have Us:=qo.mk (Kd.R_lower ho3 (qk (w:=w50) (by repeat (first|(with_reducible exact HX5.out)|apply qd|apply qf))))
  clear ho3
  clear hb
  refine hK.out _ _ ⟨(qh (qm BD.out (by repeat (first|(with_reducible exact HX6.out)|apply qd|apply qf))) 0).trans rfl,(qh (qm BD.out (by repeat (first|(with_reducible exact HX6.out)|apply qd|apply qf))) 1).trans rfl⟩ (fun hHeld=>?_)
  clear hK K
  refine norm_ (a':=?_) ?_ ?_
  rotate_left
  ·show Act.put _ (some 48) _ = _
   simp only [Act.put,List.setIfInBounds_toArray,List.set_cons_zero,List.set_cons_succ,i64_w,i32_w]
   rfl
  refine pa_ 6 42 (bz_ 16 2175) ?_
  refine pa_ 7 49 (bz_ 16 2303) ?_
  refine pa_ 8 50 (bz_ 16 2559) ?_
  refine pa_ 9 51 (bz_ 16 3071) ?_
  refine pa_ 10 52 (bz_ 16 4095) ?_
  exact norm_ (by simp only [putAll,Act.put,List.setIfInBounds_toArray,List.set_cons_zero,List.set_cons_succ]) (hCont ((w50.heap.size + 1),w50.heap.size,(AE0,cE0),(AE1,cE1),(AUs,cUs),(Afr,cfr)) _ ⟨(by repeat (first|(with_reducible exact HX6.out)|apply qd|apply qf)),Nat.le_refl _,HBY.out,E0.out,E1.out,Us.out⟩)
 rintro ⟨z,gBE,⟨AE0,cE0⟩,⟨AE1,cE1⟩,⟨AUs,cUs⟩,⟨Afr,cfr⟩⟩ w57 h5
 have hHeld : True:=trivial
 have H5:=qo.mk h5
 clear h5
 have hc_BE:=box2 H5.out.bx
 refine norm_ (a':=?_) ?_ ?_
 rotate_left
 ·simp only [putAll,Act.put,List.setIfInBounds_toArray,List.set_cons_zero,List.set_cons_succ]
  rfl
 refine last_ (i:=12) (N:=none) (bz_ 16 8191) rfl rfl (by kernel_rfl) (by decide) (fun K hK=>?_)
 refine skip_ (w1:=?_) (by rfl) rfl ?_ ?_
 rotate_left
 ·go_simp
  rfl
 refine hK.out _ _ ?_
 clear hK K
 refine pa_ 13 8 (bz_ 16 16383) ?_
 refine pa_ 14 9 (bz_ 16 32767) ?_
 refine pa_ 15 10 (bz_ 16 65535) ?_
 refine done_ (by kernel_rfl) ?_
 have n_:=R5.put H5.out (.slice AE0 e0.length cE0) (.slice AE1 e1.length cE1)
 generalize hW : World.setCell _ _ _ = w58 at n_ ⊢
 clear hW H5 hc_BE
 obtain ⟨hb,hbx,x0,x0c,x1,x1c,xu,xuc⟩:=n_
 replace HB:=qo.mk (qn HB.out hb);replace Mm:=qo.mk (Kd.C_below Mm.out hb);replace Mn:=qo.mk (Kd.C_below Mn.out hb);replace D0:=qo.mk (Kd.C_below D0.out hb);replace D1:=qo.mk (Kd.C_below D1.out hb);replace BD:=qo.mk (qm BD.out hb);clear hb hc_BD
 have hc_BD:=box2 BD.out
 have BE:=qo.mk hbx
 have hc_BE:=box2 BE.out
 have E0:=qo.mk x0
 have E0c:=qo.mk x0c
 have E1:=qo.mk x1
 have E1c:=qo.mk x1c
 have Us:=qo.mk xu
 have Usc:=qo.mk xuc
 clear hbx x0 x0c x1 x1c xu xuc
 clear D0 D1 BD hc_BD
 go_upto_region 7 with (first|(go_at_call 24;(with_reducible refine (impl_FlushDevice.calls kl _ _ e0 _ _ e1 f0 f1 true _ ?s1 E0c.out ?s2 E1c.out hFL.out).mono ?_);(case s1=>exact E0.out);(case s2=>exact E1.out);rintro e w15 ⟨v0_,v1_,rfl,ho0,ho1,hb⟩;replace HB:=qo.mk (qn HB.out hb);replace Mm:=qo.mk (Kd.C_below Mm.out hb);replace Mn:=qo.mk (Kd.C_below Mn.out hb);replace Us:=qo.mk (Kd.C_below Us.out hb);replace BE:=qo.mk (qm BE.out hb);replace E0:=qo.mk (Kd.C_below E0.out hb);replace E1:=qo.mk (Kd.C_below E1.out hb);clear hb hc_BE;have hc_BE:=box2 BE.out;obtain ⟨AF0,cF0,e_⟩:=Kd.R_slice ho0;subst e_;have F0:=qo.mk (Kd.R_reads' ho0).2.2;have F0c:=qo.mk (Kd.R_reads' ho0).2.1;clear ho0;obtain ⟨AF1,cF1,e_⟩:=Kd.R_slice ho1;subst e_;have F1:=qo.mk (Kd.R_reads' ho1).2.2;have F1c:=qo.mk (Kd.R_reads' ho1).2.1;clear ho1;))
 generalize hW : w15.alloc (.cells #[.slice AF0 f0.length cF0,.slice AF1 f1.length cF1] 32) = w60
 have hb : Below w15.heap.size w15 w60:=by rw [← hW];exact qf (Below.refl _ _) _
 have hbx : w60.heap[w15.heap.size]? = some (.cells #[.slice AF0 f0.length cF0,.slice AF1 f1.length cF1] 32 (0,0)):=by rw [← hW];exact heap_alloc_new _ _
 generalize hG : w15.heap.size = gBF
 rw [hG] at hbx
 clear hW hG
 have BF:=qo.mk hbx
 clear hbx
 replace HB:=qo.mk (qn HB.out hb);replace Mm:=qo.mk (Kd.C_below Mm.out hb);replace Mn:=qo.mk (Kd.C_below Mn.out hb);replace Us:=qo.mk (Kd.C_below Us.out hb);replace BE:=qo.mk (qm BE.out hb);replace E0:=qo.mk (Kd.C_below E0.out hb);replace E1:=qo.mk (Kd.C_below E1.out hb);replace F0:=qo.mk (Kd.C_below F0.out hb);replace F1:=qo.mk (Kd.C_below F1.out hb);clear hb hc_BE
 have hc_BE:=box2 BE.out
 have hc_BF:=box2 BF.out
 clear BE hc_BE E0 E1
 go_upto_region 8 with (first|(go_at_call 25;(with_reducible refine (impl_rtree.calls _ _ f0 _ _ f1 root m used _ ?s1 F0c.out ?s2 F1c.out hR1.out).mono ?_);(case s1=>exact F0.out);(case s2=>exact F1.out);rintro e w16 ⟨v0_,v1_,rfl,ho0,ho1,hb⟩;replace HB:=qo.mk (qn HB.out hb);replace Mm:=qo.mk (Kd.C_below Mm.out hb);replace Mn:=qo.mk (Kd.C_below Mn.out hb);replace Us:=qo.mk (Kd.C_below Us.out hb);replace F0:=qo.mk (Kd.C_below F0.out hb);replace F1:=qo.mk (Kd.C_below F1.out hb);replace BF:=qo.mk (qm BF.out hb);clear hb hc_BF;have hc_BF:=box2 BF.out;obtain ⟨AX1,cX1,e_⟩:=Kd.R_slice ho0;subst e_;have X1:=qo.mk (Kd.R_reads' ho0).2.2;have X1c:=qo.mk (Kd.R_reads' ho0).2.1;clear ho0;obtain ⟨AU1,cU1,e_⟩:=Kd.R_slice ho1;subst e_;have U1:=qo.mk (Kd.R_reads' ho1).2.2;have U1c:=qo.mk (Kd.R_reads' ho1).2.1;clear ho1;))
 go_upto_region 10 with (first|(go_at_call 26;(with_reducible refine (laws_sameMap.calls km _ _ m _ _ m true _ ?s1 X1c.out ?s2 Mmc.out hSM.out).mono ?_);(case s1=>exact X1.out);(case s2=>exact Mm.out);rintro e w17 ⟨rfl,hd⟩;have hb:=hd.below;clear hd;replace HB:=qo.mk (qn HB.out hb);replace Mm:=qo.mk (Kd.C_below Mm.out hb);replace Mn:=qo.mk (Kd.C_below Mn.out hb);replace Us:=qo.mk (Kd.C_below Us.out hb);replace F0:=qo.mk (Kd.C_below F0.out hb);replace F1:=qo.mk (Kd.C_below F1.out hb);replace BF:=qo.mk (qm BF.out hb);replace X1:=qo.mk (Kd.C_below X1.out hb);replace U1:=qo.mk (Kd.C_below U1.out hb);clear hb hc_BF;have hc_BF:=box2 BF.out)|(go_at_call 27;(with_reducible refine (laws_sameInts.calls ki _ _ used _ _ used true _ ?s1 U1c.out ?s2 Usc.out hSI.out).mono ?_);(case s1=>exact U1.out);(case s2=>exact Us.out);rintro e w18 ⟨rfl,hd⟩;have hb:=hd.below;clear hd;replace HB:=qo.mk (qn HB.out hb);replace Mm:=qo.mk (Kd.C_below Mm.out hb);replace Mn:=qo.mk (Kd.C_below Mn.out hb);replace Us:=qo.mk (Kd.C_below Us.out hb);replace F0:=qo.mk (Kd.C_below F0.out hb);replace F1:=qo.mk (Kd.C_below F1.out hb);replace BF:=qo.mk (qm BF.out hb);replace X1:=qo.mk (Kd.C_below X1.out hb);replace U1:=qo.mk (Kd.C_below U1.out hb);clear hb hc_BF;have hc_BF:=box2 BF.out))
 clear X1 U1
 go_upto_region 11 with (first|(go_at_call 23;(with_reducible refine (impl_FreeOf.calls kg _ _ f0 _ _ f1 _ _ used free _ ?s1 F0c.out ?s2 F1c.out ?s3 Usc.out hFO2.out).mono ?_);(case s1=>exact F0.out);(case s2=>exact F1.out);(case s3=>exact Us.out);rintro e w19 ⟨v0_,rfl,ho0,hb⟩;replace HB:=qo.mk (qn HB.out hb);replace Mm:=qo.mk (Kd.C_below Mm.out hb);replace Mn:=qo.mk (Kd.C_below Mn.out hb);replace Us:=qo.mk (Kd.C_below Us.out hb);replace F0:=qo.mk (Kd.C_below F0.out hb);replace F1:=qo.mk (Kd.C_below F1.out hb);replace BF:=qo.mk (qm BF.out hb);clear hb hc_BF;have hc_BF:=box2 BF.out;obtain ⟨AFr,cFr,e_⟩:=Kd.R_slice ho0;subst e_;have Fr:=qo.mk (Kd.R_reads' ho0).2.2;have Frc:=qo.mk (Kd.R_reads' ho0).2.1;clear ho0;))
 go_upto_region 12 with (first|(go_at_call 11;(with_reducible refine (impl_tree.calls _ _ f0 _ _ f1 _ _ free _ _ m g0 [] root used true _ ?s1 F0c.out ?s2 F1c.out ?s3 Frc.out ?s4 Mmc.out hT2.out).mono ?_);(case s1=>exact F0.out);(case s2=>exact F1.out);(case s3=>exact Fr.out);(case s4=>exact Mm.out);rintro e w20 ⟨v0_,v1_,v3_,rfl,ho0,ho1,ho3,hb⟩;replace HB:=qo.mk (qn HB.out hb);replace Mm:=qo.mk (Kd.C_below Mm.out hb);replace Mn:=qo.mk (Kd.C_below Mn.out hb);replace Us:=qo.mk (Kd.C_below Us.out hb);replace F0:=qo.mk (Kd.C_below F0.out hb);replace F1:=qo.mk (Kd.C_below F1.out hb);replace BF:=qo.mk (qm BF.out hb);replace Fr:=qo.mk (Kd.C_below Fr.out hb);clear hb hc_BF;have hc_BF:=box2 BF.out;obtain ⟨AG0,cG0,e_⟩:=Kd.R_slice ho0;subst e_;have G0:=qo.mk (Kd.R_reads' ho0).2.2;have G0c:=qo.mk (Kd.R_reads' ho0).2.1;clear ho0;obtain ⟨AG1,cG1,e_⟩:=Kd.R_slice ho1;subst e_;have G1:=qo.mk (Kd.R_reads' ho1).2.2;have G1c:=qo.mk (Kd.R_reads' ho1).2.1;clear ho1;obtain ⟨AU2,cU2,e_⟩:=Kd.R_slice ho3;subst e_;have U2:=qo.mk (Kd.R_reads' ho3).2.2;have U2c:=qo.mk (Kd.R_reads' ho3).2.1;clear ho3;))
 generalize hW : w20.alloc (.cells #[.slice AG0 g0.length cG0,.slice AG1 ([] : List (S96)).length cG1] 32) = w70
 have hb : Below w20.heap.size w20 w70:=by rw [← hW];exact qf (Below.refl _ _) _
 have hbx : w70.heap[w20.heap.size]? = some (.cells #[.slice AG0 g0.length cG0,.slice AG1 ([] : List (S96)).length cG1] 32 (0,0)):=by rw [← hW];exact heap_alloc_new _ _
 generalize hG : w20.heap.size = gBG
 rw [hG] at hbx
 clear hW hG
 have BG:=qo.mk hbx
 clear hbx
 replace HB:=qo.mk (qn HB.out hb);replace Mm:=qo.mk (Kd.C_below Mm.out hb);replace Mn:=qo.mk (Kd.C_below Mn.out hb);replace Us:=qo.mk (Kd.C_below Us.out hb);replace F0:=qo.mk (Kd.C_below F0.out hb);replace F1:=qo.mk (Kd.C_below F1.out hb);replace BF:=qo.mk (qm BF.out hb);replace Fr:=qo.mk (Kd.C_below Fr.out hb);replace G0:=qo.mk (Kd.C_below G0.out hb);replace G1:=qo.mk (Kd.C_below G1.out hb);replace U2:=qo.mk (Kd.C_below U2.out hb);clear hb hc_BF
 have hc_BF:=box2 BF.out
 have hc_BG:=box2 BG.out
 have hr0 : (root != root) = false:=by simp
 go_upto_region 14 with (first|(go_at_call 27;(with_reducible refine (laws_sameInts.calls ki _ _ used _ _ used true _ ?s1 U2c.out ?s2 Usc.out hSI.out).mono ?_);(case s1=>exact U2.out);(case s2=>exact Us.out);rintro e w21 ⟨rfl,hd⟩;have hb:=hd.below;clear hd;replace HB:=qo.mk (qn HB.out hb);replace Mm:=qo.mk (Kd.C_below Mm.out hb);replace Mn:=qo.mk (Kd.C_below Mn.out hb);replace Us:=qo.mk (Kd.C_below Us.out hb);replace F0:=qo.mk (Kd.C_below F0.out hb);replace F1:=qo.mk (Kd.C_below F1.out hb);replace BF:=qo.mk (qm BF.out hb);replace Fr:=qo.mk (Kd.C_below Fr.out hb);replace G0:=qo.mk (Kd.C_below G0.out hb);replace G1:=qo.mk (Kd.C_below G1.out hb);replace U2:=qo.mk (Kd.C_below U2.out hb);replace BG:=qo.mk (qm BG.out hb);clear hb hc_BF hc_BG;have hc_BF:=box2 BF.out;have hc_BG:=box2 BG.out))
 clear G0 G1 U2 BG hc_BG hr0
 go_upto_region 15 with (first|(go_at_call 11;(with_reducible refine (impl_tree.calls _ _ f0 _ _ f1 _ _ free _ _ n h0 h1 other u2 true _ ?s1 F0c.out ?s2 F1c.out ?s3 Frc.out ?s4 Mnc.out hT3.out).mono ?_);(case s1=>exact F0.out);(case s2=>exact F1.out);(case s3=>exact Fr.out);(case s4=>exact Mn.out);rintro e w22 ⟨v0_,v1_,v3_,rfl,ho0,ho1,ho3,hb⟩;replace HB:=qo.mk (qn HB.out hb);replace Mm:=qo.mk (Kd.C_below Mm.out hb);replace Mn:=qo.mk (Kd.C_below Mn.out hb);replace Us:=qo.mk (Kd.C_below Us.out hb);replace F0:=qo.mk (Kd.C_below F0.out hb);replace F1:=qo.mk (Kd.C_below F1.out hb);replace BF:=qo.mk (qm BF.out hb);replace Fr:=qo.mk (Kd.C_below Fr.out hb);clear hb hc_BF;have hc_BF:=box2 BF.out;obtain ⟨AH00,cH00,e_⟩:=Kd.R_slice ho0;subst e_;have H00:=qo.mk (Kd.R_reads' ho0).2.2;have H00c:=qo.mk (Kd.R_reads' ho0).2.1;clear ho0;obtain ⟨AH01,cH01,e_⟩:=Kd.R_slice ho1;subst e_;have H01:=qo.mk (Kd.R_reads' ho1).2.2;have H01c:=qo.mk (Kd.R_reads' ho1).2.1;clear ho1;obtain ⟨AU2,cU2,e_⟩:=Kd.R_slice ho3;subst e_;have U2:=qo.mk (Kd.R_reads' ho3).2.2;have U2c:=qo.mk (Kd.R_reads' ho3).2.1;clear ho3;))
 generalize hW : w22.alloc (.cells #[.slice AH00 h0.length cH00,.slice AH01 h1.length cH01] 32) = w80
 have hb : Below w22.heap.size w22 w80:=by rw [← hW];exact qf (Below.refl _ _) _
 have hbx : w80.heap[w22.heap.size]? = some (.cells #[.slice AH00 h0.length cH00,.slice AH01 h1.length cH01] 32 (0,0)):=by rw [← hW];exact heap_alloc_new _ _
 generalize hG : w22.heap.size = gBH
 rw [hG] at hbx
 clear hW hG
 have BH:=qo.mk hbx
 clear hbx
 replace HB:=qo.mk (qn HB.out hb);replace Mm:=qo.mk (Kd.C_below Mm.out hb);replace Mn:=qo.mk (Kd.C_below Mn.out hb);replace Us:=qo.mk (Kd.C_below Us.out hb);replace F0:=qo.mk (Kd.C_below F0.out hb);replace F1:=qo.mk (Kd.C_below F1.out hb);replace BF:=qo.mk (qm BF.out hb);replace Fr:=qo.mk (Kd.C_below Fr.out hb);replace H00:=qo.mk (Kd.C_below H00.out hb);replace H01:=qo.mk (Kd.C_below H01.out hb);replace U2:=qo.mk (Kd.C_below U2.out hb);clear hb hc_BF
 have hc_BF:=box2 BF.out
 have hc_BH:=box2 BH.out
 go_upto_region 16 with (first|(go_at_call 25;(with_reducible refine (impl_rtree.calls _ _ h0 _ _ h1 other n u3 _ ?s1 H00c.out ?s2 H01c.out hR2.out).mono ?_);(case s1=>exact H00.out);(case s2=>exact H01.out);rintro e w23 ⟨v0_,v1_,rfl,ho0,ho1,hb⟩;replace HB:=qo.mk (qn HB.out hb);replace Mm:=qo.mk (Kd.C_below Mm.out hb);replace Mn:=qo.mk (Kd.C_below Mn.out hb);replace Us:=qo.mk (Kd.C_below Us.out hb);replace F0:=qo.mk (Kd.C_below F0.out hb);replace F1:=qo.mk (Kd.C_below F1.out hb);replace BF:=qo.mk (qm BF.out hb);replace Fr:=qo.mk (Kd.C_below Fr.out hb);replace H00:=qo.mk (Kd.C_below H00.out hb);replace H01:=qo.mk (Kd.C_below H01.out hb);replace U2:=qo.mk (Kd.C_below U2.out hb);replace BH:=qo.mk (qm BH.out hb);clear hb hc_BF hc_BH;have hc_BF:=box2 BF.out;have hc_BH:=box2 BH.out;obtain ⟨AX2,cX2,e_⟩:=Kd.R_slice ho0;subst e_;have X2:=qo.mk (Kd.R_reads' ho0).2.2;have X2c:=qo.mk (Kd.R_reads' ho0).2.1;clear ho0;obtain ⟨AU3,cU3,e_⟩:=Kd.R_slice ho1;subst e_;have U3:=qo.mk (Kd.R_reads' ho1).2.2;have U3c:=qo.mk (Kd.R_reads' ho1).2.1;clear ho1;))
 go_upto_region 17 with (first|(go_at_call 25;(with_reducible refine (impl_rtree.calls _ _ h0 _ _ h1 root m u4 _ ?s1 H00c.out ?s2 H01c.out hR3.out).mono ?_);(case s1=>exact H00.out);(case s2=>exact H01.out);rintro e w24 ⟨v0_,v1_,rfl,ho0,ho1,hb⟩;replace HB:=qo.mk (qn HB.out hb);replace Mm:=qo.mk (Kd.C_below Mm.out hb);replace Mn:=qo.mk (Kd.C_below Mn.out hb);replace Us:=qo.mk (Kd.C_below Us.out hb);replace F0:=qo.mk (Kd.C_below F0.out hb);replace F1:=qo.mk (Kd.C_below F1.out hb);replace BF:=qo.mk (qm BF.out hb);replace Fr:=qo.mk (Kd.C_below Fr.out hb);replace H00:=qo.mk (Kd.C_below H00.out hb);replace H01:=qo.mk (Kd.C_below H01.out hb);replace U2:=qo.mk (Kd.C_below U2.out hb);replace BH:=qo.mk (qm BH.out hb);replace X2:=qo.mk (Kd.C_below X2.out hb);replace U3:=qo.mk (Kd.C_below U3.out hb);clear hb hc_BF hc_BH;have hc_BF:=box2 BF.out;have hc_BH:=box2 BH.out;obtain ⟨AX3,cX3,e_⟩:=Kd.R_slice ho0;subst e_;have X3:=qo.mk (Kd.R_reads' ho0).2.2;have X3c:=qo.mk (Kd.R_reads' ho0).2.1;clear ho0;obtain ⟨AU4,cU4,e_⟩:=Kd.R_slice ho1;subst e_;have U4:=qo.mk (Kd.R_reads' ho1).2.2;have U4c:=qo.mk (Kd.R_reads' ho1).2.1;clear ho1;))
 go_wp2_with (first|(go_at_call 26;(with_reducible refine (laws_sameMap.calls kn _ _ n _ _ n true _ ?s1 X2c.out ?s2 Mnc.out hSN.out).mono ?_);(case s1=>exact X2.out);(case s2=>exact Mn.out);rintro e w25 ⟨rfl,hd⟩;have hb:=hd.below;clear hd;replace HB:=qo.mk (qn HB.out hb);replace Mm:=qo.mk (Kd.C_below Mm.out hb);replace Mn:=qo.mk (Kd.C_below Mn.out hb);replace Us:=qo.mk (Kd.C_below Us.out hb);replace F0:=qo.mk (Kd.C_below F0.out hb);replace F1:=qo.mk (Kd.C_below F1.out hb);replace BF:=qo.mk (qm BF.out hb);replace Fr:=qo.mk (Kd.C_below Fr.out hb);replace H00:=qo.mk (Kd.C_below H00.out hb);replace H01:=qo.mk (Kd.C_below H01.out hb);replace U2:=qo.mk (Kd.C_below U2.out hb);replace BH:=qo.mk (qm BH.out hb);replace X2:=qo.mk (Kd.C_below X2.out hb);replace U3:=qo.mk (Kd.C_below U3.out hb);replace X3:=qo.mk (Kd.C_below X3.out hb);replace U4:=qo.mk (Kd.C_below U4.out hb);clear hb hc_BF hc_BH;have hc_BF:=box2 BF.out;have hc_BH:=box2 BH.out)|(go_at_call 26;(with_reducible refine (laws_sameMap.calls km _ _ m _ _ m true _ ?s1 X3c.out ?s2 Mmc.out hSM.out).mono ?_);(case s1=>exact X3.out);(case s2=>exact Mm.out);rintro e w26 ⟨rfl,hd⟩;have hb:=hd.below;clear hd;replace HB:=qo.mk (qn HB.out hb);replace Mm:=qo.mk (Kd.C_below Mm.out hb);replace Mn:=qo.mk (Kd.C_below Mn.out hb);replace Us:=qo.mk (Kd.C_below Us.out hb);replace F0:=qo.mk (Kd.C_below F0.out hb);replace F1:=qo.mk (Kd.C_below F1.out hb);replace BF:=qo.mk (qm BF.out hb);replace Fr:=qo.mk (Kd.C_below Fr.out hb);replace H00:=qo.mk (Kd.C_below H00.out hb);replace H01:=qo.mk (Kd.C_below H01.out hb);replace U2:=qo.mk (Kd.C_below U2.out hb);replace BH:=qo.mk (qm BH.out hb);replace X2:=qo.mk (Kd.C_below X2.out hb);replace U3:=qo.mk (Kd.C_below U3.out hb);replace X3:=qo.mk (Kd.C_below X3.out hb);replace U4:=qo.mk (Kd.C_below U4.out hb);clear hb hc_BF hc_BH;have hc_BF:=box2 BF.out;have hc_BH:=box2 BH.out))
 go_ret
 exact ⟨rfl,HB.out⟩
/-- THE ONE PURE STATEMENT. -/
def laws_FnTrees.Pure : Prop:=∀ (l0 : List Int),l0.length ≤ maxLen → l0.length * 1 ≤ 140737488351232 → (∀ x ∈ l0,(Lit.int .u8 x).wf = true) → LawOk l0
theorem laws_FnTrees.walk (P : laws_FnTrees.Pure) (a0 : Option Addr) (len0 cap0 : Nat) (z0 : List Int) (w : World) (w0 : (a0 = none ∧ len0 = 0 ∧ cap0 = 0 ∧ z0 = []) ∨ ∃ x,a0 = some x ∧ len0 ≤ cap0 ∧ cap0 ≤ maxLen ∧ z0.length = cap0 ∧ (∀ i,i < z0.length → w.cell? (x.add i) = some (.int .u8 (z0.getD i 0))) ∧ ∀ n ∈ z0,(Lit.int .u8 n).wf = true) (y0 : len0 * 1 ≤ 140737488351232) :
  Calls Try.prog 4 #[.slice a0 len0 cap0] w fun e w'=>e = .returned (.bool true) ∧ Below w.heap.size w w':=by
 obtain ⟨l0,rfl,hr0,hm0,hw0,hc0⟩:=ReadsInt.ofRowC w0
 exact laws_FnTrees.calls _ _ l0 w (Kd.C_of_reads (d:=(0 : Int)) (h1:=fun _=>rfl) hr0) hc0 (P l0 hm0 y0 hw0)
end Go.Proofs.Ytcnoccefdejphaa.QFnTrees
