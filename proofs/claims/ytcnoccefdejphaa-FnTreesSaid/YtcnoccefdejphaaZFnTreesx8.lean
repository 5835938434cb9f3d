/- Lean functions for the Go functions that the law FnTrees reaches, and that each Go function comes to just its Lean function's answer; by a program of this session. -/
import Derived.Test.YtcnoccefdejphaaZFnTreesx0
import Derived.Test.YtcnoccefdejphaaZFnTreesx2
import Derived.Test.YtcnoccefdejphaaZFnTreesx4
import Derived.Test.YtcnoccefdejphaaZFnTreesx6
namespace Go.Proofs.Ytcnoccefdejphaa.QFnTrees
open Go.RowKit Go.Proofs.YtcnoccefdejphaaW.PrintWords Go.Proofs.YtcnoccefdejphaaW.PrintLast Go.Proofs.YtcnoccefdejphaaW.PrintMore
attribute [local go_sem] max2_int min2_int max_two min_two max_three min_three max_four min_four   -- for this text's walks alone
set_option linter.unusedVariables false
set_option linter.unusedSimpArgs false

/-! ### impl_FlushDevice: function 24 -/
def impl_FlushDevice.l0 : Nat → List (S96) → Int → Int → List ByteArray → List (S96) → Option (List ByteArray × (List (S96)) × Bool)
 | 0,_,_,_,_,_=>none
 | k + 1,x14,x15,x16,x399000,x399001=>if x16 < x15 then (if 0 ≤ x16 then (if x16 < (x14.length : Int) then (if 0 ≤ ((rd_T96 x14 x16).f0) then (if ((rd_T96 x14 x16).f0) < (x399000.length : Int) then (impl_FlushDevice.l0 k x14 x15 (wrap64 (x16 + 1)) (x399000.set (((rd_T96 x14 x16).f0) : Int).toNat ((rd_T96 x14 x16).f1)) x399001) else (none)) else (none)) else (none)) else (none)) else (some (x399000,([] : List (S96)),true))
def impl_FlushDevice.f (k : Nat) (l0_0 : List ByteArray) (l0_1 : List (S96)) : Option (List ByteArray × (List (S96)) × Bool):=(impl_DeviceOk.f k l0_0 l0_1).bind fun t391=>(if t391 = true then ((impl_copyDevice.f l0_0 l0_1).bind fun bt392=>(impl_FlushDevice.l0 k l0_1 (l0_1.length : Int) 0 bt392.1 bt392.2)) else (some (([] : List ByteArray),([] : List (S96)),false)))
theorem impl_FlushDevice.mono_l : ∀ k,(∀ y0 y1 y2 y3 y4,LeO (impl_FlushDevice.l0 k y0 y1 y2 y3 y4) (impl_FlushDevice.l0 (k + 1) y0 y1 y2 y3 y4))
 | 0=>fun _ _ _ _ _ r h=>by simp [impl_FlushDevice.l0] at h
 | k + 1=>by
  have ih0:=impl_FlushDevice.mono_l k
  intro y0 y1 y2 y3 y4
  unfold impl_FlushDevice.l0
  repeat' first|(with_reducible first|exact ih0 _ _ _ _ _|exact impl_DeviceOk.mono _ _ _|exact LeO.refl _|exact LeO.none _|refine LeO.ite ?_ ?_|refine LeO.bind ?_ (fun _=>?_))|exact ih0 _ _ _ _ _|exact impl_DeviceOk.mono _ _ _|exact LeO.none _|refine LeO.ite ?_ ?_|refine LeO.bind ?_ (fun _=>?_)
theorem impl_FlushDevice.mono : ∀ a0 a1 k,LeO (impl_FlushDevice.f k a0 a1) (impl_FlushDevice.f (k + 1) a0 a1):=by
 intro a0 a1 k
 have ih0:=impl_FlushDevice.mono_l k
 unfold impl_FlushDevice.f
 repeat' first|(with_reducible first|exact ih0 _ _ _ _ _|exact impl_DeviceOk.mono _ _ _|exact LeO.refl _|exact LeO.none _|refine LeO.ite ?_ ?_|refine LeO.bind ?_ (fun _=>?_))|exact ih0 _ _ _ _ _|exact impl_DeviceOk.mono _ _ _|exact LeO.none _|refine LeO.ite ?_ ?_|refine LeO.bind ?_ (fun _=>?_)
set_option maxHeartbeats 8000000 in
set_option maxRecDepth 100000 in
theorem impl_FlushDevice.calls (k : Nat) (A0_0 : Option Addr) (c0_0 : Nat) (l0_0 : List ByteArray) (A0_1 : Option Addr) (c0_1 : Nat) (l0_1 : List (S96)) (r1 : List ByteArray) (r2 : List (S96)) (r3 : Bool) (w : World) (hr0_0 : Kd.C Kd.string w A0_0 l0_0.length l0_0) (hc0_0 : l0_0.length ≤ c0_0) (hr0_1 : Kd.C k96 w A0_1 l0_1.length l0_1) (hc0_1 : l0_1.length ≤ c0_1) (h : impl_FlushDevice.f k l0_0 l0_1 = some (r1,r2,r3)) :
  Calls Try.prog 24 #[.agg #[.slice A0_0 l0_0.length c0_0,.slice A0_1 l0_1.length c0_1]] w fun e w'=>∃ v0_ v1_ : Value,e = .returned (.tuple #[.agg #[v0_,v1_],.bool r3]) ∧ Kd.R Kd.string 9 w' w.heap.size (fun _=>True) v0_ r1 ∧ Kd.R k96 96 w' w.heap.size (fun _=>True) v1_ r2 ∧ Below w.heap.size w w':=by
 have hu32:=Try.underlying32
 have hu96:=Try.underlying96
 have HR0_0:=qo.mk hr0_0
 have HC0_0:=qo.mk hc0_0
 clear hr0_0 hc0_0
 have HR0_1:=qo.mk hr0_1
 have HC0_1:=qo.mk hc0_1
 clear hr0_1 hc0_1
 have HB:=qo.mk (Below.refl w.heap.size w)
 have H : ((impl_DeviceOk.f k l0_0 l0_1).bind fun t391=>(if t391 = true then ((impl_copyDevice.f l0_0 l0_1).bind fun bt392=>(impl_FlushDevice.l0 k l0_1 (l0_1.length : Int) 0 bt392.1 bt392.2)) else (some (([] : List ByteArray),([] : List (S96)),false)))) = some (r1,r2,r3):=h
 clear h
 replace H:=Option.bind_eq_some_iff.mp H
 obtain ⟨t391,A20,H⟩:=H
 replace H : (if t391 = true then ((impl_copyDevice.f l0_0 l0_1).bind fun bt392=>(impl_FlushDevice.l0 k l0_1 (l0_1.length : Int) 0 bt392.1 bt392.2)) else (some (([] : List ByteArray),([] : List (S96)),false))) = some (r1,r2,r3):=H
 have A2:=qo.mk A20
 clear A20
 by_cases c3 : t391 = true
 ·subst c3
  have H1 : ((impl_copyDevice.f l0_0 l0_1).bind fun bt392=>(impl_FlushDevice.l0 k l0_1 (l0_1.length : Int) 0 bt392.1 bt392.2)) = some (r1,r2,r3):=by rw [if_pos rfl] at H;exact H
  clear H
  have H:=H1
  clear H1
  replace H:=Option.bind_eq_some_iff.mp H
  obtain ⟨⟨t392,t395⟩,A40,H⟩:=H
  replace H : (impl_FlushDevice.l0 k l0_1 (l0_1.length : Int) 0 t392 t395) = some (r1,r2,r3):=H
  have A4:=qo.mk A40
  clear A40
  have H':=qo.mk H
  clear H
  go_enter Try.func24,Try.ntmps24
  go_wp2_with (first|((with_reducible refine gate_dst (N:=1) rfl ?_);refine box_event ?hg (N:=1) ?hd (cs:=#[.slice A0_0 l0_0.length c0_0,.slice A0_1 l0_1.length c0_1]) (t:=32) ?hr ?_;(case hd=>rfl);(case hg=>rfl);(case hr=>first|(go_simp;done)|(go_simp;rfl));intro gb389 hg w5 hbox hb;have BK389:=qo.mk (hbox);have GW389:=hl_ (w:=w) hg;have GE389:=hl_ (w:=w) hg;replace HB:=hs_ HB hb;clear hb hbox hg)|((with_reducible refine gate_dst (N:=2) rfl ?_);refine box_event ?hg (N:=2) ?hd (cs:=#[.slice none 0 0,.slice none 0 0]) (t:=32) ?hr ?_;(case hd=>rfl);(case hg=>rfl);(case hr=>first|(go_simp;done)|(go_simp;rfl));intro gb390 hg w6 hbox hb;have BK390:=qo.mk (hbox);have GW390:=hl_ (w:=w) hg;have GE390:=hl_ (w:=w) hg;have NB389_390:=qo.mk ((by rw [hg];exact nl_ BK389 : gb389 ≠ gb390));have NB390_389:=qo.mk ((by rw [hg];exact ng_ BK389 : gb390 ≠ gb389));replace BK389:=bb_ BK389 hb;replace HB:=hs_ HB hb;clear hb hbox hg;have hnb7:=NB389_390.out;have hnc7:=NB390_389.out;obtain ⟨hcz8_0,hcz8_1,hfz8_0,hfz8_1⟩:=c2f_ BK389.out)|((with_reducible refine gate_callee (f:=40) rfl ?_);refine goesL_ (some 8) rfl rfl Try.func40 (by kernel_rfl) rfl #[.agg #[.slice A0_0 l0_0.length c0_0,.slice A0_1 l0_1.length c0_1]] rfl sm_ ?_;(with_reducible refine (impl_DeviceOk.calls k _ _ l0_0 _ _ l0_1 true _ ?side1 ?side2 ?side3 ?side4 A2.out).mono ?_);(case side1=>repeat (first|exact (Kd.C_below HR0_0.out HB.out)|(with_reducible refine Kd.C_alloc ?_ _)|(with_reducible refine Kd.C_drewN ?_ _)|(with_reducible refine Kd.C_drew ?_)));(case side2=>exact HC0_0.out);(case side3=>repeat (first|exact (Kd.C_below HR0_1.out HB.out)|(with_reducible refine Kd.C_alloc ?_ _)|(with_reducible refine Kd.C_drewN ?_ _)|(with_reducible refine Kd.C_drew ?_)));(case side4=>exact HC0_1.out);rintro e w9 ⟨rfl,hb⟩;refine ⟨_,rfl,?_⟩;replace BK389:=bb_ BK389 hb;replace BK390:=bb_ BK390 hb;replace HB:=hs_ HB hb;(try clear hb);(try clear hb2);(try clear hk);(try clear hi);obtain ⟨hcz10_0,hcz10_1,hfz10_0,hfz10_1⟩:=c2f_ BK389.out)|((with_reducible refine gate_callee (f:=43) rfl ?_);refine goesL_ (some 12) rfl rfl Try.func43 (by kernel_rfl) rfl #[.agg #[.slice A0_0 l0_0.length c0_0,.slice A0_1 l0_1.length c0_1]] rfl sm_ ?_;(with_reducible refine (impl_copyDevice.calls _ _ l0_0 _ _ l0_1 t392 t395 _ ?side1 ?side2 ?side3 ?side4 A4.out).mono ?_);(case side1=>repeat (first|exact (Kd.C_below HR0_0.out HB.out)|(with_reducible refine Kd.C_alloc ?_ _)|(with_reducible refine Kd.C_drewN ?_ _)|(with_reducible refine Kd.C_drew ?_)));(case side2=>exact HC0_0.out);(case side3=>repeat (first|exact (Kd.C_below HR0_1.out HB.out)|(with_reducible refine Kd.C_alloc ?_ _)|(with_reducible refine Kd.C_drewN ?_ _)|(with_reducible refine Kd.C_drew ?_)));(case side4=>exact HC0_1.out);rintro e w11 ⟨v393,v396,rfl,ho0,ho1,hb⟩;refine ⟨_,rfl,?_⟩;have HO394:=qo.mk (Kd.R_lower ho0 (qk hx_));have HO397:=qo.mk (Kd.R_lower ho1 (qk hx_));replace BK389:=bb_ BK389 hb;replace BK390:=bb_ BK390 hb;replace HB:=hs_ HB hb;(try clear hb);(try clear hb2);(try clear hk);(try clear hi);(try clear ho0);(try clear ho1))|((with_reducible refine gate_dst (N:=4) rfl ?_);refine box_event ?hg (N:=4) ?hd (cs:=#[.slice none 0 0,.slice none 0 0]) (t:=32) ?hr ?_;(case hd=>rfl);(case hg=>rfl);(case hr=>first|(go_simp;done)|(go_simp;rfl));intro gb398 hg w12 hbox hb;replace HO394:=rb_ HO394 hb;replace HO397:=rb_ HO397 hb;have BK398:=qo.mk (hbox);have GW398:=hl_ (w:=w) hg;have GE398:=hl_ (w:=w) hg;have NB389_398:=qo.mk ((by rw [hg];exact nl_ BK389 : gb389 ≠ gb398));have NB398_389:=qo.mk ((by rw [hg];exact ng_ BK389 : gb398 ≠ gb389));replace BK389:=bb_ BK389 hb;have NB390_398:=qo.mk ((by rw [hg];exact nl_ BK390 : gb390 ≠ gb398));have NB398_390:=qo.mk ((by rw [hg];exact ng_ BK390 : gb398 ≠ gb390));replace BK390:=bb_ BK390 hb;replace HB:=hs_ HB hb;clear hb hbox hg;obtain ⟨Ao13,co13,eo13⟩:=Kd.R_slice HO394.out;subst eo13;have hnb14:=NB398_389.out;have hnc14:=NB389_398.out;have hnb15:=NB398_390.out;have hnc15:=NB390_398.out;obtain ⟨hcz16_0,hcz16_1,hfz16_0,hfz16_1⟩:=c2f_ BK398.out;obtain ⟨Ao17,co17,eo17⟩:=Kd.R_slice HO397.out;subst eo17;obtain ⟨hcz18_0,hcz18_1,hfz18_0,hfz18_1⟩:=c2f_ BK389.out))
  go_loopg [16] k (fun kq v16 w'=>∃ (x16_1 : Int) (x399000_1 : List ByteArray) (u399000 : Value),v16 = .int .i64 x16_1 ∧ qo (impl_FlushDevice.l0 kq l0_1 (l0_1.length : Int) x16_1 x399000_1 t395 = some (r1,r2,r3)) ∧ qo (kq ≤ k) ∧ qo (Kd.R Kd.string 9 w' w.heap.size (fun _=>True) u399000 x399000_1) ∧ qo (Kd.R k96 96 w' w.heap.size (fun _=>True) (.slice Ao17 t395.length co17) t395) ∧ qo (w'.heap[gb389]? = some (.cells #[(.slice A0_0 l0_0.length c0_0),(.slice A0_1 l0_1.length c0_1)] 32 (0,0))) ∧ qo (w'.heap[gb390]? = some (.cells #[(.slice none 0 0),(.slice none 0 0)] 32 (0,0))) ∧ qo (w'.heap[gb398]? = some (.cells #[u399000,(.slice Ao17 t395.length co17)] 32 (0,0))) ∧ qo (Below w.heap.size w w'))
  case atStart=>exact ⟨(0),(t392),(.slice Ao13 t392.length co13),rs_,H',⟨Nat.le_refl _⟩,⟨by (with_reducible repeat (first|apply Kd.R_alloc|apply Kd.R_drewN|apply Kd.R_drew));exact Kd.R_mono (Kd.R_far (p:=⟨gb398,1,none⟩) (Kd.R_far (p:=⟨gb398,0,none⟩) (Kd.R_types HO394.out BK398.out (by decide)) (fun _ hk=>hk.2) (.slice Ao13 t392.length co13)) (fun _ hk=>hk.2) (.slice Ao17 t395.length co17)) (fun _ hk=>trivial)⟩,⟨by (with_reducible repeat (first|apply Kd.R_alloc|apply Kd.R_drewN|apply Kd.R_drew));exact Kd.R_mono (Kd.R_far (p:=⟨gb398,1,none⟩) (Kd.R_far (p:=⟨gb398,0,none⟩) (Kd.R_types HO397.out BK398.out (by decide)) (fun _ hk=>hk.2) (.slice Ao13 t392.length co13)) (fun _ hk=>hk.2) (.slice Ao17 t395.length co17)) (fun _ hk=>trivial)⟩,⟨by (with_reducible repeat (first|refine qb ?_ _|refine qe ?_|refine qc ?_ _));refine blk_far ?_ NB389_398.out _;(with_reducible repeat (first|refine qb ?_ _|refine qe ?_|refine qc ?_ _));refine blk_far ?_ NB389_398.out _;(with_reducible repeat (first|refine qb ?_ _|refine qe ?_|refine qc ?_ _));exact BK389.out⟩,⟨by (with_reducible repeat (first|refine qb ?_ _|refine qe ?_|refine qc ?_ _));refine blk_far ?_ NB390_398.out _;(with_reducible repeat (first|refine qb ?_ _|refine qe ?_|refine qc ?_ _));refine blk_far ?_ NB390_398.out _;(with_reducible repeat (first|refine qb ?_ _|refine qe ?_|refine qc ?_ _));exact BK390.out⟩,⟨by (with_reducible repeat (first|refine qb ?_ _|refine qe ?_|refine qc ?_ _));refine blk_put (cs:=#[.slice Ao13 t392.length co13,.slice none 0 0]) ?_ 1 _ rfl;(with_reducible repeat (first|refine qb ?_ _|refine qe ?_|refine qc ?_ _));refine blk_put (cs:=#[.slice none 0 0,.slice none 0 0]) ?_ 0 _ rfl;(with_reducible repeat (first|refine qb ?_ _|refine qe ?_|refine qc ?_ _));exact BK398.out⟩,⟨hx_⟩⟩
  clear H'
  try clear c1
  try clear c2
  try clear p2
  try clear c3
  try clear c4
  try clear c7
  try clear c14
  try clear c15
  try clear hcz10_0
  try clear hcz10_1
  try clear hcz16_0
  try clear hcz16_1
  try clear hcz18_0
  try clear hcz18_1
  try clear hcz8_0
  try clear hcz8_1
  try clear hfz10_0
  try clear hfz10_1
  try clear hfz16_0
  try clear hfz16_1
  try clear hfz18_0
  try clear hfz18_1
  try clear hfz8_0
  try clear hfz8_1
  obtain ⟨x16_1,x399000_1,u399000,rfl,HA,HK1,HO_399000,HO_399001,BK389,BK390,BK398,HB⟩:=hrel
  obtain _|k1:=gk
  ·exact absurd HA.out (by simp [impl_FlushDevice.l0])
  have H:=HA.out
  clear HA
  simp only [impl_FlushDevice.l0] at H
  by_cases c19 : x16_1 < (l0_1.length : Int)
  ·rw [if_pos c19] at H
   have c19b0 : decide (x16_1 < (l0_1.length : Int)) = true:=decide_eq_true c19
   clear c19
   by_cases c20 : 0 ≤ x16_1
   ·rw [if_pos c20] at H
    have c20b0 : decide (0 ≤ x16_1) = true:=decide_eq_true c20
    clear c20
    by_cases c21 : x16_1 < (l0_1.length : Int)
    ·rw [if_pos c21] at H
     have c21b0 : decide (x16_1 < (l0_1.length : Int)) = true:=decide_eq_true c21
     clear c21
     by_cases c22 : 0 ≤ ((rd_T96 l0_1 x16_1).f0)
     ·rw [if_pos c22] at H
      have c22b0 : decide (0 ≤ ((rd_T96 l0_1 x16_1).f0)) = true:=decide_eq_true c22
      clear c22
      by_cases c23 : ((rd_T96 l0_1 x16_1).f0) < (x399000_1.length : Int)
      ·rw [if_pos c23] at H
       have c23b0 : decide (((rd_T96 l0_1 x16_1).f0) < (x399000_1.length : Int)) = true:=decide_eq_true c23
       clear c23
       obtain ⟨y401,hy401⟩ : ∃ y_ : List ByteArray,y_ = (x399000_1.set (((rd_T96 l0_1 x16_1).f0) : Int).toNat ((rd_T96 l0_1 x16_1).f1)):=⟨_,rfl⟩
       replace H : (impl_FlushDevice.l0 k1 l0_1 (l0_1.length : Int) (wrap64 (x16_1 + 1)) y401 t395) = some (r1,r2,r3):=by first|(rw [hy401];with_reducible exact H)|(have H2_:=(Option.bind_some _ _).symm.trans H;rw [hy401];with_reducible exact H2_)|(have H2_:=(Option.bind_some _ _).symm.trans H;with_reducible exact H2_)|with_reducible exact H|(rw [hy401];exact H)|exact H
       have Ny401:=qo.mk hy401
       clear hy401
       have H':=qo.mk H
       clear H
       have p399 : 0 ≤ (x16_1 : Int):=dt_
       have q399 : x16_1 < (l0_1.length : Int):=dt_
       obtain ⟨ad399,e399,hx399_0,hx399_1⟩:=at_T96 HR0_1.out x16_1 p399 q399
       cases e399
       replace hx399_0:=cb_ HB hx399_0
       replace hx399_1:=cb_ HB hx399_1
       replace p399:=eq_true p399
       replace q399:=eq_true q399
       go_wp2_with (first|((with_reducible refine gate_dst (N:=6) rfl ?_);refine box_event ?hg (N:=6) ?hd (cs:=#[.int .i64 0,.string (⟨#[]⟩ : ByteArray)]) (t:=96) ?hr ?_;(case hd=>rfl);(case hg=>rfl);(case hr=>first|(go_simp;done)|(go_simp;rfl));intro gb400 hg w25 hbox hb;replace HO_399000:=rb_ HO_399000 hb;replace HO_399001:=qo.mk (Kd.R_below (Kd.R_elderB (by (with_reducible repeat (first|apply Kd.R_alloc|apply Kd.R_drewN|apply Kd.R_drew));exact HO_399001.out) gb400 (Nat.le_of_eq hg.symm)) hb);have BK400:=qo.mk (hbox);have GW400:=hl_ (w:=w) hg;have GE400:=hl_ (w:=w) hg;have NB389_400:=qo.mk ((by rw [hg];exact nl_ BK389 : gb389 ≠ gb400));have NB400_389:=qo.mk ((by rw [hg];exact ng_ BK389 : gb400 ≠ gb389));replace BK389:=bb_ BK389 hb;have NB390_400:=qo.mk ((by rw [hg];exact nl_ BK390 : gb390 ≠ gb400));have NB400_390:=qo.mk ((by rw [hg];exact ng_ BK390 : gb400 ≠ gb390));replace BK390:=bb_ BK390 hb;have NB398_400:=qo.mk ((by rw [hg];exact nl_ BK398 : gb398 ≠ gb400));have NB400_398:=qo.mk ((by rw [hg];exact ng_ BK398 : gb400 ≠ gb398));replace BK398:=bb_ BK398 hb;replace HB:=hs_ HB hb;clear hb hbox hg;have hnb26:=NB400_389.out;have hnc26:=NB389_400.out;have hnb27:=NB400_390.out;have hnc27:=NB390_400.out;have hnb28:=NB400_398.out;have hnc28:=NB398_400.out;obtain ⟨hcz29_0,hcz29_1,hfz29_0,hfz29_1⟩:=c2f_ BK400.out)|((with_reducible refine gate_store (t:=96) (p:=6) rfl ?_);refine store_event (t:=96) (p:=6) (v:=?vo_w30) (w1:=((w25.setCell ⟨gb400,0,none⟩ (.int .i64 ((rd_T96 l0_1 x16_1).f0))).setCell ⟨gb400,1,none⟩ (.string ((rd_T96 l0_1 x16_1).f1)))) ?hg ?ho ?hn ?hr ?_;(case ho=>rfl);(case hg=>rfl);(case hn=>rfl);(case hr=>first|(go_simp;done)|(go_simp;rfl));intro w30 hw;replace HO_399000 : qo (Kd.R Kd.string 9 w30 w.heap.size (fun _=>True) u399000 x399000_1):=⟨(by rw [hw];exact (by (with_reducible repeat (first|apply Kd.R_alloc|apply Kd.R_drewN|apply Kd.R_drew));exact Kd.R_mono (Kd.R_far (p:=⟨gb400,1,none⟩) (Kd.R_far (p:=⟨gb400,0,none⟩) (Kd.R_types HO_399000.out BK400.out (by decide)) (fun _ hk=>hk.2) (.int .i64 ((rd_T96 l0_1 x16_1).f0))) (fun _ hk=>hk.2) (.string ((rd_T96 l0_1 x16_1).f1))) (fun _ hk=>trivial)))⟩;replace HO_399001 : qo (Kd.R k96 96 w30 w.heap.size (fun k_=>k_ ≠ gb400) (.slice Ao17 t395.length co17) t395):=⟨(by rw [hw];exact (by (with_reducible repeat (first|apply Kd.R_alloc|apply Kd.R_drewN|apply Kd.R_drew));exact Kd.R_mono (Kd.R_far (p:=⟨gb400,1,none⟩) (Kd.R_far (p:=⟨gb400,0,none⟩) (Kd.R_mono HO_399001.out (fun k_ hk=>(⟨hk,hk.2⟩ : _ ∧ k_ ≠ gb400))) (fun _ hk=>hk.2) (.int .i64 ((rd_T96 l0_1 x16_1).f0))) (fun _ hk=>hk.2) (.string ((rd_T96 l0_1 x16_1).f1))) (fun _ hk=>hk.1.2)))⟩;replace BK389 : qo (w30.heap[gb389]? = some (.cells #[.slice A0_0 l0_0.length c0_0,.slice (some ad399) l0_1.length c0_1] 32 (0,0))):=⟨(by rw [hw];exact (by (with_reducible repeat (first|refine qb ?_ _|refine qe ?_|refine qc ?_ _));refine blk_far ?_ NB389_400.out _;(with_reducible repeat (first|refine qb ?_ _|refine qe ?_|refine qc ?_ _));refine blk_far ?_ NB389_400.out _;(with_reducible repeat (first|refine qb ?_ _|refine qe ?_|refine qc ?_ _));exact BK389.out))⟩;replace BK390 : qo (w30.heap[gb390]? = some (.cells #[.slice none 0 0,.slice none 0 0] 32 (0,0))):=⟨(by rw [hw];exact (by (with_reducible repeat (first|refine qb ?_ _|refine qe ?_|refine qc ?_ _));refine blk_far ?_ NB390_400.out _;(with_reducible repeat (first|refine qb ?_ _|refine qe ?_|refine qc ?_ _));refine blk_far ?_ NB390_400.out _;(with_reducible repeat (first|refine qb ?_ _|refine qe ?_|refine qc ?_ _));exact BK390.out))⟩;replace BK398 : qo (w30.heap[gb398]? = some (.cells #[u399000,.slice Ao17 t395.length co17] 32 (0,0))):=⟨(by rw [hw];exact (by (with_reducible repeat (first|refine qb ?_ _|refine qe ?_|refine qc ?_ _));refine blk_far ?_ NB398_400.out _;(with_reducible repeat (first|refine qb ?_ _|refine qe ?_|refine qc ?_ _));refine blk_far ?_ NB398_400.out _;(with_reducible repeat (first|refine qb ?_ _|refine qe ?_|refine qc ?_ _));exact BK398.out))⟩;replace BK400 : qo (w30.heap[gb400]? = some (.cells #[.int .i64 ((rd_T96 l0_1 x16_1).f0),.string ((rd_T96 l0_1 x16_1).f1)] 96 (0,0))):=⟨(by rw [hw];exact (by (with_reducible repeat (first|refine qb ?_ _|refine qe ?_|refine qc ?_ _));refine blk_put (cs:=#[.int .i64 ((rd_T96 l0_1 x16_1).f0),.string (⟨#[]⟩ : ByteArray)]) ?_ 1 _ rfl;(with_reducible repeat (first|refine qb ?_ _|refine qe ?_|refine qc ?_ _));refine blk_put (cs:=#[.int .i64 0,.string (⟨#[]⟩ : ByteArray)]) ?_ 0 _ rfl;(with_reducible repeat (first|refine qb ?_ _|refine qe ?_|refine qc ?_ _));exact BK400.out))⟩;replace HB : qo (Below w.heap.size w w30):=⟨(by rw [hw];exact hx_)⟩;clear hw;have hnb31:=NB398_389.out;have hnc31:=NB389_398.out;have hnb32:=NB398_390.out;have hnc32:=NB390_398.out;obtain ⟨hcz33_0,hcz33_1,hfz33_0,hfz33_1⟩:=c2f_ BK398.out;obtain ⟨hcz34_0,hcz34_1,hfz34_0,hfz34_1⟩:=c2f_ BK400.out;have p24 : 0 ≤ (((rd_T96 l0_1 x16_1).f0) : Int):=dt_;have q24 : (((rd_T96 l0_1 x16_1).f0) : Int) < ((x399000_1.length : Int) : Int):=dt_;obtain ⟨go24,co24,eo24,gb24,gl24,cl24,HG24⟩:=Kd.R_form HO_399000.out (by omega);(first|cases eo24|(injection eo24 with ea_ en_ ec_;(first|subst ea_|(injection ea_ with ea_;subst ea_));subst ec_;clear en_));have GB24:=qo.mk gb24;have GG24:=qo.mk HG24;clear gb24 gl24 HG24;obtain ⟨hx24_0,hf24_0⟩:=Kd.R_celln (⟨#[]⟩ : ByteArray) HO_399000.out (((rd_T96 l0_1 x16_1).f0) : Int) p24 q24;replace p24:=eq_true p24;replace q24:=eq_true q24;obtain ⟨hy35_,hz35_⟩:=Kd.R_celln (⟨#[]⟩ : ByteArray) HO_399000.out (((rd_T96 l0_1 x16_1).f0) : Int) (dt_) (dt_);have HP35:=Kd.R_putg HO_399000.out (((rd_T96 l0_1 x16_1).f0) : Int) ((rd_T96 l0_1 x16_1).f1))|((with_reducible refine gate_store (t:=9) (p:=26) rfl ?_);refine store_event (t:=9) (p:=26) (v:=?vo_w36) (w1:=(w30.setCell ⟨go24,(((rd_T96 l0_1 x16_1).f0) : Int).toNat,none⟩ (.string ((rd_T96 l0_1 x16_1).f1)))) ?hg ?ho ?hn ?hr ?_;(case ho=>rfl);(case hg=>rfl);(case hn=>rfl);(case hr=>first|(go_simp;done)|(go_simp;rfl));intro w36 hw;have hg : w30.grownBy w36 (some go24):=(by rw [hw];exact HP35.2);have hp_ : Kd.R Kd.string 9 w36 w.heap.size (fun _=>True) (.slice (some ⟨go24,0,none⟩) x399000_1.length co24) y401:=(by rw [hw,Ny401.out];exact HP35.1);clear HP35;replace HO_399001:=qo.mk (Kd.R_over' (v:=(.slice (some ⟨go24,0,none⟩) x399000_1.length co24)) (by (with_reducible repeat (first|apply Kd.R_alloc|apply Kd.R_drewN|apply Kd.R_drew));exact HO_399001.out) (Kd.R_typed HO_399000.out) (by decide) hg);replace BK389:=qo.mk (blk_grown (g:=gb389) (o:=.cells #[.slice A0_0 l0_0.length c0_0,.slice (some ad399) l0_1.length c0_1] 32 (0,0)) (bx_ BK389).out hg (Kd.R_ne HO_399000.out BK389.out (by decide)));replace BK390:=qo.mk (blk_grown (g:=gb390) (o:=.cells #[.slice none 0 0,.slice none 0 0] 32 (0,0)) (bx_ BK390).out hg (Kd.R_ne HO_399000.out BK390.out (by decide)));replace BK398:=qo.mk (blk_grown (g:=gb398) (o:=.cells #[.slice (some ⟨go24,0,none⟩) x399000_1.length co24,.slice Ao17 t395.length co17] 32 (0,0)) (bx_ BK398).out hg (Kd.R_ne HO_399000.out BK398.out (by decide)));replace BK400:=qo.mk (blk_grown (g:=gb400) (o:=.cells #[.int .i64 ((rd_T96 l0_1 x16_1).f0),.string ((rd_T96 l0_1 x16_1).f1)] 96 (0,0)) (bx_ BK400).out hg (Kd.R_ne HO_399000.out BK400.out (by decide)));replace HO_399000:=qo.mk (hp_);replace HB:=qo.mk ((by rw [hw];exact qg (HB.out) GB24.out : Below w.heap.size w w36));clear hg hw hp_))
       go_roundg k1
       case measure=>have:=HK1.out;omega
       case rel=>exact ⟨(wrap64 (x16_1 + 1)),(y401),(.slice (some ⟨go24,0,none⟩) x399000_1.length co24),rs_,H',⟨by have:=HK1.out;omega⟩,⟨by (with_reducible repeat (first|apply Kd.R_alloc|apply Kd.R_drewN|apply Kd.R_drew));exact HO_399000.out⟩,⟨by (with_reducible repeat (first|apply Kd.R_alloc|apply Kd.R_drewN|apply Kd.R_drew));exact Kd.R_mono HO_399001.out (fun _ hk=>trivial)⟩,(bx_ BK389),(bx_ BK390),(bx_ BK398),⟨hx_⟩⟩
      rw [if_neg c23] at H
      exact absurd H (by simp)
     rw [if_neg c22] at H
     exact absurd H (by simp)
    rw [if_neg c21] at H
    exact absurd H (by simp)
   rw [if_neg c20] at H
   exact absurd H (by simp)
  rw [if_neg c19] at H
  have c19b0 : decide (x16_1 < (l0_1.length : Int)) = false:=decide_eq_false c19
  clear c19
  simp only [Option.some.injEq,Prod.mk.injEq] at H
  obtain ⟨rfl,rfl,rfl⟩:=H
  have hnb37:=NB398_389.out
  have hnc37:=NB389_398.out
  have hnb38:=NB398_390.out
  have hnc38:=NB390_398.out
  obtain ⟨hcz39_0,hcz39_1,hfz39_0,hfz39_1⟩:=c2f_ BK398.out
  obtain ⟨Ao40,co40,eo40⟩:=Kd.R_slice HO_399000.out
  subst eo40
  have hnb41:=NB390_389.out
  have hnc41:=NB389_390.out
  obtain ⟨hcz42_0,hcz42_1,hfz42_0,hfz42_1⟩:=c2f_ BK390.out
  go_wp2
  refine bodyPost_ret (results_ct rfl _ _ gb390 32 #[.slice Ao40 x399000_1.length co40,.slice none 0 0] (0,0) _ rfl (by (with_reducible repeat (first|refine qb ?_ _|refine qe ?_|refine qc ?_ _));refine blk_put (cs:=#[.slice Ao40 x399000_1.length co40,.slice none 0 0]) ?_ 1 _ rfl;(with_reducible repeat (first|refine qb ?_ _|refine qe ?_|refine qc ?_ _));refine blk_put (cs:=#[.slice none 0 0,.slice none 0 0]) ?_ 0 _ rfl;(with_reducible repeat (first|refine qb ?_ _|refine qe ?_|refine qc ?_ _));refine blk_far ?_ NB390_398.out _;(with_reducible repeat (first|refine qb ?_ _|refine qe ?_|refine qc ?_ _));exact BK390.out) Try.underlying32 rfl (by kernel_rfl)) rfl ?_
  exact ⟨_,_,rt_,by (with_reducible repeat (first|apply Kd.R_alloc|apply Kd.R_drewN|apply Kd.R_drew));exact Kd.R_mono (Kd.R_far (p:=⟨gb390,1,none⟩) (Kd.R_far (p:=⟨gb390,0,none⟩) (Kd.R_far (p:=⟨gb398,1,none⟩) (Kd.R_types (Kd.R_types HO_399000.out BK398.out (by decide)) BK390.out (by decide)) (fun _ hk=>hk.1.2) (.slice none 0 0)) (fun _ hk=>hk.2) (.slice Ao40 x399000_1.length co40)) (fun _ hk=>hk.2) (.slice none 0 0)) (fun _ hk=>trivial),by first|exact Kd.R_nil _ _ _ _ _|exact Kd.N_nil _ _ _ _ _|exact Kd.V_nil _ _ _ _ _|exact Kd.Q_nil _ _ _ _ _|exact Kd.S_nil _ _ _ _ _,hx_⟩
 replace c3:=Bool.eq_false_iff.mpr c3
 subst c3
 have H1 : (some (([] : List ByteArray),([] : List (S96)),false)) = some (r1,r2,r3):=by rw [if_neg (show ¬ (false = true) by decide)] at H;exact H
 clear H
 have H:=H1
 clear H1
 simp only [Option.some.injEq,Prod.mk.injEq] at H
 obtain ⟨rfl,rfl,rfl⟩:=H
 go_enter Try.func24,Try.ntmps24
 go_wp2_with (first|((with_reducible refine gate_dst (N:=1) rfl ?_);refine box_event ?hg (N:=1) ?hd (cs:=#[.slice A0_0 l0_0.length c0_0,.slice A0_1 l0_1.length c0_1]) (t:=32) ?hr ?_;(case hd=>rfl);(case hg=>rfl);(case hr=>first|(go_simp;done)|(go_simp;rfl));intro gb389 hg w43 hbox hb;have BK389:=qo.mk (hbox);have GW389:=hl_ (w:=w) hg;have GE389:=hl_ (w:=w) hg;replace HB:=hs_ HB hb;clear hb hbox hg)|((with_reducible refine gate_dst (N:=2) rfl ?_);refine box_event ?hg (N:=2) ?hd (cs:=#[.slice none 0 0,.slice none 0 0]) (t:=32) ?hr ?_;(case hd=>rfl);(case hg=>rfl);(case hr=>first|(go_simp;done)|(go_simp;rfl));intro gb390 hg w44 hbox hb;have BK390:=qo.mk (hbox);have GW390:=hl_ (w:=w) hg;have GE390:=hl_ (w:=w) hg;have NB389_390:=qo.mk ((by rw [hg];exact nl_ BK389 : gb389 ≠ gb390));have NB390_389:=qo.mk ((by rw [hg];exact ng_ BK389 : gb390 ≠ gb389));replace BK389:=bb_ BK389 hb;replace HB:=hs_ HB hb;clear hb hbox hg;have hnb45:=NB389_390.out;have hnc45:=NB390_389.out;obtain ⟨hcz46_0,hcz46_1,hfz46_0,hfz46_1⟩:=c2f_ BK389.out)|((with_reducible refine gate_callee (f:=40) rfl ?_);refine goesL_ (some 8) rfl rfl Try.func40 (by kernel_rfl) rfl #[.agg #[.slice A0_0 l0_0.length c0_0,.slice A0_1 l0_1.length c0_1]] rfl sm_ ?_;(with_reducible refine (impl_DeviceOk.calls k _ _ l0_0 _ _ l0_1 false _ ?side1 ?side2 ?side3 ?side4 A2.out).mono ?_);(case side1=>repeat (first|exact (Kd.C_below HR0_0.out HB.out)|(with_reducible refine Kd.C_alloc ?_ _)|(with_reducible refine Kd.C_drewN ?_ _)|(with_reducible refine Kd.C_drew ?_)));(case side2=>exact HC0_0.out);(case side3=>repeat (first|exact (Kd.C_below HR0_1.out HB.out)|(with_reducible refine Kd.C_alloc ?_ _)|(with_reducible refine Kd.C_drewN ?_ _)|(with_reducible refine Kd.C_drew ?_)));(case side4=>exact HC0_1.out);rintro e w47 ⟨rfl,hb⟩;refine ⟨_,rfl,?_⟩;replace BK389:=bb_ BK389 hb;replace BK390:=bb_ BK390 hb;replace HB:=hs_ HB hb;(try clear hb);(try clear hb2);(try clear hk);(try clear hi);obtain ⟨hcz48_0,hcz48_1,hfz48_0,hfz48_1⟩:=c2f_ BK390.out))
 refine bodyPost_ret (results_ct rfl _ _ gb390 32 #[.slice none 0 0,.slice none 0 0] (0,0) _ rfl (by (with_reducible repeat (first|refine qb ?_ _|refine qe ?_|refine qc ?_ _));refine blk_put (cs:=#[.slice none 0 0,.slice none 0 0]) ?_ 1 _ rfl;(with_reducible repeat (first|refine qb ?_ _|refine qe ?_|refine qc ?_ _));refine blk_put (cs:=#[.slice none 0 0,.slice none 0 0]) ?_ 0 _ rfl;(with_reducible repeat (first|refine qb ?_ _|refine qe ?_|refine qc ?_ _));exact BK390.out) Try.underlying32 rfl (by kernel_rfl)) rfl ?_
 exact ⟨_,_,rt_,by first|exact Kd.R_nil _ _ _ _ _|exact Kd.N_nil _ _ _ _ _|exact Kd.V_nil _ _ _ _ _|exact Kd.Q_nil _ _ _ _ _|exact Kd.S_nil _ _ _ _ _,by first|exact Kd.R_nil _ _ _ _ _|exact Kd.N_nil _ _ _ _ _|exact Kd.V_nil _ _ _ _ _|exact Kd.Q_nil _ _ _ _ _|exact Kd.S_nil _ _ _ _ _,hx_⟩

/-! ### impl_ReadSector: function 80 -/
def impl_ReadSector.f (k : Nat) (l0_0 : List ByteArray) (l0_1 : List (S96)) (a1 : Int) : Option (ByteArray × Bool):=(impl_DeviceOk.f k l0_0 l0_1).bind fun t403=>(if t403 = true then ((impl_in.f a1 0 (wrap64 ((l0_0.length : Int) - 1))).bind fun t404=>(if t404 = true then ((impl_readSector.f k l0_0 l0_1 a1).bind fun t405=>(some (t405,true))) else (some ((⟨#[]⟩ : ByteArray),false)))) else (some ((⟨#[]⟩ : ByteArray),false)))
theorem impl_ReadSector.mono : ∀ a0 a1 a2 k,LeO (impl_ReadSector.f k a0 a1 a2) (impl_ReadSector.f (k + 1) a0 a1 a2):=by
 intro a0 a1 a2 k
 unfold impl_ReadSector.f
 repeat' first|(with_reducible first|exact impl_DeviceOk.mono _ _ _|exact impl_readSector.mono _ _ _ _|exact LeO.refl _|exact LeO.none _|refine LeO.ite ?_ ?_|refine LeO.bind ?_ (fun _=>?_))|exact impl_DeviceOk.mono _ _ _|exact impl_readSector.mono _ _ _ _|exact LeO.none _|refine LeO.ite ?_ ?_|refine LeO.bind ?_ (fun _=>?_)
set_option maxHeartbeats 8000000 in
set_option maxRecDepth 100000 in
theorem impl_ReadSector.calls (k : Nat) (A0_0 : Option Addr) (c0_0 : Nat) (l0_0 : List ByteArray) (A0_1 : Option Addr) (c0_1 : Nat) (l0_1 : List (S96)) (a1 : Int) (r1 : ByteArray) (r2 : Bool) (w : World) (hr0_0 : Kd.C Kd.string w A0_0 l0_0.length l0_0) (hc0_0 : l0_0.length ≤ c0_0) (hr0_1 : Kd.C k96 w A0_1 l0_1.length l0_1) (hc0_1 : l0_1.length ≤ c0_1) (h : impl_ReadSector.f k l0_0 l0_1 a1 = some (r1,r2)) :
  Calls Try.prog 80 #[.agg #[.slice A0_0 l0_0.length c0_0,.slice A0_1 l0_1.length c0_1],.int .i64 a1] w fun e w'=>e = .returned (.tuple #[.string r1,.bool r2]) ∧ Below w.heap.size w w':=by
 have hu32:=Try.underlying32
 have HR0_0:=qo.mk hr0_0
 have HC0_0:=qo.mk hc0_0
 clear hr0_0 hc0_0
 have HR0_1:=qo.mk hr0_1
 have HC0_1:=qo.mk hc0_1
 clear hr0_1 hc0_1
 have HB:=qo.mk (Below.refl w.heap.size w)
 have H : ((impl_DeviceOk.f k l0_0 l0_1).bind fun t403=>(if t403 = true then ((impl_in.f a1 0 (wrap64 ((l0_0.length : Int) - 1))).bind fun t404=>(if t404 = true then ((impl_readSector.f k l0_0 l0_1 a1).bind fun t405=>(some (t405,true))) else (some ((⟨#[]⟩ : ByteArray),false)))) else (some ((⟨#[]⟩ : ByteArray),false)))) = some (r1,r2):=h
 clear h
 replace H:=Option.bind_eq_some_iff.mp H
 obtain ⟨t403,A30,H⟩:=H
 replace H : (if t403 = true then ((impl_in.f a1 0 (wrap64 ((l0_0.length : Int) - 1))).bind fun t404=>(if t404 = true then ((impl_readSector.f k l0_0 l0_1 a1).bind fun t405=>(some (t405,true))) else (some ((⟨#[]⟩ : ByteArray),false)))) else (some ((⟨#[]⟩ : ByteArray),false))) = some (r1,r2):=H
 have A3:=qo.mk A30
 clear A30
 by_cases c4 : t403 = true
 ·subst c4
  have H1 : ((impl_in.f a1 0 (wrap64 ((l0_0.length : Int) - 1))).bind fun t404=>(if t404 = true then ((impl_readSector.f k l0_0 l0_1 a1).bind fun t405=>(some (t405,true))) else (some ((⟨#[]⟩ : ByteArray),false)))) = some (r1,r2):=by rw [if_pos rfl] at H;exact H
  clear H
  have H:=H1
  clear H1
  replace H:=Option.bind_eq_some_iff.mp H
  obtain ⟨t404,A50,H⟩:=H
  replace H : (if t404 = true then ((impl_readSector.f k l0_0 l0_1 a1).bind fun t405=>(some (t405,true))) else (some ((⟨#[]⟩ : ByteArray),false))) = some (r1,r2):=H
  have A5:=qo.mk A50
  clear A50
  by_cases c6 : t404 = true
  ·subst c6
   have H1 : ((impl_readSector.f k l0_0 l0_1 a1).bind fun t405=>(some (t405,true))) = some (r1,r2):=by rw [if_pos rfl] at H;exact H
   clear H
   have H:=H1
   clear H1
   replace H:=Option.bind_eq_some_iff.mp H
   obtain ⟨t405,A70,H⟩:=H
   replace H : (some (t405,true)) = some (r1,r2):=H
   have A7:=qo.mk A70
   clear A70
   simp only [Option.some.injEq,Prod.mk.injEq] at H
   obtain ⟨rfl,rfl⟩:=H
   go_enter Try.func80,Try.ntmps80
   go_wp2_with (first|((with_reducible refine gate_dst (N:=2) rfl ?_);(try (refine gate_guard (by rfl) ?_;dsimp only));refine box_event ?hg (N:=2) ?hd (cs:=#[.slice A0_0 l0_0.length c0_0,.slice A0_1 l0_1.length c0_1]) (t:=32) ?hr ?_;(case hd=>rfl);(case hg=>rfl);(case hr=>first|(go_simp;done)|(go_simp;rfl));intro gb402 hg w8 hbox hb;have BK402:=qo.mk (hbox);have GW402:=hl_ (w:=w) hg;have GE402:=hl_ (w:=w) hg;replace HB:=hs_ HB hb;clear hb hbox hg;obtain ⟨hcz9_0,hcz9_1,hfz9_0,hfz9_1⟩:=c2f_ BK402.out)|((with_reducible refine gate_callee (f:=40) rfl ?_);refine goesL_ (some 7) rfl rfl Try.func40 (by kernel_rfl) rfl #[.agg #[.slice A0_0 l0_0.length c0_0,.slice A0_1 l0_1.length c0_1]] rfl sm_ ?_;(with_reducible refine (impl_DeviceOk.calls k _ _ l0_0 _ _ l0_1 true _ ?side1 ?side2 ?side3 ?side4 A3.out).mono ?_);(case side1=>repeat (first|exact (Kd.C_below HR0_0.out HB.out)|(with_reducible refine Kd.C_alloc ?_ _)|(with_reducible refine Kd.C_drewN ?_ _)|(with_reducible refine Kd.C_drew ?_)));(case side2=>exact HC0_0.out);(case side3=>repeat (first|exact (Kd.C_below HR0_1.out HB.out)|(with_reducible refine Kd.C_alloc ?_ _)|(with_reducible refine Kd.C_drewN ?_ _)|(with_reducible refine Kd.C_drew ?_)));(case side4=>exact HC0_1.out);rintro e w10 ⟨rfl,hb⟩;refine ⟨_,rfl,?_⟩;replace BK402:=bb_ BK402 hb;replace HB:=hs_ HB hb;(try clear hb);(try clear hb2);(try clear hk);(try clear hi);obtain ⟨hcz11_0,hcz11_1,hfz11_0,hfz11_1⟩:=c2f_ BK402.out)|(go_at_call 42;(with_reducible refine (impl_in.calls a1 0 (wrap64 ((l0_0.length : Int) - 1)) true _ A5.out).mono ?_);rintro e w' ⟨rfl,⟨nd,rfl⟩⟩)|((with_reducible refine gate_callee (f:=72) rfl ?_);refine goesL_ (some 20) rfl rfl Try.func72 (by kernel_rfl) rfl #[.agg #[.slice A0_0 l0_0.length c0_0,.slice A0_1 l0_1.length c0_1],.int .i64 a1] rfl sm_ ?_;(with_reducible refine (impl_readSector.calls k _ _ l0_0 _ _ l0_1 a1 t405 _ ?side1 ?side2 ?side3 ?side4 A7.out).mono ?_);(case side1=>repeat (first|exact (Kd.C_below HR0_0.out hx_)|(with_reducible refine Kd.C_alloc ?_ _)|(with_reducible refine Kd.C_drewN ?_ _)|(with_reducible refine Kd.C_drew ?_)));(case side2=>exact HC0_0.out);(case side3=>repeat (first|exact (Kd.C_below HR0_1.out hx_)|(with_reducible refine Kd.C_alloc ?_ _)|(with_reducible refine Kd.C_drewN ?_ _)|(with_reducible refine Kd.C_drew ?_)));(case side4=>exact HC0_1.out);rintro e w12 ⟨rfl,hb⟩;refine ⟨_,rfl,?_⟩;replace BK402:=bb_ BK402 hb;replace HB:=hs_ HB hb;(try clear hb);(try clear hb2);(try clear hk);(try clear hi)))
   go_ret2
   exact ⟨rt_,hx_⟩
  replace c6:=Bool.eq_false_iff.mpr c6
  subst c6
  have H1 : (some ((⟨#[]⟩ : ByteArray),false)) = some (r1,r2):=by rw [if_neg (show ¬ (false = true) by decide)] at H;exact H
  clear H
  have H:=H1
  clear H1
  simp only [Option.some.injEq,Prod.mk.injEq] at H
  obtain ⟨rfl,rfl⟩:=H
  go_enter Try.func80,Try.ntmps80
  go_wp2_with (first|((with_reducible refine gate_dst (N:=2) rfl ?_);(try (refine gate_guard (by rfl) ?_;dsimp only));refine box_event ?hg (N:=2) ?hd (cs:=#[.slice A0_0 l0_0.length c0_0,.slice A0_1 l0_1.length c0_1]) (t:=32) ?hr ?_;(case hd=>rfl);(case hg=>rfl);(case hr=>first|(go_simp;done)|(go_simp;rfl));intro gb402 hg w13 hbox hb;have BK402:=qo.mk (hbox);have GW402:=hl_ (w:=w) hg;have GE402:=hl_ (w:=w) hg;replace HB:=hs_ HB hb;clear hb hbox hg;obtain ⟨hcz14_0,hcz14_1,hfz14_0,hfz14_1⟩:=c2f_ BK402.out)|((with_reducible refine gate_callee (f:=40) rfl ?_);refine goesL_ (some 7) rfl rfl Try.func40 (by kernel_rfl) rfl #[.agg #[.slice A0_0 l0_0.length c0_0,.slice A0_1 l0_1.length c0_1]] rfl sm_ ?_;(with_reducible refine (impl_DeviceOk.calls k _ _ l0_0 _ _ l0_1 true _ ?side1 ?side2 ?side3 ?side4 A3.out).mono ?_);(case side1=>repeat (first|exact (Kd.C_below HR0_0.out HB.out)|(with_reducible refine Kd.C_alloc ?_ _)|(with_reducible refine Kd.C_drewN ?_ _)|(with_reducible refine Kd.C_drew ?_)));(case side2=>exact HC0_0.out);(case side3=>repeat (first|exact (Kd.C_below HR0_1.out HB.out)|(with_reducible refine Kd.C_alloc ?_ _)|(with_reducible refine Kd.C_drewN ?_ _)|(with_reducible refine Kd.C_drew ?_)));(case side4=>exact HC0_1.out);rintro e w15 ⟨rfl,hb⟩;refine ⟨_,rfl,?_⟩;replace BK402:=bb_ BK402 hb;replace HB:=hs_ HB hb;(try clear hb);(try clear hb2);(try clear hk);(try clear hi);obtain ⟨hcz16_0,hcz16_1,hfz16_0,hfz16_1⟩:=c2f_ BK402.out)|(go_at_call 42;(with_reducible refine (impl_in.calls a1 0 (wrap64 ((l0_0.length : Int) - 1)) false _ A5.out).mono ?_);rintro e w' ⟨rfl,⟨nd,rfl⟩⟩))
  go_ret2
  exact ⟨rt_,hx_⟩
 replace c4:=Bool.eq_false_iff.mpr c4
 subst c4
 have H1 : (some ((⟨#[]⟩ : ByteArray),false)) = some (r1,r2):=by rw [if_neg (show ¬ (false = true) by decide)] at H;exact H
 clear H
 have H:=H1
 clear H1
 simp only [Option.some.injEq,Prod.mk.injEq] at H
 obtain ⟨rfl,rfl⟩:=H
 go_enter Try.func80,Try.ntmps80
 go_wp2_with (first|((with_reducible refine gate_dst (N:=2) rfl ?_);(try (refine gate_guard (by rfl) ?_;dsimp only));refine box_event ?hg (N:=2) ?hd (cs:=#[.slice A0_0 l0_0.length c0_0,.slice A0_1 l0_1.length c0_1]) (t:=32) ?hr ?_;(case hd=>rfl);(case hg=>rfl);(case hr=>first|(go_simp;done)|(go_simp;rfl));intro gb402 hg w17 hbox hb;have BK402:=qo.mk (hbox);have GW402:=hl_ (w:=w) hg;have GE402:=hl_ (w:=w) hg;replace HB:=hs_ HB hb;clear hb hbox hg;obtain ⟨hcz18_0,hcz18_1,hfz18_0,hfz18_1⟩:=c2f_ BK402.out)|((with_reducible refine gate_callee (f:=40) rfl ?_);refine goesL_ (some 7) rfl rfl Try.func40 (by kernel_rfl) rfl #[.agg #[.slice A0_0 l0_0.length c0_0,.slice A0_1 l0_1.length c0_1]] rfl sm_ ?_;(with_reducible refine (impl_DeviceOk.calls k _ _ l0_0 _ _ l0_1 false _ ?side1 ?side2 ?side3 ?side4 A3.out).mono ?_);(case side1=>repeat (first|exact (Kd.C_below HR0_0.out HB.out)|(with_reducible refine Kd.C_alloc ?_ _)|(with_reducible refine Kd.C_drewN ?_ _)|(with_reducible refine Kd.C_drew ?_)));(case side2=>exact HC0_0.out);(case side3=>repeat (first|exact (Kd.C_below HR0_1.out HB.out)|(with_reducible refine Kd.C_alloc ?_ _)|(with_reducible refine Kd.C_drewN ?_ _)|(with_reducible refine Kd.C_drew ?_)));(case side4=>exact HC0_1.out);rintro e w19 ⟨rfl,hb⟩;refine ⟨_,rfl,?_⟩;replace BK402:=bb_ BK402 hb;replace HB:=hs_ HB hb;(try clear hb);(try clear hb2);(try clear hk);(try clear hi)))
 go_ret2
 exact ⟨rt_,hx_⟩

/-! ### impl_Unsealed: function 96 -/
def impl_Unsealed.f (k : Nat) (a0 : ByteArray) : Option (ByteArray × Bool):=if (a0.size : Int) < 4 then (some ((⟨#[]⟩ : ByteArray),false)) else (if 0 ≤ (wrap64 ((a0.size : Int) - 4)) then (if (wrap64 ((a0.size : Int) - 4)) ≤ (a0.size : Int) then ((impl_Sealed.f k (a0.extract 0 ((wrap64 ((a0.size : Int) - 4)) : Int).toNat)).bind fun bt406=>(if bt406.2 = true then (if bt406.1.toList = a0.toList then (some (a0.extract 0 ((wrap64 ((a0.size : Int) - 4)) : Int).toNat,true)) else (some ((⟨#[]⟩ : ByteArray),false))) else (some ((⟨#[]⟩ : ByteArray),false)))) else (none)) else (none))
theorem impl_Unsealed.mono : ∀ a0 k,LeO (impl_Unsealed.f k a0) (impl_Unsealed.f (k + 1) a0):=by
 intro a0 k
 unfold impl_Unsealed.f
 repeat' first|(with_reducible first|exact impl_Sealed.mono _ _|exact LeO.refl _|exact LeO.none _|refine LeO.ite ?_ ?_|refine LeO.bind ?_ (fun _=>?_))|exact impl_Sealed.mono _ _|exact LeO.none _|refine LeO.ite ?_ ?_|refine LeO.bind ?_ (fun _=>?_)
set_option maxHeartbeats 8000000 in
set_option maxRecDepth 100000 in
theorem impl_Unsealed.calls (k : Nat) (a0 : ByteArray) (r1 : ByteArray) (r2 : Bool) (w : World) (h : impl_Unsealed.f k a0 = some (r1,r2)) :
  Calls Try.prog 96 #[.string a0] w fun e w'=>e = .returned (.tuple #[.string r1,.bool r2]) ∧ Below w.heap.size w w':=by
 have HB:=qo.mk (Below.refl w.heap.size w)
 have H : (if (a0.size : Int) < 4 then (some ((⟨#[]⟩ : ByteArray),false)) else (if 0 ≤ (wrap64 ((a0.size : Int) - 4)) then (if (wrap64 ((a0.size : Int) - 4)) ≤ (a0.size : Int) then ((impl_Sealed.f k (a0.extract 0 ((wrap64 ((a0.size : Int) - 4)) : Int).toNat)).bind fun bt406=>(if bt406.2 = true then (if bt406.1.toList = a0.toList then (some (a0.extract 0 ((wrap64 ((a0.size : Int) - 4)) : Int).toNat,true)) else (some ((⟨#[]⟩ : ByteArray),false))) else (some ((⟨#[]⟩ : ByteArray),false)))) else (none)) else (none))) = some (r1,r2):=h
 clear h
 by_cases c2 : (a0.size : Int) < 4
 ·rw [if_pos c2] at H
  have c2b0 : decide ((a0.size : Int) < 4) = true:=decide_eq_true c2
  have c2b1 : decide (a0.size < 4) = true:=decide_eq_true (by omega)
  clear c2
  simp only [Option.some.injEq,Prod.mk.injEq] at H
  obtain ⟨rfl,rfl⟩:=H
  go_enter Try.func96,Try.ntmps96
  go_wp2
  go_ret2
  exact ⟨rt_,hx_⟩
 rw [if_neg c2] at H
 have c2b0 : decide ((a0.size : Int) < 4) = false:=decide_eq_false c2
 have c2b1 : decide (a0.size < 4) = false:=decide_eq_false (by omega)
 clear c2
 obtain ⟨ji3,hji3⟩ : ∃ j_ : Int,(wrap64 ((a0.size : Int) - 4)) = j_:=⟨_,rfl⟩
 replace H : (if 0 ≤ (ji3) then (if (ji3) ≤ (a0.size : Int) then ((impl_Sealed.f k (a0.extract 0 ((ji3) : Int).toNat)).bind fun bt406=>(if bt406.2 = true then (if bt406.1.toList = a0.toList then (some (a0.extract 0 ((ji3) : Int).toNat,true)) else (some ((⟨#[]⟩ : ByteArray),false))) else (some ((⟨#[]⟩ : ByteArray),false)))) else (none)) else (none)) = some (r1,r2):=by first|(rw [hji3] at H;exact H)|(simp only [hji3] at H ⊢;exact H)
 have hji3w : (IntKind.i64.wrap ((a0.size : Int) - 4)) = ji3:=(i64_w _).trans hji3
 by_cases c4 : 0 ≤ (ji3)
 ·rw [if_pos c4] at H
  have c4b0:=eq_true c4
  have c4b1 : decide (0 ≤ (ji3)) = true:=decide_eq_true c4
  clear c4
  by_cases c5 : (ji3) ≤ (a0.size : Int)
  ·rw [if_pos c5] at H
   have c5b0:=eq_true c5
   have c5b1 : decide ((ji3) ≤ (a0.size : Int)) = true:=decide_eq_true c5
   clear c5
   replace H:=Option.bind_eq_some_iff.mp H
   obtain ⟨⟨t406,t407⟩,A60,H⟩:=H
   replace H : (if t407 = true then (if t406.toList = a0.toList then (some (a0.extract 0 ((ji3) : Int).toNat,true)) else (some ((⟨#[]⟩ : ByteArray),false))) else (some ((⟨#[]⟩ : ByteArray),false))) = some (r1,r2):=H
   have A6:=qo.mk A60
   clear A60
   by_cases c7 : t407 = true
   ·subst c7
    have H1 : (if t406.toList = a0.toList then (some (a0.extract 0 ((ji3) : Int).toNat,true)) else (some ((⟨#[]⟩ : ByteArray),false))) = some (r1,r2):=by rw [if_pos rfl] at H;exact H
    clear H
    have H:=H1
    clear H1
    by_cases c8 : t406.toList = a0.toList
    ·rw [if_pos c8] at H
     have c8b0 : (t406.toList == a0.toList) = true:=beq_iff_eq.mpr c8
     have c8b1 : (t406.toList != a0.toList) = false:=bne_eq_false_iff_eq.mpr c8
     clear c8
     simp only [Option.some.injEq,Prod.mk.injEq] at H
     obtain ⟨rfl,rfl⟩:=H
     go_enter Try.func96,Try.ntmps96
     go_wp2_with (first|((with_reducible refine gate_callee (f:=92) rfl ?_);refine goesL_ (some 17) rfl rfl Try.func92 (by kernel_rfl) rfl #[.string (a0.extract 0 ((ji3) : Int).toNat)] rfl (by (try simp only [List.map_toArray,List.map_cons,List.map_nil]);first|done|(simp only [hji3];rfl)|rfl|(simp only [List.length_drop,List.length_take];rfl)) ?_;(with_reducible refine (impl_Sealed.calls k (a0.extract 0 ((ji3) : Int).toNat) t406 true _ A6.out).mono ?_);rintro e w9 ⟨rfl,hb⟩;refine ⟨_,rfl,?_⟩;replace HB:=hs_ HB hb;(try clear hb);(try clear hb2);(try clear hk);(try clear hi)))
     go_ret2
     exact ⟨by first|rfl|(simp [errW_none,errW_some] <;> rfl)|(simp only [← hji3];first|rfl|(simp [errW_none,errW_some] <;> rfl))|(simp [*,errW_none,errW_some] <;> rfl),hx_⟩
    rw [if_neg c8] at H
    have c8b0 : (t406.toList == a0.toList) = false:=beq_eq_false_iff_ne.mpr c8
    have c8b1 : (t406.toList != a0.toList) = true:=bne_iff_ne.mpr c8
    simp only [Option.some.injEq,Prod.mk.injEq] at H
    obtain ⟨rfl,rfl⟩:=H
    go_enter Try.func96,Try.ntmps96
    go_wp2_with (first|((with_reducible refine gate_callee (f:=92) rfl ?_);refine goesL_ (some 17) rfl rfl Try.func92 (by kernel_rfl) rfl #[.string (a0.extract 0 ((ji3) : Int).toNat)] rfl (by (try simp only [List.map_toArray,List.map_cons,List.map_nil]);first|done|(simp only [hji3];rfl)|rfl|(simp only [List.length_drop,List.length_take];rfl)) ?_;(with_reducible refine (impl_Sealed.calls k (a0.extract 0 ((ji3) : Int).toNat) t406 true _ A6.out).mono ?_);rintro e w10 ⟨rfl,hb⟩;refine ⟨_,rfl,?_⟩;replace HB:=hs_ HB hb;(try clear hb);(try clear hb2);(try clear hk);(try clear hi)))
    go_ret2
    exact ⟨by first|rfl|(simp [errW_none,errW_some] <;> rfl)|(simp only [← hji3];first|rfl|(simp [errW_none,errW_some] <;> rfl))|(simp [*,errW_none,errW_some] <;> rfl),hx_⟩
   replace c7:=Bool.eq_false_iff.mpr c7
   subst c7
   have H1 : (some ((⟨#[]⟩ : ByteArray),false)) = some (r1,r2):=by rw [if_neg (show ¬ (false = true) by decide)] at H;exact H
   clear H
   have H:=H1
   clear H1
   simp only [Option.some.injEq,Prod.mk.injEq] at H
   obtain ⟨rfl,rfl⟩:=H
   go_enter Try.func96,Try.ntmps96
   go_wp2_with (first|((with_reducible refine gate_callee (f:=92) rfl ?_);refine goesL_ (some 17) rfl rfl Try.func92 (by kernel_rfl) rfl #[.string (a0.extract 0 ((ji3) : Int).toNat)] rfl (by (try simp only [List.map_toArray,List.map_cons,List.map_nil]);first|done|(simp only [hji3];rfl)|rfl|(simp only [List.length_drop,List.length_take];rfl)) ?_;(with_reducible refine (impl_Sealed.calls k (a0.extract 0 ((ji3) : Int).toNat) t406 false _ A6.out).mono ?_);rintro e w11 ⟨rfl,hb⟩;refine ⟨_,rfl,?_⟩;replace HB:=hs_ HB hb;(try clear hb);(try clear hb2);(try clear hk);(try clear hi)))
   go_ret2
   exact ⟨by first|rfl|(simp [errW_none,errW_some] <;> rfl)|(simp only [← hji3];first|rfl|(simp [errW_none,errW_some] <;> rfl))|(simp [*,errW_none,errW_some] <;> rfl),hx_⟩
  rw [if_neg c5] at H
  exact absurd H (by simp)
 rw [if_neg c4] at H
 exact absurd H (by simp)

/-- A state of type 132 at block g of W; what its slices lead to came in by w0. -/
def IsS132 (w0 W : World) (g : Nat) (f0 : ByteArray) (f1 : Int) (f2 : Bool) : Prop:=W.heap[g]? = some (.cells #[.string f0,.int .i64 f1,.bool f2] 132 (0,0)) ∧ w0.heap.size ≤ g
theorem IsS132.grown {w0 W : World} {g : Nat} {f0 : ByteArray} {f1 : Int} {f2 : Bool} {W1 : World} {row : Option Nat} (h : IsS132 w0 W g f0 f1 f2) (hw : W.grownBy W1 row) (hne : some g ≠ row) : IsS132 w0 W1 g f0 f1 f2:=by
 obtain ⟨hb,hg⟩:=h
 exact ⟨blk_grown hb hw hne,hg⟩
theorem IsS132.kept {w0 W : World} {g : Nat} {f0 : ByteArray} {f1 : Int} {f2 : Bool} {W1 : World} {S : Nat → Prop} (h : IsS132 w0 W g f0 f1 f2) (hk : Kept W W1 S) (hne : ¬ S g) : IsS132 w0 W1 g f0 f1 f2:=by
 obtain ⟨hb,hg⟩:=h
 exact ⟨blk_kept hb hk hne,hg⟩
theorem IsS132.below {w0 W : World} {g : Nat} {f0 : ByteArray} {f1 : Int} {f2 : Bool} {W1 : World} (h : IsS132 w0 W g f0 f1 f2) (hw : Below W.heap.size W W1) : IsS132 w0 W1 g f0 f1 f2:=h.grown (grown_of_below hw none) (by simp)
theorem IsS132.alloc {w0 W : World} {g : Nat} {f0 : ByteArray} {f1 : Int} {f2 : Bool} (h : IsS132 w0 W g f0 f1 f2) (o : Obj) : IsS132 w0 (W.alloc o) g f0 f1 f2:=h.below (qf (Below.refl _ _) o)
theorem IsS132.drewN {w0 W : World} {g : Nat} {f0 : ByteArray} {f1 : Int} {f2 : Bool} (h : IsS132 w0 W g f0 f1 f2) (m : Nat) : IsS132 w0 (W.drewN m) g f0 f1 f2:=h
theorem IsS132.drew {w0 W : World} {g : Nat} {f0 : ByteArray} {f1 : Int} {f2 : Bool} (h : IsS132 w0 W g f0 f1 f2) : IsS132 w0 W.drew g f0 f1 f2:=h
theorem IsS132.at_ {w0 W : World} {g : Nat} {f0 : ByteArray} {f1 : Int} {f2 : Bool} {w' : World} {m : Nat} (hq : W.drewN m = w') (h : IsS132 w0 W g f0 f1 f2) : IsS132 w0 w' g f0 f1 f2:=by subst hq;exact IsS132.drewN h m
theorem IsS132.apart {w0 W : World} {g : Nat} {f0 : ByteArray} {f1 : Int} {f2 : Bool} {α : Type} {d : Kd α} {e : Nat} {base : Nat} {ok : Nat → Prop} {v : Value} {xs : List α} (h : IsS132 w0 W g f0 f1 f2) (ho : d.R e W base ok v xs) (ht : ∀ q,q ∈ e :: d.E → q ≠ 132) : d.R e W base (fun k=>ok k ∧ k ≠ g) v xs:=by
 obtain ⟨hb,hg⟩:=h
 exact Kd.R_types ho hb ht
theorem IsS132.own_ne {w0 W : World} {g : Nat} {f0 : ByteArray} {f1 : Int} {f2 : Bool} {α : Type} {d : Kd α} {e : Nat} {base : Nat} {ok : Nat → Prop} {v : Value} {xs : List α} (h : IsS132 w0 W g f0 f1 f2) (ho : d.R e W base ok v xs) (ht : e ≠ 132) : some g ≠ v.ownBlock:=by
 obtain ⟨hb,hg⟩:=h
 exact Kd.R_ne ho hb ht
theorem IsS132.apartS {w0 W : World} {g : Nat} {f0 : ByteArray} {f1 : Int} {f2 : Bool} {α : Type} {d : Kd α} {e : Nat} {base : Nat} {ok : Nat → Prop} {v : Value} {xs : List α} (h : IsS132 w0 W g f0 f1 f2) (ho : d.S e W base ok v xs) (ht : ∀ q,q ∈ e :: d.E → q ≠ 132) : d.S e W base (fun k=>ok k ∧ k ≠ g) v xs:=by
 obtain ⟨hb,hg⟩:=h
 exact Kd.S_types ho hb ht
theorem IsS132.lt {w0 W : World} {g : Nat} {f0 : ByteArray} {f1 : Int} {f2 : Bool} (h : IsS132 w0 W g f0 f1 f2) : g < W.heap.size:=by
 obtain ⟨hb,hg⟩:=h
 exact blk_lt hb
theorem IsS132.ge {w0 W : World} {g : Nat} {f0 : ByteArray} {f1 : Int} {f2 : Bool} (h : IsS132 w0 W g f0 f1 f2) : w0.heap.size ≤ g:=by
 obtain ⟨hb,hg⟩:=h
 exact hg
theorem IsS132.ne_blk {w0 W : World} {g : Nat} {f0 : ByteArray} {f1 : Int} {f2 : Bool} {a : Nat} {cs : Array Value} {t : TypeId} {fr : Nat × Nat} (h : IsS132 w0 W g f0 f1 f2) (hb2 : W.heap[a]? = some (.cells cs t fr)) (ht : t ≠ 132) : g ≠ a:=by
 obtain ⟨hb,hg⟩:=h
 rintro rfl
 rw [hb] at hb2
 injection hb2 with hb2
 injection hb2 with _ ht2
 exact ht ht2.symm
theorem IsS132.far {w0 W : World} {g : Nat} {f0 : ByteArray} {f1 : Int} {f2 : Bool} {p : Addr} (h : IsS132 w0 W g f0 f1 f2) (hne : g ≠ p.block) (u : Value) : IsS132 w0 (W.setCell p u) g f0 f1 f2:=by
 obtain ⟨hb,hg⟩:=h
 exact ⟨blk_far hb hne u,hg⟩
theorem cellS132_0 {W : World} {g : Nat} {f0 : ByteArray} {f1 : Int} {f2 : Bool} (h : W.heap[g]? = some (.cells #[.string f0,.int .i64 f1,.bool f2] 132 (0,0))) : W.cell? ⟨g,0,none⟩ = some (.string f0):=(qh h 0).trans rfl
theorem IsS132.set_0 {w0 W : World} {g : Nat} {f0 : ByteArray} {f1 : Int} {f2 : Bool} (h : IsS132 w0 W g f0 f1 f2) (x : ByteArray) : IsS132 w0 (W.setCell ⟨g,0,none⟩ (.string x)) g x f1 f2:=by
 obtain ⟨hb,hg⟩:=h
 exact ⟨by simpa using blk_set hb 0 (.string x),hg⟩
theorem cellS132_1 {W : World} {g : Nat} {f0 : ByteArray} {f1 : Int} {f2 : Bool} (h : W.heap[g]? = some (.cells #[.string f0,.int .i64 f1,.bool f2] 132 (0,0))) : W.cell? ⟨g,1,none⟩ = some (.int .i64 f1):=(qh h 1).trans rfl
theorem IsS132.set_1 {w0 W : World} {g : Nat} {f0 : ByteArray} {f1 : Int} {f2 : Bool} (h : IsS132 w0 W g f0 f1 f2) (x : Int) : IsS132 w0 (W.setCell ⟨g,1,none⟩ (.int .i64 x)) g f0 x f2:=by
 obtain ⟨hb,hg⟩:=h
 exact ⟨by simpa using blk_set hb 1 (.int .i64 x),hg⟩
theorem cellS132_2 {W : World} {g : Nat} {f0 : ByteArray} {f1 : Int} {f2 : Bool} (h : W.heap[g]? = some (.cells #[.string f0,.int .i64 f1,.bool f2] 132 (0,0))) : W.cell? ⟨g,2,none⟩ = some (.bool f2):=(qh h 2).trans rfl
theorem IsS132.set_2 {w0 W : World} {g : Nat} {f0 : ByteArray} {f1 : Int} {f2 : Bool} (h : IsS132 w0 W g f0 f1 f2) (x : Bool) : IsS132 w0 (W.setCell ⟨g,2,none⟩ (.bool x)) g f0 f1 x:=by
 obtain ⟨hb,hg⟩:=h
 exact ⟨by simpa using blk_set hb 2 (.bool x),hg⟩
theorem IsS132.new (w0 W : World) (f0 : ByteArray) (f1 : Int) (f2 : Bool) (hB : Below w0.heap.size w0 W) : IsS132 w0 (W.alloc (.cells #[.string f0,.int .i64 f1,.bool f2] 132)) W.heap.size f0 f1 f2:=⟨by simpa using heap_alloc_new W _,hB.size⟩

/-! ### impl_reader_one: function 97 -/
def impl_reader_one.f (s0_0 : ByteArray) (s0_1 : Int) (s0_2 : Bool) : Option (Int × ByteArray × Int × Bool):=if s0_2 = true then (some (0,s0_0,s0_1,true)) else (if s0_1 ≥ (s0_0.size : Int) then (some (0,s0_0,s0_1,true)) else (if 0 ≤ (wrap64 ((wrap64 (s0_1 + 1)) - 1)) then (if (wrap64 ((wrap64 (s0_1 + 1)) - 1)) < (s0_0.size : Int) then (some (wrap64 (bt s0_0 (wrap64 ((wrap64 (s0_1 + 1)) - 1))),s0_0,wrap64 (s0_1 + 1),s0_2)) else (none)) else (none)))
set_option maxHeartbeats 8000000 in
set_option maxRecDepth 100000 in
theorem impl_reader_one.calls (g : Nat) (s0_0 : ByteArray) (s0_1 : Int) (s0_2 : Bool) (r1 : Int) (r2 : ByteArray) (r3 : Int) (r4 : Bool) (w0 w : World) (hI : IsS132 w0 w g s0_0 s0_1 s0_2) (hB : Below w0.heap.size w0 w) (h : impl_reader_one.f s0_0 s0_1 s0_2 = some (r1,r2,r3,r4)) :
  Calls Try.prog 97 #[.pointer (some ⟨g,0,none⟩)] w fun e w'=>e = .returned (.int .i64 r1) ∧ IsS132 w0 w' g r2 r3 r4 ∧ Below w0.heap.size w0 w' ∧ KeepBut w w' g none:=by
 have HI0:=qo.mk hI
 have HK:=qo.mk (KeepBut.refl w g none)
 have HL:=qo.mk hB.size
 clear hI
 have HW0:=qo.mk hB.size
 have HB:=qo.mk hB
 clear hB
 have H : (if s0_2 = true then (some (0,s0_0,s0_1,true)) else (if s0_1 ≥ (s0_0.size : Int) then (some (0,s0_0,s0_1,true)) else (if 0 ≤ (wrap64 ((wrap64 (s0_1 + 1)) - 1)) then (if (wrap64 ((wrap64 (s0_1 + 1)) - 1)) < (s0_0.size : Int) then (some (wrap64 (bt s0_0 (wrap64 ((wrap64 (s0_1 + 1)) - 1))),s0_0,wrap64 (s0_1 + 1),s0_2)) else (none)) else (none)))) = some (r1,r2,r3,r4):=h
 clear h
 by_cases c2 : s0_2 = true
 ·subst c2
  have H1 : (some (0,s0_0,s0_1,true)) = some (r1,r2,r3,r4):=by rw [if_pos rfl] at H;exact H
  clear H
  have H:=H1
  clear H1
  simp only [Option.some.injEq,Prod.mk.injEq] at H
  obtain ⟨rfl,rfl,rfl,rfl⟩:=H
  obtain ⟨HGz3,hgz3⟩:=HI0.out
  have hcz3_0:=cellS132_0 HGz3
  have hcz3_1:=cellS132_1 HGz3
  have hcz3_2:=cellS132_2 HGz3
  have hfz3_0:=qj HGz3 0
  have hfz3_1:=qj HGz3 1
  have hfz3_2:=qj HGz3 2
  clear HGz3 hgz3
  go_enter Try.func97,Try.ntmps97
  go_wp2
  repeat (go_quiet (fail);try go_wp2)
  go_ret
  exact ⟨rt_,by repeat (first|(with_reducible first|exact HI0.out|apply IsS132.alloc|apply IsS132.drewN|apply IsS132.drew|apply IsS132.set_0|apply IsS132.set_1|apply IsS132.set_2)|exact HI0.out),by repeat (first|(with_reducible first|exact HB.out|apply qf|apply qa|apply qd|refine qg ?_ (IsS132.ge HI0.out))|exact HB.out),by repeat (first|(with_reducible first|exact HK.out|apply KeepBut.set_|apply keep_drewN|apply keep_drew|apply keep_alloc)|exact HK.out)⟩
 replace c2:=Bool.eq_false_iff.mpr c2
 subst c2
 have H1 : (if s0_1 ≥ (s0_0.size : Int) then (some (0,s0_0,s0_1,true)) else (if 0 ≤ (wrap64 ((wrap64 (s0_1 + 1)) - 1)) then (if (wrap64 ((wrap64 (s0_1 + 1)) - 1)) < (s0_0.size : Int) then (some (wrap64 (bt s0_0 (wrap64 ((wrap64 (s0_1 + 1)) - 1))),s0_0,wrap64 (s0_1 + 1),false)) else (none)) else (none))) = some (r1,r2,r3,r4):=by rw [if_neg (show ¬ (false = true) by decide)] at H;exact H
 clear H
 have H:=H1
 clear H1
 by_cases c4 : s0_1 ≥ (s0_0.size : Int)
 ·rw [if_pos c4] at H
  have c4b0 : decide ((s0_0.size : Int) ≤ s0_1) = true:=decide_eq_true c4
  clear c4
  simp only [Option.some.injEq,Prod.mk.injEq] at H
  obtain ⟨rfl,rfl,rfl,rfl⟩:=H
  obtain ⟨HGz5,hgz5⟩:=HI0.out
  have hcz5_0:=cellS132_0 HGz5
  have hcz5_1:=cellS132_1 HGz5
  have hcz5_2:=cellS132_2 HGz5
  have hfz5_0:=qj HGz5 0
  have hfz5_1:=qj HGz5 1
  have hfz5_2:=qj HGz5 2
  clear HGz5 hgz5
  go_enter Try.func97,Try.ntmps97
  go_wp2
  repeat (go_quiet (fail);try go_wp2)
  go_ret
  exact ⟨rt_,by repeat (first|(with_reducible first|exact HI0.out|apply IsS132.alloc|apply IsS132.drewN|apply IsS132.drew|apply IsS132.set_0|apply IsS132.set_1|apply IsS132.set_2)|exact HI0.out),by repeat (first|(with_reducible first|exact HB.out|apply qf|apply qa|apply qd|refine qg ?_ (IsS132.ge HI0.out))|exact HB.out),by repeat (first|(with_reducible first|exact HK.out|apply KeepBut.set_|apply keep_drewN|apply keep_drew|apply keep_alloc)|exact HK.out)⟩
 rw [if_neg c4] at H
 have c4b0 : decide ((s0_0.size : Int) ≤ s0_1) = false:=decide_eq_false c4
 clear c4
 obtain ⟨ji6,hji6⟩ : ∃ j_ : Int,(wrap64 ((wrap64 (s0_1 + 1)) - 1)) = j_:=⟨_,rfl⟩
 replace H : (if 0 ≤ (ji6) then (if (ji6) < (s0_0.size : Int) then (some (wrap64 (bt s0_0 (ji6)),s0_0,wrap64 (s0_1 + 1),false)) else (none)) else (none)) = some (r1,r2,r3,r4):=by first|(rw [hji6] at H;exact H)|(simp only [hji6] at H ⊢;exact H)
 have hji6w : (IntKind.i64.wrap ((wrap64 (s0_1 + 1)) - 1)) = ji6:=(i64_w _).trans hji6
 by_cases c7 : 0 ≤ (ji6)
 ·rw [if_pos c7] at H
  have c7b0 : decide (0 ≤ (ji6)) = true:=decide_eq_true c7
  clear c7
  by_cases c8 : (ji6) < (s0_0.size : Int)
  ·rw [if_pos c8] at H
   have c8b0 : decide ((ji6) < (s0_0.size : Int)) = true:=decide_eq_true c8
   clear c8
   simp only [Option.some.injEq,Prod.mk.injEq] at H
   obtain ⟨rfl,rfl,rfl,rfl⟩:=H
   obtain ⟨HGz10,hgz10⟩:=HI0.out
   have hcz10_0:=cellS132_0 HGz10
   have hcz10_1:=cellS132_1 HGz10
   have hcz10_2:=cellS132_2 HGz10
   have hfz10_0:=qj HGz10 0
   have hfz10_1:=qj HGz10 1
   have hfz10_2:=qj HGz10 2
   clear HGz10 hgz10
   have p9 : 0 ≤ ((ji6) : Int):=dt_
   have q9 : (ji6) < (s0_0.size : Int):=dt_
   have hx9:=bt_at s0_0 (ji6)
   replace p9:=eq_true p9
   replace q9:=eq_true q9
   go_enter Try.func97,Try.ntmps97
   go_wp2
   repeat (go_quiet (fail);try go_wp2)
   go_ret
   exact ⟨by first|rfl|(simp [errW_none,errW_some] <;> rfl)|(simp only [← hji6];first|rfl|(simp [errW_none,errW_some] <;> rfl))|(simp [*,errW_none,errW_some] <;> rfl),by repeat (first|(with_reducible first|exact HI0.out|apply IsS132.alloc|apply IsS132.drewN|apply IsS132.drew|apply IsS132.set_0|apply IsS132.set_1|apply IsS132.set_2)|exact HI0.out),by repeat (first|(with_reducible first|exact HB.out|apply qf|apply qa|apply qd|refine qg ?_ (IsS132.ge HI0.out))|exact HB.out),by repeat (first|(with_reducible first|exact HK.out|apply KeepBut.set_|apply keep_drewN|apply keep_drew|apply keep_alloc)|exact HK.out)⟩
  rw [if_neg c8] at H
  exact absurd H (by simp)
 rw [if_neg c7] at H
 exact absurd H (by simp)

/-! ### impl_ReadVar: function 104 -/
mutual
def impl_ReadVar.l0 : Nat → ByteArray → Int → Int → Int → Int → Option (Int × Int × Bool)
 | 0,_,_,_,_,_=>none
 | k + 1,x0,x1,x7,x8,x9=>if x9 < (x0.size : Int) then (impl_ReadVar.j1 k x0 x1 x7 x8 x9 (decide (x9 < (wrap64 (x1 + 5))))) else (impl_ReadVar.j1 k x0 x1 x7 x8 x9 false)
def impl_ReadVar.j1 : Nat → ByteArray → Int → Int → Int → Int → Bool → Option (Int × Int × Bool)
 | 0,_,_,_,_,_,_=>none
 | k + 1,x0,x1,x7,x8,x9,x26=>if x26 = true then (if 0 ≤ x9 then (if x9 < (x0.size : Int) then (if (wrap64 (bt x0 x9)) < 128 then (if (wrap64 (bt x0 x9)) = 0 then (if x9 > x1 then (some (0,0,false)) else (if (wrap64 (x7 + (wrap64 ((Int.tmod (wrap64 (bt x0 x9)) 128) * x8)))) > 1000000000 then (some (0,0,false)) else (some (wrap64 (x7 + (wrap64 ((Int.tmod (wrap64 (bt x0 x9)) 128) * x8))),wrap64 (x9 + 1),true)))) else (if (wrap64 (x7 + (wrap64 ((Int.tmod (wrap64 (bt x0 x9)) 128) * x8)))) > 1000000000 then (some (0,0,false)) else (some (wrap64 (x7 + (wrap64 ((Int.tmod (wrap64 (bt x0 x9)) 128) * x8))),wrap64 (x9 + 1),true)))) else (impl_ReadVar.l0 k x0 x1 (wrap64 (x7 + (wrap64 ((Int.tmod (wrap64 (bt x0 x9)) 128) * x8)))) (wrap64 (x8 * 128)) (wrap64 (x9 + 1)))) else (none)) else (none)) else (some (0,0,false))
end
def impl_ReadVar.f (k : Nat) (a0 : ByteArray) (a1 : Int) : Option (Int × Int × Bool):=(impl_in.f a1 0 (a0.size : Int)).bind fun t408=>(if t408 = true then (impl_ReadVar.l0 k a0 a1 0 1 a1) else (some (0,0,false)))
theorem impl_ReadVar.mono_l : ∀ k,(∀ y0 y1 y2 y3 y4,LeO (impl_ReadVar.l0 k y0 y1 y2 y3 y4) (impl_ReadVar.l0 (k + 1) y0 y1 y2 y3 y4)) ∧ (∀ y0 y1 y2 y3 y4 y5,LeO (impl_ReadVar.j1 k y0 y1 y2 y3 y4 y5) (impl_ReadVar.j1 (k + 1) y0 y1 y2 y3 y4 y5))
 | 0=>⟨fun _ _ _ _ _ r h=>by simp [impl_ReadVar.l0] at h,fun _ _ _ _ _ _ r h=>by simp [impl_ReadVar.j1] at h⟩
 | k + 1=>by
  obtain ⟨ih0,ih1⟩:=impl_ReadVar.mono_l k
  refine ⟨?_,?_⟩ <;> intros <;> first|unfold impl_ReadVar.l0|unfold impl_ReadVar.j1
  all_goals repeat' first|(with_reducible first|exact ih0 _ _ _ _ _|exact ih1 _ _ _ _ _ _|exact LeO.refl _|exact LeO.none _|refine LeO.ite ?_ ?_|refine LeO.bind ?_ (fun _=>?_))|exact ih0 _ _ _ _ _|exact ih1 _ _ _ _ _ _|exact LeO.none _|refine LeO.ite ?_ ?_|refine LeO.bind ?_ (fun _=>?_)
theorem impl_ReadVar.mono : ∀ a0 a1 k,LeO (impl_ReadVar.f k a0 a1) (impl_ReadVar.f (k + 1) a0 a1):=by
 intro a0 a1 k
 obtain ⟨ih0,ih1⟩:=impl_ReadVar.mono_l k
 unfold impl_ReadVar.f
 repeat' first|(with_reducible first|exact ih0 _ _ _ _ _|exact ih1 _ _ _ _ _ _|exact LeO.refl _|exact LeO.none _|refine LeO.ite ?_ ?_|refine LeO.bind ?_ (fun _=>?_))|exact ih0 _ _ _ _ _|exact ih1 _ _ _ _ _ _|exact LeO.none _|refine LeO.ite ?_ ?_|refine LeO.bind ?_ (fun _=>?_)
set_option maxHeartbeats 8000000 in
set_option maxRecDepth 100000 in
theorem impl_ReadVar.calls (k : Nat) (a0 : ByteArray) (a1 : Int) (r1 : Int) (r2 : Int) (r3 : Bool) (w : World) (h : impl_ReadVar.f k a0 a1 = some (r1,r2,r3)) :
  Calls Try.prog 104 #[.string a0,.int .i64 a1] w fun e w'=>e = .returned (.tuple #[.int .i64 r1,.int .i64 r2,.bool r3]) ∧ Drawn0 w w':=by
 have H : ((impl_in.f a1 0 (a0.size : Int)).bind fun t408=>(if t408 = true then (impl_ReadVar.l0 k a0 a1 0 1 a1) else (some (0,0,false)))) = some (r1,r2,r3):=h
 clear h
 replace H:=Option.bind_eq_some_iff.mp H
 obtain ⟨t408,A30,H⟩:=H
 replace H : (if t408 = true then (impl_ReadVar.l0 k a0 a1 0 1 a1) else (some (0,0,false))) = some (r1,r2,r3):=H
 have A3:=qo.mk A30
 clear A30
 by_cases c4 : t408 = true
 ·subst c4
  have H1 : (impl_ReadVar.l0 k a0 a1 0 1 a1) = some (r1,r2,r3):=by rw [if_pos rfl] at H;exact H
  clear H
  have H:=H1
  clear H1
  have H':=qo.mk H
  clear H
  go_enter Try.func104,Try.ntmps104
  go_wp2_with (first|((with_reducible refine gate_callee (f:=42) rfl ?_);refine goesL_ (some 14) rfl rfl Try.func42 (by kernel_rfl) rfl #[.int .i64 a1,.int .i64 0,.int .i64 (a0.size : Int)] rfl sm_ ?_;(with_reducible refine (impl_in.calls a1 0 (a0.size : Int) true _ A3.out).mono ?_);rintro e w' ⟨rfl,⟨nd,rfl⟩⟩;refine ⟨_,rfl,?_⟩))
  go_loopg [7,8,9] k (fun kq v7 v8 v9 w'=>∃ (x7_1 : Int) (x8_1 : Int) (x9_1 : Int),v7 = .int .i64 x7_1 ∧ v8 = .int .i64 x8_1 ∧ v9 = .int .i64 x9_1 ∧ qo (impl_ReadVar.l0 kq a0 a1 x7_1 x8_1 x9_1 = some (r1,r2,r3)) ∧ qo (kq ≤ k) ∧ Drawn0 w w')
  case atStart=>exact ⟨(0),(1),(a1),rs_,rs_,rs_,H',⟨Nat.le_refl _⟩,by repeat (first|exact Drawn0.refl _|apply Drawn0.step)⟩
  clear H'
  try clear c1
  try clear p2
  try clear c4
  obtain ⟨x7_1,x8_1,x9_1,rfl,rfl,rfl,HA,HK1,⟨m1,rfl⟩⟩:=hrel
  obtain _|k1:=gk
  ·exact absurd HA.out (by simp [impl_ReadVar.l0])
  have H:=HA.out
  clear HA
  simp only [impl_ReadVar.l0] at H
  have HC5:=qo.mk H
  clear H
  go_upto_region 5 with (fail)
  go_cut [26] (fun v26 wc=>∃ (kq : Nat) (x26_4 : Bool),v26 = .bool x26_4 ∧ qo (impl_ReadVar.j1 kq a0 a1 x7_1 x8_1 x9_1 x26_4 = some (r1,r2,r3)) ∧ qo (kq ≤ k1) ∧ Drawn0 w wc)
  case first =>
   have H:=HC5.out
   clear HC5
   by_cases c6 : x9_1 < (a0.size : Int)
   ·rw [if_pos c6] at H
    have c6b0 : decide (x9_1 < (a0.size : Int)) = true:=decide_eq_true c6
    clear c6
    (first|rw [c6b0]|(simp only [i64_w,i32_w];rw [c6b0])|skip)
    have H':=qo.mk H
    clear H
    go_wp2
    go_meet
    case rel=>exact ⟨_,(decide (x9_1 < (wrap64 (a1 + 5)))),rs_,H',⟨by have:=HK1.out;first|omega|exact Nat.le_refl _⟩,by repeat (first|exact Drawn0.refl _|apply Drawn0.step)⟩
   rw [if_neg c6] at H
   have c6b0 : decide (x9_1 < (a0.size : Int)) = false:=decide_eq_false c6
   clear c6
   (first|rw [c6b0]|(simp only [i64_w,i32_w];rw [c6b0])|skip)
   have H':=qo.mk H
   clear H
   go_wp2
   go_meet
   case rel=>exact ⟨_,(false),rs_,H',⟨by have:=HK1.out;first|omega|exact Nat.le_refl _⟩,by repeat (first|exact Drawn0.refl _|apply Drawn0.step)⟩
  clear HC5
  try clear c1
  try clear p2
  try clear c4
  try clear c6
  try clear c6b0
  try clear p6
  try clear p2
  obtain ⟨kq,x26_4,rfl,HA,HJ4,⟨mc4,rfl⟩⟩:=hcut
  obtain _|kj4:=kq
  ·exact absurd HA.out (by simp [impl_ReadVar.j1])
  have H:=HA.out
  clear HA
  simp only [impl_ReadVar.j1] at H
  by_cases c7 : x26_4 = true
  ·subst c7
   have H1 : (if 0 ≤ x9_1 then (if x9_1 < (a0.size : Int) then (if (wrap64 (bt a0 x9_1)) < 128 then (if (wrap64 (bt a0 x9_1)) = 0 then (if x9_1 > a1 then (some (0,0,false)) else (if (wrap64 (x7_1 + (wrap64 ((Int.tmod (wrap64 (bt a0 x9_1)) 128) * x8_1)))) > 1000000000 then (some (0,0,false)) else (some (wrap64 (x7_1 + (wrap64 ((Int.tmod (wrap64 (bt a0 x9_1)) 128) * x8_1))),wrap64 (x9_1 + 1),true)))) else (if (wrap64 (x7_1 + (wrap64 ((Int.tmod (wrap64 (bt a0 x9_1)) 128) * x8_1)))) > 1000000000 then (some (0,0,false)) else (some (wrap64 (x7_1 + (wrap64 ((Int.tmod (wrap64 (bt a0 x9_1)) 128) * x8_1))),wrap64 (x9_1 + 1),true)))) else (impl_ReadVar.l0 kj4 a0 a1 (wrap64 (x7_1 + (wrap64 ((Int.tmod (wrap64 (bt a0 x9_1)) 128) * x8_1)))) (wrap64 (x8_1 * 128)) (wrap64 (x9_1 + 1)))) else (none)) else (none)) = some (r1,r2,r3):=by rw [if_pos rfl] at H;exact H
   clear H
   have H:=H1
   clear H1
   by_cases c8 : 0 ≤ x9_1
   ·rw [if_pos c8] at H
    have c8b0 : decide (0 ≤ x9_1) = true:=decide_eq_true c8
    clear c8
    by_cases c9 : x9_1 < (a0.size : Int)
    ·rw [if_pos c9] at H
     have c9b0 : decide (x9_1 < (a0.size : Int)) = true:=decide_eq_true c9
     clear c9
     by_cases c11 : (wrap64 (bt a0 x9_1)) < 128
     ·rw [if_pos c11] at H
      have c11b0 : decide ((wrap64 (bt a0 x9_1)) < 128) = true:=decide_eq_true c11
      clear c11
      by_cases c12 : (wrap64 (bt a0 x9_1)) = 0
      ·rw [if_pos c12] at H
       have c12b0 : ((wrap64 (bt a0 x9_1)) == 0) = true:=beq_iff_eq.mpr c12
       have c12b1 : ((wrap64 (bt a0 x9_1)) != 0) = false:=bne_eq_false_iff_eq.mpr c12
       clear c12
       by_cases c13 : x9_1 > a1
       ·rw [if_pos c13] at H
        have c13b0 : decide (a1 < x9_1) = true:=decide_eq_true c13
        clear c13
        simp only [Option.some.injEq,Prod.mk.injEq] at H
        obtain ⟨rfl,rfl,rfl⟩:=H
        have p10 : 0 ≤ (x9_1 : Int):=dt_
        have q10 : x9_1 < (a0.size : Int):=dt_
        have hx10:=bt_at a0 x9_1
        replace p10:=eq_true p10
        replace q10:=eq_true q10
        go_wp2
        go_ret3
        exact ⟨by first|rfl|(simp;done)|(simp [*];done),by repeat (first|exact Drawn0.refl _|apply Drawn0.step)⟩
       rw [if_neg c13] at H
       have c13b0 : decide (a1 < x9_1) = false:=decide_eq_false c13
       clear c13
       by_cases c14 : (wrap64 (x7_1 + (wrap64 ((Int.tmod (wrap64 (bt a0 x9_1)) 128) * x8_1)))) > 1000000000
       ·rw [if_pos c14] at H
        have c14b0 : decide (1000000000 < (wrap64 (x7_1 + (wrap64 ((Int.tmod (wrap64 (bt a0 x9_1)) 128) * x8_1))))) = true:=decide_eq_true c14
        clear c14
        simp only [Option.some.injEq,Prod.mk.injEq] at H
        obtain ⟨rfl,rfl,rfl⟩:=H
        have p10 : 0 ≤ (x9_1 : Int):=dt_
        have q10 : x9_1 < (a0.size : Int):=dt_
        have hx10:=bt_at a0 x9_1
        replace p10:=eq_true p10
        replace q10:=eq_true q10
        go_wp2
        go_ret3
        exact ⟨by first|rfl|(simp;done)|(simp [*];done),by repeat (first|exact Drawn0.refl _|apply Drawn0.step)⟩
       rw [if_neg c14] at H
       have c14b0 : decide (1000000000 < (wrap64 (x7_1 + (wrap64 ((Int.tmod (wrap64 (bt a0 x9_1)) 128) * x8_1))))) = false:=decide_eq_false c14
       clear c14
       simp only [Option.some.injEq,Prod.mk.injEq] at H
       obtain ⟨rfl,rfl,rfl⟩:=H
       have p10 : 0 ≤ (x9_1 : Int):=dt_
       have q10 : x9_1 < (a0.size : Int):=dt_
       have hx10:=bt_at a0 x9_1
       replace p10:=eq_true p10
       replace q10:=eq_true q10
       go_wp2
       go_ret3
       exact ⟨by first|rfl|(simp;done)|(simp [*];done),by repeat (first|exact Drawn0.refl _|apply Drawn0.step)⟩
      rw [if_neg c12] at H
      have c12b0 : ((wrap64 (bt a0 x9_1)) == 0) = false:=beq_eq_false_iff_ne.mpr c12
      have c12b1 : ((wrap64 (bt a0 x9_1)) != 0) = true:=bne_iff_ne.mpr c12
      by_cases c15 : (wrap64 (x7_1 + (wrap64 ((Int.tmod (wrap64 (bt a0 x9_1)) 128) * x8_1)))) > 1000000000
      ·rw [if_pos c15] at H
       have c15b0 : decide (1000000000 < (wrap64 (x7_1 + (wrap64 ((Int.tmod (wrap64 (bt a0 x9_1)) 128) * x8_1))))) = true:=decide_eq_true c15
       clear c15
       simp only [Option.some.injEq,Prod.mk.injEq] at H
       obtain ⟨rfl,rfl,rfl⟩:=H
       have p10 : 0 ≤ (x9_1 : Int):=dt_
       have q10 : x9_1 < (a0.size : Int):=dt_
       have hx10:=bt_at a0 x9_1
       replace p10:=eq_true p10
       replace q10:=eq_true q10
       go_wp2
       go_ret3
       exact ⟨by first|rfl|(simp;done)|(simp [*];done),by repeat (first|exact Drawn0.refl _|apply Drawn0.step)⟩
      rw [if_neg c15] at H
      have c15b0 : decide (1000000000 < (wrap64 (x7_1 + (wrap64 ((Int.tmod (wrap64 (bt a0 x9_1)) 128) * x8_1))))) = false:=decide_eq_false c15
      clear c15
      simp only [Option.some.injEq,Prod.mk.injEq] at H
      obtain ⟨rfl,rfl,rfl⟩:=H
      have p10 : 0 ≤ (x9_1 : Int):=dt_
      have q10 : x9_1 < (a0.size : Int):=dt_
      have hx10:=bt_at a0 x9_1
      replace p10:=eq_true p10
      replace q10:=eq_true q10
      go_wp2
      go_ret3
      exact ⟨by first|rfl|(simp;done)|(simp [*];done),by repeat (first|exact Drawn0.refl _|apply Drawn0.step)⟩
     rw [if_neg c11] at H
     have c11b0 : decide ((wrap64 (bt a0 x9_1)) < 128) = false:=decide_eq_false c11
     clear c11
     have H':=qo.mk H
     clear H
     have p10 : 0 ≤ (x9_1 : Int):=dt_
     have q10 : x9_1 < (a0.size : Int):=dt_
     have hx10:=bt_at a0 x9_1
     replace p10:=eq_true p10
     replace q10:=eq_true q10
     go_wp2
     go_roundg kj4
     case measure=>have:=HK1.out;have:=HJ4.out;omega
     case rel=>exact ⟨(wrap64 (x7_1 + (wrap64 ((Int.tmod (wrap64 (bt a0 x9_1)) 128) * x8_1)))),(wrap64 (x8_1 * 128)),(wrap64 (x9_1 + 1)),rs_,rs_,rs_,H',⟨by have:=HK1.out;have:=HJ4.out;omega⟩,by repeat (first|exact Drawn0.refl _|apply Drawn0.step)⟩
    rw [if_neg c9] at H
    exact absurd H (by simp)
   rw [if_neg c8] at H
   exact absurd H (by simp)
  replace c7:=Bool.eq_false_iff.mpr c7
  subst c7
  have H1 : (some (0,0,false)) = some (r1,r2,r3):=by rw [if_neg (show ¬ (false = true) by decide)] at H;exact H
  clear H
  have H:=H1
  clear H1
  simp only [Option.some.injEq,Prod.mk.injEq] at H
  obtain ⟨rfl,rfl,rfl⟩:=H
  go_wp2
  go_ret3
  exact ⟨by first|rfl|(simp;done)|(simp [*];done),by repeat (first|exact Drawn0.refl _|apply Drawn0.step)⟩
 replace c4:=Bool.eq_false_iff.mpr c4
 subst c4
 have H1 : (some (0,0,false)) = some (r1,r2,r3):=by rw [if_neg (show ¬ (false = true) by decide)] at H;exact H
 clear H
 have H:=H1
 clear H1
 simp only [Option.some.injEq,Prod.mk.injEq] at H
 obtain ⟨rfl,rfl,rfl⟩:=H
 go_enter Try.func104,Try.ntmps104
 go_wp2_with (first|((with_reducible refine gate_callee (f:=42) rfl ?_);refine goesL_ (some 14) rfl rfl Try.func42 (by kernel_rfl) rfl #[.int .i64 a1,.int .i64 0,.int .i64 (a0.size : Int)] rfl sm_ ?_;(with_reducible refine (impl_in.calls a1 0 (a0.size : Int) false _ A3.out).mono ?_);rintro e w' ⟨rfl,⟨nd,rfl⟩⟩;refine ⟨_,rfl,?_⟩))
 go_ret3
 exact ⟨by first|rfl|(simp;done)|(simp [*];done),by repeat (first|exact Drawn0.refl _|apply Drawn0.step)⟩

end Go.Proofs.Ytcnoccefdejphaa.QFnTrees
