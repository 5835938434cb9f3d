/- Lean functions for the Go functions that the law FnExactPlaceTree reaches, and that each Go function comes to just its Lean function's answer; by a program of this session. -/
import Derived.Test.YtcnoccefdejphaaZFnExactPlaceTreex0
import Derived.Test.YtcnoccefdejphaaZFnExactPlaceTreex7
import Derived.Test.YtcnoccefdejphaaZFnExactPlaceTreex10
namespace Go.Proofs.Ytcnoccefdejphaa.QFnExactPlaceTree
open Go.RowKit Go.Proofs.YtcnoccefdejphaaW.PrintWords Go.Proofs.YtcnoccefdejphaaW.PrintLast Go.Proofs.YtcnoccefdejphaaW.PrintMore
attribute [local go_sem] max2_int min2_int max_two min_two max_three min_three max_four min_four   -- for this text's walks alone
set_option linter.unusedVariables false
set_option linter.unusedSimpArgs false

/-! ### impl_readSector: function 72 -/
def impl_readSector.l0 : Nat → Int → Int → List ByteArray → List (S96) → Option (ByteArray)
 | 0,_,_,_,_=>none
 | k + 1,x1,x5,x443000,x443001=>if x5 ≥ 0 then (if 0 ≤ x5 then (if x5 < (x443001.length : Int) then (if ((rd_T96 x443001 x5).f0) = x1 then (some ((rd_T96 x443001 x5).f1)) else (impl_readSector.l0 k x1 (wrap64 (x5 - 1)) x443000 x443001)) else (none)) else (none)) else (if 0 ≤ x1 then (if x1 < (x443000.length : Int) then (some (rdOf ByteArray.empty x443000 x1)) else (none)) else (none))
def impl_readSector.f (k : Nat) (l0_0 : List ByteArray) (l0_1 : List (S96)) (a1 : Int) : Option (ByteArray):=impl_readSector.l0 k a1 (wrap64 ((l0_1.length : Int) - 1)) l0_0 l0_1
theorem impl_readSector.mono_l : ∀ k,(∀ y0 y1 y2 y3,LeO (impl_readSector.l0 k y0 y1 y2 y3) (impl_readSector.l0 (k + 1) y0 y1 y2 y3))
 | 0=>fun _ _ _ _ r h=>by simp [impl_readSector.l0] at h
 | k + 1=>by
  have ih0:=impl_readSector.mono_l k
  intro y0 y1 y2 y3
  unfold impl_readSector.l0
  repeat' first|(with_reducible first|exact ih0 _ _ _ _|exact LeO.refl _|exact LeO.none _|refine LeO.ite ?_ ?_|refine LeO.bind ?_ (fun _=>?_))|exact ih0 _ _ _ _|exact LeO.none _|refine LeO.ite ?_ ?_|refine LeO.bind ?_ (fun _=>?_)
theorem impl_readSector.mono : ∀ a0 a1 a2 k,LeO (impl_readSector.f k a0 a1 a2) (impl_readSector.f (k + 1) a0 a1 a2):=by
 intro a0 a1 a2 k
 have ih0:=impl_readSector.mono_l k
 unfold impl_readSector.f
 repeat' first|(with_reducible first|exact ih0 _ _ _ _|exact LeO.refl _|exact LeO.none _|refine LeO.ite ?_ ?_|refine LeO.bind ?_ (fun _=>?_))|exact ih0 _ _ _ _|exact LeO.none _|refine LeO.ite ?_ ?_|refine LeO.bind ?_ (fun _=>?_)
set_option maxHeartbeats 8000000 in
set_option maxRecDepth 100000 in
theorem impl_readSector.calls (k : Nat) (A0_0 : Option Addr) (c0_0 : Nat) (l0_0 : List ByteArray) (A0_1 : Option Addr) (c0_1 : Nat) (l0_1 : List (S96)) (a1 : Int) (r : ByteArray) (w : World) (hr0_0 : Kd.C Kd.string w A0_0 l0_0.length l0_0) (hc0_0 : l0_0.length ≤ c0_0) (hr0_1 : Kd.C k96 w A0_1 l0_1.length l0_1) (hc0_1 : l0_1.length ≤ c0_1) (h : impl_readSector.f k l0_0 l0_1 a1 = some r) :
  Calls Try.prog 72 #[.agg #[.slice A0_0 l0_0.length c0_0,.slice A0_1 l0_1.length c0_1],.int .i64 a1] w fun e w'=>e = .returned (.string r) ∧ Below w.heap.size w w':=by
 have hu32:=Try.underlying32
 have HR0_0:=qo.mk hr0_0
 have HC0_0:=qo.mk hc0_0
 clear hr0_0 hc0_0
 have HR0_1:=qo.mk hr0_1
 have HC0_1:=qo.mk hc0_1
 clear hr0_1 hc0_1
 have HB:=qo.mk (Below.refl w.heap.size w)
 have H : (impl_readSector.l0 k a1 (wrap64 ((l0_1.length : Int) - 1)) l0_0 l0_1) = some r:=h
 clear h
 have H':=qo.mk H
 clear H
 go_enter Try.func72,Try.ntmps72
 go_wp2_with (first|((with_reducible refine gate_dst (N:=2) rfl ?_);refine box_event ?hg (N:=2) ?hd (cs:=#[.slice A0_0 l0_0.length c0_0,.slice A0_1 l0_1.length c0_1]) (t:=32) ?hr ?_;(case hd=>rfl);(case hg=>rfl);(case hr=>first|(go_simp;done)|(go_simp;rfl));intro gb442 hg w3 hbox hb;have BK442:=qo.mk (hbox);have GW442:=hl_ (w:=w) hg;have GE442:=hl_ (w:=w) hg;replace HB:=hs_ HB hb;clear hb hbox hg;obtain ⟨hcz4_0,hcz4_1,hfz4_0,hfz4_1⟩:=c2f_ BK442.out))
 go_loopg [5] k (fun kq v5 w'=>∃ (x5_1 : Int),v5 = .int .i64 x5_1 ∧ qo (impl_readSector.l0 kq a1 x5_1 l0_0 l0_1 = some r) ∧ qo (kq ≤ k) ∧ qo (w'.heap[gb442]? = some (.cells #[(.slice A0_0 l0_0.length c0_0),(.slice A0_1 l0_1.length c0_1)] 32 (0,0))) ∧ qo (Below w.heap.size w w'))
 case atStart=>exact ⟨(wrap64 ((l0_1.length : Int) - 1)),rs_,H',⟨Nat.le_refl _⟩,(bx_ BK442),⟨hx_⟩⟩
 clear H'
 try clear p2
 try clear hcz4_0
 try clear hcz4_1
 try clear hfz4_0
 try clear hfz4_1
 obtain ⟨x5_1,rfl,HA,HK1,BK442,HB⟩:=hrel
 obtain _|k1:=gk
 ·exact absurd HA.out (by simp [impl_readSector.l0])
 have H:=HA.out
 clear HA
 simp only [impl_readSector.l0] at H
 by_cases c5 : x5_1 ≥ 0
 ·rw [if_pos c5] at H
  have c5b0 : decide (0 ≤ x5_1) = true:=decide_eq_true c5
  clear c5
  by_cases c6 : 0 ≤ x5_1
  ·rw [if_pos c6] at H
   have c6b0 : decide (0 ≤ x5_1) = true:=decide_eq_true c6
   clear c6
   by_cases c7 : x5_1 < (l0_1.length : Int)
   ·rw [if_pos c7] at H
    have c7b0 : decide (x5_1 < (l0_1.length : Int)) = true:=decide_eq_true c7
    clear c7
    by_cases c8 : ((rd_T96 l0_1 x5_1).f0) = a1
    ·rw [if_pos c8] at H
     have c8b0 : (((rd_T96 l0_1 x5_1).f0) == a1) = true:=beq_iff_eq.mpr c8
     have c8b1 : (((rd_T96 l0_1 x5_1).f0) != a1) = false:=bne_eq_false_iff_eq.mpr c8
     clear c8
     obtain rfl:=Option.some.inj H
     obtain ⟨hcz9_0,hcz9_1,hfz9_0,hfz9_1⟩:=c2f_ BK442.out
     have p443 : 0 ≤ (x5_1 : Int):=dt_
     have q443 : x5_1 < (l0_1.length : Int):=dt_
     obtain ⟨ad443,e443,hx443_0,hx443_1⟩:=at_T96 HR0_1.out x5_1 p443 q443
     cases e443
     replace hx443_0:=cb_ HB hx443_0
     replace hx443_1:=cb_ HB hx443_1
     replace p443:=eq_true p443
     replace q443:=eq_true q443
     have p444 : 0 ≤ (x5_1 : Int):=dt_
     have q444 : x5_1 < (l0_1.length : Int):=dt_
     obtain ⟨ad444,e444,hx444_0,hx444_1⟩:=at_T96 HR0_1.out x5_1 p444 q444
     obtain rfl : ad443 = ad444:=(by injection e444)
     replace hx444_0:=cb_ HB hx444_0
     replace hx444_1:=cb_ HB hx444_1
     replace p444:=eq_true p444
     replace q444:=eq_true q444
     go_wp2
     go_ret
     exact ⟨rt_,hx_⟩
    rw [if_neg c8] at H
    have c8b0 : (((rd_T96 l0_1 x5_1).f0) == a1) = false:=beq_eq_false_iff_ne.mpr c8
    have c8b1 : (((rd_T96 l0_1 x5_1).f0) != a1) = true:=bne_iff_ne.mpr c8
    have H':=qo.mk H
    clear H
    obtain ⟨hcz10_0,hcz10_1,hfz10_0,hfz10_1⟩:=c2f_ BK442.out
    have p443 : 0 ≤ (x5_1 : Int):=dt_
    have q443 : x5_1 < (l0_1.length : Int):=dt_
    obtain ⟨ad443,e443,hx443_0,hx443_1⟩:=at_T96 HR0_1.out x5_1 p443 q443
    cases e443
    replace hx443_0:=cb_ HB hx443_0
    replace hx443_1:=cb_ HB hx443_1
    replace p443:=eq_true p443
    replace q443:=eq_true q443
    go_wp2
    go_roundg k1
    case measure=>have:=HK1.out;omega
    case rel=>exact ⟨(wrap64 (x5_1 - 1)),rs_,H',⟨by have:=HK1.out;omega⟩,(bx_ BK442),⟨hx_⟩⟩
   rw [if_neg c7] at H
   exact absurd H (by simp)
  rw [if_neg c6] at H
  exact absurd H (by simp)
 rw [if_neg c5] at H
 have c5b0 : decide (0 ≤ x5_1) = false:=decide_eq_false c5
 clear c5
 by_cases c11 : 0 ≤ a1
 ·rw [if_pos c11] at H
  have c11b0 : decide (0 ≤ a1) = true:=decide_eq_true c11
  clear c11
  by_cases c12 : a1 < (l0_0.length : Int)
  ·rw [if_pos c12] at H
   have c12b0 : decide (a1 < (l0_0.length : Int)) = true:=decide_eq_true c12
   clear c12
   obtain rfl:=Option.some.inj H
   obtain ⟨hcz13_0,hcz13_1,hfz13_0,hfz13_1⟩:=c2f_ BK442.out
   have p445 : 0 ≤ (a1 : Int):=dt_
   have q445 : a1 < (l0_0.length : Int):=dt_
   obtain ⟨ad445,e445,hx445_0⟩:=Kd.at_string HR0_0.out a1 p445 q445
   cases e445
   replace hx445_0:=cb_ HB hx445_0
   replace p445:=eq_true p445
   replace q445:=eq_true q445
   go_wp2
   go_ret
   exact ⟨rt_,hx_⟩
  rw [if_neg c12] at H
  exact absurd H (by simp)
 rw [if_neg c11] at H
 exact absurd H (by simp)

/-! ### impl_copyInts: function 93 -/
def impl_copyInts.f (l0 : List Int) : Option (List Int):=if ([] : List Int).length + l0.length < 17592186044416 then (some (([] : List Int) ++ l0)) else (none)
set_option maxHeartbeats 8000000 in
set_option maxRecDepth 100000 in
theorem impl_copyInts.calls (A0 : Option Addr) (c0 : Nat) (l0 : List Int) (r : List Int) (w : World) (hr0 : Kd.C (Kd.int .i64) w A0 l0.length l0) (hc0 : l0.length ≤ c0) (h : impl_copyInts.f l0 = some r) :
  Calls Try.prog 93 #[.slice A0 l0.length c0] w fun e w'=>∃ v0_ : Value,e = .returned (v0_) ∧ Kd.R (Kd.int .i64) 3 w' w.heap.size (fun _=>True) v0_ r ∧ Below w.heap.size w w':=by
 have HR0:=qo.mk hr0
 have HC0:=qo.mk hc0
 clear hr0 hc0
 have HB:=qo.mk (Below.refl w.heap.size w)
 have H : (if ([] : List Int).length + l0.length < 17592186044416 then (some (([] : List Int) ++ l0)) else (none)) = some r:=h
 clear h
 by_cases c2 : ([] : List Int).length + l0.length < 17592186044416
 ·rw [if_pos c2] at H
  have LMc2:=qo.mk c2
  clear c2
  obtain ⟨y446,hy446⟩ : ∃ y_ : List Int,y_ = (([] : List Int) ++ l0):=⟨_,rfl⟩
  replace H : (some y446) = some r:=by first|(rw [hy446];with_reducible exact H)|(have H2_:=(Option.bind_some _ _).symm.trans H;rw [hy446];with_reducible exact H2_)|(have H2_:=(Option.bind_some _ _).symm.trans H;with_reducible exact H2_)|with_reducible exact H|(rw [hy446];exact H)|exact H
  have Ny446:=qo.mk hy446
  clear hy446
  obtain rfl:=Option.some.inj H
  go_enter Try.func93,Try.ntmps93
  go_wp2_with (first|((with_reducible refine gate_builtin (b:=.append) (xs:=#[.const (.slice none 0 0),.tmp 3]) rfl ?_);at_builtin;refine Kd.R_append_rows (Kd.int .i64) (w0:=w) w.heap.size rfl (.const (.slice none 0 0)) (.tmp 3) 26 3 (.int .i64 0) 8 rfl Try.underlying26 info3 rfl (by decide) (by omega) (.slice none 0 0) ([] : List Int) l0 _ _ _ (fun _=>True) (fun _=>False) rfl rfl ?aO ?aR (fun _ _ h=>h) (fun _ h=>h.elim) ?aF ?aB ?aS ?aL ?_;(case aR=>repeat (first|exact HR0.out|(with_reducible refine Kd.C_alloc ?_ _)|(with_reducible refine Kd.C_drewN ?_ _)|(with_reducible refine Kd.C_drew ?_)));(case aB=>exact hx_);(case aF=>exact (fun _ _=>trivial));(case aO=>exact ((Kd.R_nil _ _ _ _ (fun _=>True))));(case aS=>exact (qk hx_));(case aL=>have:=LMc2.out;omega);intro v447 w3 ho hb hg hat;rw [← Ny446.out] at ho;replace HB:=qo.mk (hb);have HO448:=qo.mk (ho);clear ho hb hg hat))
  go_ret
  exact ⟨_,rt_,by (with_reducible repeat (first|apply Kd.R_alloc|apply Kd.R_drewN|apply Kd.R_drew));exact HO448.out,hx_⟩
 rw [if_neg c2] at H
 exact absurd H (by simp)

/-! ### impl_WriteSector: function 74 -/
def impl_WriteSector.f (k : Nat) (l0_0 : List ByteArray) (l0_1 : List (S96)) (a1 : Int) (a2 : ByteArray) : Option (List ByteArray × (List (S96)) × Bool):=(impl_copyDevice.f l0_0 l0_1).bind fun bt454=>(if bt454.2.length < 5864062014805 then ((some (bt454.2 ++ [(⟨a1,a2⟩ : S96)] : List (S96))).bind fun y461=>((impl_DeviceOk.f k l0_0 l0_1).bind fun t464=>(if t464 = true then ((impl_DeviceOk.f k bt454.1 y461).bind fun t465=>(if t465 = true then (some (bt454.1,y461,true)) else (some (([] : List ByteArray),([] : List (S96)),false)))) else (some (([] : List ByteArray),([] : List (S96)),false))))) else (none))
theorem impl_WriteSector.mono : ∀ a0 a1 a2 a3 k,LeO (impl_WriteSector.f k a0 a1 a2 a3) (impl_WriteSector.f (k + 1) a0 a1 a2 a3):=by
 intro a0 a1 a2 a3 k
 unfold impl_WriteSector.f
 repeat' first|(with_reducible first|exact impl_DeviceOk.mono _ _ _|exact LeO.refl _|exact LeO.none _|refine LeO.ite ?_ ?_|refine LeO.bind ?_ (fun _=>?_))|exact impl_DeviceOk.mono _ _ _|exact LeO.none _|refine LeO.ite ?_ ?_|refine LeO.bind ?_ (fun _=>?_)
set_option maxHeartbeats 8000000 in
set_option maxRecDepth 100000 in
theorem impl_WriteSector.calls (k : Nat) (A0_0 : Option Addr) (c0_0 : Nat) (l0_0 : List ByteArray) (A0_1 : Option Addr) (c0_1 : Nat) (l0_1 : List (S96)) (a1 : Int) (a2 : ByteArray) (r1 : List ByteArray) (r2 : List (S96)) (r3 : Bool) (w : World) (hr0_0 : Kd.C Kd.string w A0_0 l0_0.length l0_0) (hc0_0 : l0_0.length ≤ c0_0) (hr0_1 : Kd.C k96 w A0_1 l0_1.length l0_1) (hc0_1 : l0_1.length ≤ c0_1) (h : impl_WriteSector.f k l0_0 l0_1 a1 a2 = some (r1,r2,r3)) :
  Calls Try.prog 74 #[.agg #[.slice A0_0 l0_0.length c0_0,.slice A0_1 l0_1.length c0_1],.int .i64 a1,.string a2] w fun e w'=>∃ v0_ v1_ : Value,e = .returned (.tuple #[.agg #[v0_,v1_],.bool r3]) ∧ Kd.R Kd.string 9 w' w.heap.size (fun _=>True) v0_ r1 ∧ Kd.R k96 96 w' w.heap.size (fun _=>True) v1_ r2 ∧ Below w.heap.size w w':=by
 have hu32:=Try.underlying32
 have hu96:=Try.underlying96
 have HR0_0:=qo.mk hr0_0
 have HC0_0:=qo.mk hc0_0
 clear hr0_0 hc0_0
 have HR0_1:=qo.mk hr0_1
 have HC0_1:=qo.mk hc0_1
 clear hr0_1 hc0_1
 have HB:=qo.mk (Below.refl w.heap.size w)
 have H : ((impl_copyDevice.f l0_0 l0_1).bind fun bt454=>(if bt454.2.length < 5864062014805 then ((some (bt454.2 ++ [(⟨a1,a2⟩ : S96)] : List (S96))).bind fun y461=>((impl_DeviceOk.f k l0_0 l0_1).bind fun t464=>(if t464 = true then ((impl_DeviceOk.f k bt454.1 y461).bind fun t465=>(if t465 = true then (some (bt454.1,y461,true)) else (some (([] : List ByteArray),([] : List (S96)),false)))) else (some (([] : List ByteArray),([] : List (S96)),false))))) else (none))) = some (r1,r2,r3):=h
 clear h
 replace H:=Option.bind_eq_some_iff.mp H
 obtain ⟨⟨t454,t457⟩,A40,H⟩:=H
 replace H : (if t457.length < 5864062014805 then ((some (t457 ++ [(⟨a1,a2⟩ : S96)] : List (S96))).bind fun y461=>((impl_DeviceOk.f k l0_0 l0_1).bind fun t464=>(if t464 = true then ((impl_DeviceOk.f k t454 y461).bind fun t465=>(if t465 = true then (some (t454,y461,true)) else (some (([] : List ByteArray),([] : List (S96)),false)))) else (some (([] : List ByteArray),([] : List (S96)),false))))) else (none)) = some (r1,r2,r3):=H
 have A4:=qo.mk A40
 clear A40
 by_cases c5 : t457.length < 5864062014805
 ·rw [if_pos c5] at H
  have LMc5:=qo.mk c5
  clear c5
  obtain ⟨y461,hy461⟩ : ∃ y_ : List (S96),y_ = (t457 ++ [(⟨a1,a2⟩ : S96)]):=⟨_,rfl⟩
  replace H : ((impl_DeviceOk.f k l0_0 l0_1).bind fun t464=>(if t464 = true then ((impl_DeviceOk.f k t454 y461).bind fun t465=>(if t465 = true then (some (t454,y461,true)) else (some (([] : List ByteArray),([] : List (S96)),false)))) else (some (([] : List ByteArray),([] : List (S96)),false)))) = some (r1,r2,r3):=by first|(rw [hy461];with_reducible exact H)|(have H2_:=(Option.bind_some _ _).symm.trans H;rw [hy461];with_reducible exact H2_)|(have H2_:=(Option.bind_some _ _).symm.trans H;with_reducible exact H2_)|with_reducible exact H|(rw [hy461];exact H)|exact H
  have Ny461:=qo.mk hy461
  clear hy461
  replace H:=Option.bind_eq_some_iff.mp H
  obtain ⟨t464,A60,H⟩:=H
  replace H : (if t464 = true then ((impl_DeviceOk.f k t454 y461).bind fun t465=>(if t465 = true then (some (t454,y461,true)) else (some (([] : List ByteArray),([] : List (S96)),false)))) else (some (([] : List ByteArray),([] : List (S96)),false))) = some (r1,r2,r3):=H
  have A6:=qo.mk A60
  clear A60
  by_cases c7 : t464 = true
  ·subst c7
   have H1 : ((impl_DeviceOk.f k t454 y461).bind fun t465=>(if t465 = true then (some (t454,y461,true)) else (some (([] : List ByteArray),([] : List (S96)),false)))) = some (r1,r2,r3):=by rw [if_pos rfl] at H;exact H
   clear H
   have H:=H1
   clear H1
   replace H:=Option.bind_eq_some_iff.mp H
   obtain ⟨t465,A80,H⟩:=H
   replace H : (if t465 = true then (some (t454,y461,true)) else (some (([] : List ByteArray),([] : List (S96)),false))) = some (r1,r2,r3):=H
   have A8:=qo.mk A80
   clear A80
   by_cases c9 : t465 = true
   ·subst c9
    have H1 : (some (t454,y461,true)) = some (r1,r2,r3):=by rw [if_pos rfl] at H;exact H
    clear H
    have H:=H1
    clear H1
    simp only [Option.some.injEq,Prod.mk.injEq] at H
    obtain ⟨rfl,rfl,rfl⟩:=H
    go_enter Try.func74,Try.ntmps74
    go_wp2_with (first|((with_reducible refine gate_dst (N:=3) rfl ?_);refine box_event ?hg (N:=3) ?hd (cs:=#[.slice A0_0 l0_0.length c0_0,.slice A0_1 l0_1.length c0_1]) (t:=32) ?hr ?_;(case hd=>rfl);(case hg=>rfl);(case hr=>first|(go_simp;done)|(go_simp;rfl));intro gb452 hg w10 hbox hb;have BK452:=qo.mk (hbox);have GW452:=hl_ (w:=w) hg;have GE452:=hl_ (w:=w) hg;replace HB:=hs_ HB hb;clear hb hbox hg)|((with_reducible refine gate_dst (N:=6) rfl ?_);refine box_event ?hg (N:=6) ?hd (cs:=#[.slice none 0 0,.slice none 0 0]) (t:=32) ?hr ?_;(case hd=>rfl);(case hg=>rfl);(case hr=>first|(go_simp;done)|(go_simp;rfl));intro gb453 hg w11 hbox hb;have BK453:=qo.mk (hbox);have GW453:=hl_ (w:=w) hg;have GE453:=hl_ (w:=w) hg;have NB452_453:=qo.mk ((by rw [hg];exact nl_ BK452 : gb452 ≠ gb453));have NB453_452:=qo.mk ((by rw [hg];exact ng_ BK452 : gb453 ≠ gb452));replace BK452:=bb_ BK452 hb;replace HB:=hs_ HB hb;clear hb hbox hg;have hnb12:=NB452_453.out;have hnc12:=NB453_452.out;obtain ⟨hcz13_0,hcz13_1,hfz13_0,hfz13_1⟩:=c2f_ BK452.out)|((with_reducible refine gate_callee (f:=43) rfl ?_);refine goesL_ (some 10) rfl rfl Try.func43 (by kernel_rfl) rfl #[.agg #[.slice A0_0 l0_0.length c0_0,.slice A0_1 l0_1.length c0_1]] rfl sm_ ?_;(with_reducible refine (impl_copyDevice.calls _ _ l0_0 _ _ l0_1 t454 t457 _ ?side1 ?side2 ?side3 ?side4 A4.out).mono ?_);(case side1=>repeat (first|exact (Kd.C_below HR0_0.out HB.out)|(with_reducible refine Kd.C_alloc ?_ _)|(with_reducible refine Kd.C_drewN ?_ _)|(with_reducible refine Kd.C_drew ?_)));(case side2=>exact HC0_0.out);(case side3=>repeat (first|exact (Kd.C_below HR0_1.out HB.out)|(with_reducible refine Kd.C_alloc ?_ _)|(with_reducible refine Kd.C_drewN ?_ _)|(with_reducible refine Kd.C_drew ?_)));(case side4=>exact HC0_1.out);rintro e w14 ⟨v455,v458,rfl,ho0,ho1,hb⟩;refine ⟨_,rfl,?_⟩;have HO456:=qo.mk (Kd.R_lower ho0 (qk hx_));have HO459:=qo.mk (Kd.R_lower ho1 (qk hx_));replace BK452:=bb_ BK452 hb;replace BK453:=bb_ BK453 hb;replace HB:=hs_ HB hb;(try clear hb);(try clear hb2);(try clear hk);(try clear hi);(try clear ho0);(try clear ho1))|((with_reducible refine gate_dst (N:=8) rfl ?_);refine box_event ?hg (N:=8) ?hd (cs:=#[.slice none 0 0,.slice none 0 0]) (t:=32) ?hr ?_;(case hd=>rfl);(case hg=>rfl);(case hr=>first|(go_simp;done)|(go_simp;rfl));intro gb460 hg w15 hbox hb;replace HO456:=rb_ HO456 hb;replace HO459:=rb_ HO459 hb;have BK460:=qo.mk (hbox);have GW460:=hl_ (w:=w) hg;have GE460:=hl_ (w:=w) hg;have NB452_460:=qo.mk ((by rw [hg];exact nl_ BK452 : gb452 ≠ gb460));have NB460_452:=qo.mk ((by rw [hg];exact ng_ BK452 : gb460 ≠ gb452));replace BK452:=bb_ BK452 hb;have NB453_460:=qo.mk ((by rw [hg];exact nl_ BK453 : gb453 ≠ gb460));have NB460_453:=qo.mk ((by rw [hg];exact ng_ BK453 : gb460 ≠ gb453));replace BK453:=bb_ BK453 hb;replace HB:=hs_ HB hb;clear hb hbox hg;obtain ⟨Ao16,co16,eo16⟩:=Kd.R_slice HO456.out;subst eo16;have hnb17:=NB460_452.out;have hnc17:=NB452_460.out;have hnb18:=NB460_453.out;have hnc18:=NB453_460.out;obtain ⟨hcz19_0,hcz19_1,hfz19_0,hfz19_1⟩:=c2f_ BK460.out;obtain ⟨Ao20,co20,eo20⟩:=Kd.R_slice HO459.out;subst eo20)|((with_reducible refine gate_builtin (b:=.append) (xs:=#[.tmp 12,.tmp 16]) rfl ?_);at_builtin;refine Kd.R_append k96 (w0:=w) w.heap.size rfl (.tmp 12) (.tmp 16) 30 96 (.agg #[(.int .i64 0),(.string ⟨#[]⟩)]) 24 rfl Try.underlying30 info96 rfl (by decide) (by omega) (.slice Ao20 t457.length co20) t457 (⟨a1,a2⟩ : S96) [.int .i64 a1,.string a2] (fun _=>True) (fun _=>False) rfl (by first|(go_simp;done)|(go_simp;rfl)) ?aP (fun _ hk=>hk.elim) ?aF ?aO ?aB ?aS ?aL ?_;(case aP=>exact k96_mkM _ _ _ (⟨a1,a2⟩ : S96));(case aB=>exact hx_);(case aF=>exact (fun _ _=>trivial));(case aO=>exact (by (with_reducible repeat (first|apply Kd.R_alloc|apply Kd.R_drewN|apply Kd.R_drew));exact Kd.R_mono (Kd.R_far (p:=⟨gb460,1,none⟩) (Kd.R_far (p:=⟨gb460,0,none⟩) (Kd.R_types HO459.out BK460.out (by decide)) (fun _ hk=>hk.2) (.slice Ao16 t454.length co16)) (fun _ hk=>hk.2) (.slice Ao20 t457.length co20)) (fun _ hk=>trivial)));(case aS=>exact (qk hx_));(case aL=>have:=LMc5.out;omega);intro v462 w21 ho hb hg hat;rw [← Ny461.out] at ho;replace BK452:=qo.mk (blk_grown (g:=gb452) (o:=.cells #[.slice A0_0 l0_0.length c0_0,.slice A0_1 l0_1.length c0_1] 32 (0,0)) (by (with_reducible repeat (first|refine qb ?_ _|refine qe ?_|refine qc ?_ _));refine blk_far ?_ NB452_460.out _;(with_reducible repeat (first|refine qb ?_ _|refine qe ?_|refine qc ?_ _));refine blk_far ?_ NB452_460.out _;(with_reducible repeat (first|refine qb ?_ _|refine qe ?_|refine qc ?_ _));exact BK452.out) hg (Kd.R_ne HO459.out BK452.out (by decide)));replace BK453:=qo.mk (blk_grown (g:=gb453) (o:=.cells #[.slice none 0 0,.slice none 0 0] 32 (0,0)) (by (with_reducible repeat (first|refine qb ?_ _|refine qe ?_|refine qc ?_ _));refine blk_far ?_ NB453_460.out _;(with_reducible repeat (first|refine qb ?_ _|refine qe ?_|refine qc ?_ _));refine blk_far ?_ NB453_460.out _;(with_reducible repeat (first|refine qb ?_ _|refine qe ?_|refine qc ?_ _));exact BK453.out) hg (Kd.R_ne HO459.out BK453.out (by decide)));replace HO456:=qo.mk (Kd.R_over' (by (with_reducible repeat (first|apply Kd.R_alloc|apply Kd.R_drewN|apply Kd.R_drew));exact (Kd.R_mono (Kd.R_far (p:=⟨gb460,1,none⟩) (Kd.R_far (p:=⟨gb460,0,none⟩) (Kd.R_types HO456.out BK460.out (by decide)) (fun _ hk=>hk.2) (.slice Ao16 t454.length co16)) (fun _ hk=>hk.2) (.slice Ao20 t457.length co20)) (fun _ h_=>h_.1))) (Kd.R_typed (by (with_reducible repeat (first|apply Kd.R_alloc|apply Kd.R_drewN|apply Kd.R_drew));exact (Kd.R_mono (Kd.R_far (p:=⟨gb460,1,none⟩) (Kd.R_far (p:=⟨gb460,0,none⟩) (Kd.R_types HO459.out BK460.out (by decide)) (fun _ hk=>hk.2) (.slice Ao16 t454.length co16)) (fun _ hk=>hk.2) (.slice Ao20 t457.length co20)) (fun _ h_=>h_.1)))) (by decide) hg);replace BK460:=qo.mk (blk_grown (g:=gb460) (o:=.cells #[.slice Ao16 t454.length co16,.slice Ao20 t457.length co20] 32 (0,0)) (by (with_reducible repeat (first|refine qb ?_ _|refine qe ?_|refine qc ?_ _));refine blk_put (cs:=#[.slice Ao16 t454.length co16,.slice none 0 0]) ?_ 1 _ rfl;(with_reducible repeat (first|refine qb ?_ _|refine qe ?_|refine qc ?_ _));refine blk_put (cs:=#[.slice none 0 0,.slice none 0 0]) ?_ 0 _ rfl;(with_reducible repeat (first|refine qb ?_ _|refine qe ?_|refine qc ?_ _));exact BK460.out) hg (Kd.R_ne HO459.out BK460.out (by decide)));replace HB:=qo.mk (hb);have HO463:=qo.mk (ho);clear HO459;clear ho hb hg hat;obtain ⟨Ao22,co22,eo22⟩:=Kd.R_slice HO463.out;subst eo22;obtain ⟨hcz23_0,hcz23_1,hfz23_0,hfz23_1⟩:=c2f_ BK460.out;obtain ⟨hcz24_0,hcz24_1,hfz24_0,hfz24_1⟩:=c2f_ BK452.out)|((with_reducible refine gate_callee (f:=40) rfl ?_);refine goesL_ (some 20) rfl rfl Try.func40 (by kernel_rfl) rfl #[.agg #[.slice A0_0 l0_0.length c0_0,.slice A0_1 l0_1.length c0_1]] rfl sm_ ?_;(with_reducible refine (impl_DeviceOk.calls k _ _ l0_0 _ _ l0_1 true _ ?side1 ?side2 ?side3 ?side4 A6.out).mono ?_);(case side1=>exact Kd.C_below HR0_0.out hx_);(case side2=>exact HC0_0.out);(case side3=>exact Kd.C_below HR0_1.out hx_);(case side4=>exact HC0_1.out);rintro e w25 ⟨rfl,hb⟩;refine ⟨_,rfl,?_⟩;replace HO456:=qo.mk (Kd.R_below (by (with_reducible repeat (first|apply Kd.R_alloc|apply Kd.R_drewN|apply Kd.R_drew));exact (Kd.R_mono (Kd.R_far (p:=⟨gb460,1,none⟩) (Kd.R_types HO456.out BK460.out (by decide)) (fun _ hk=>hk.2) (.slice Ao22 y461.length co22)) (fun _ h_=>h_.1))) hb);replace HO463:=qo.mk (Kd.R_below (by (with_reducible repeat (first|apply Kd.R_alloc|apply Kd.R_drewN|apply Kd.R_drew));exact (Kd.R_mono (Kd.R_far (p:=⟨gb460,1,none⟩) (Kd.R_types HO463.out BK460.out (by decide)) (fun _ hk=>hk.2) (.slice Ao22 y461.length co22)) (fun _ h_=>h_.1))) hb);replace BK452:=qo.mk (qm (g:=gb452) (o:=.cells #[.slice A0_0 l0_0.length c0_0,.slice A0_1 l0_1.length c0_1] 32 (0,0)) (by (with_reducible repeat (first|refine qb ?_ _|refine qe ?_|refine qc ?_ _));refine blk_far ?_ NB452_460.out _;(with_reducible repeat (first|refine qb ?_ _|refine qe ?_|refine qc ?_ _));exact BK452.out) hb);replace BK453:=qo.mk (qm (g:=gb453) (o:=.cells #[.slice none 0 0,.slice none 0 0] 32 (0,0)) (by (with_reducible repeat (first|refine qb ?_ _|refine qe ?_|refine qc ?_ _));refine blk_far ?_ NB453_460.out _;(with_reducible repeat (first|refine qb ?_ _|refine qe ?_|refine qc ?_ _));exact BK453.out) hb);replace BK460:=qo.mk (qm (g:=gb460) (o:=.cells #[.slice Ao16 t454.length co16,.slice Ao22 y461.length co22] 32 (0,0)) (by (with_reducible repeat (first|refine qb ?_ _|refine qe ?_|refine qc ?_ _));refine blk_put (cs:=#[.slice Ao16 t454.length co16,.slice Ao20 t457.length co20]) ?_ 1 _ rfl;(with_reducible repeat (first|refine qb ?_ _|refine qe ?_|refine qc ?_ _));exact BK460.out) hb);replace HB:=hs_ HB hb;(try clear hb);(try clear hb2);(try clear hk);(try clear hi);obtain ⟨hcz26_0,hcz26_1,hfz26_0,hfz26_1⟩:=c2f_ BK460.out)|(go_at_call 40;(with_reducible refine (impl_DeviceOk.calls k _ _ t454 _ _ y461 true _ ?side1 ?side2 ?side3 ?side4 A8.out).mono ?_);(case side1=>repeat (first|exact (Kd.R_reads' HO456.out).2.2|(with_reducible refine Kd.C_alloc ?_ _)|(with_reducible refine Kd.C_drewN ?_ _)|(with_reducible refine Kd.C_drew ?_)));(case side2=>exact (Kd.R_reads' HO456.out).2.1);(case side3=>repeat (first|exact (Kd.R_reads' HO463.out).2.2|(with_reducible refine Kd.C_alloc ?_ _)|(with_reducible refine Kd.C_drewN ?_ _)|(with_reducible refine Kd.C_drew ?_)));(case side4=>exact (Kd.R_reads' HO463.out).2.1);rintro e w27 ⟨rfl,hb⟩;replace HO456:=rb_ HO456 hb;replace HO463:=rb_ HO463 hb;replace BK452:=bb_ BK452 hb;replace BK453:=bb_ BK453 hb;replace BK460:=bb_ BK460 hb;replace HB:=hs_ HB hb;(try clear hb);(try clear hb2);(try clear hk);(try clear hi);obtain ⟨hcz28_0,hcz28_1,hfz28_0,hfz28_1⟩:=c2f_ BK460.out;obtain ⟨hcz29_0,hcz29_1,hfz29_0,hfz29_1⟩:=c2f_ BK453.out))
    refine bodyPost_ret (results_ct rfl _ _ gb453 32 #[.slice Ao16 t454.length co16,.slice Ao22 y461.length co22] (0,0) _ rfl (by (with_reducible repeat (first|refine qb ?_ _|refine qe ?_|refine qc ?_ _));refine blk_put (cs:=#[.slice Ao16 t454.length co16,.slice none 0 0]) ?_ 1 _ rfl;(with_reducible repeat (first|refine qb ?_ _|refine qe ?_|refine qc ?_ _));refine blk_put (cs:=#[.slice none 0 0,.slice none 0 0]) ?_ 0 _ rfl;(with_reducible repeat (first|refine qb ?_ _|refine qe ?_|refine qc ?_ _));exact BK453.out) Try.underlying32 rfl (by kernel_rfl)) rfl ?_
    exact ⟨_,_,rt_,by (with_reducible repeat (first|apply Kd.R_alloc|apply Kd.R_drewN|apply Kd.R_drew));exact Kd.R_mono (Kd.R_far (p:=⟨gb453,1,none⟩) (Kd.R_far (p:=⟨gb453,0,none⟩) (Kd.R_types HO456.out BK453.out (by decide)) (fun _ hk=>hk.2) (.slice Ao16 t454.length co16)) (fun _ hk=>hk.2) (.slice Ao22 y461.length co22)) (fun _ hk=>trivial),by (with_reducible repeat (first|apply Kd.R_alloc|apply Kd.R_drewN|apply Kd.R_drew));exact Kd.R_mono (Kd.R_far (p:=⟨gb453,1,none⟩) (Kd.R_far (p:=⟨gb453,0,none⟩) (Kd.R_types HO463.out BK453.out (by decide)) (fun _ hk=>hk.2) (.slice Ao16 t454.length co16)) (fun _ hk=>hk.2) (.slice Ao22 y461.length co22)) (fun _ hk=>trivial),hx_⟩
   replace c9:=Bool.eq_false_iff.mpr c9
   subst c9
   have H1 : (some (([] : List ByteArray),([] : List (S96)),false)) = some (r1,r2,r3):=by rw [if_neg (show ¬ (false = true) by decide)] at H;exact H
   clear H
   have H:=H1
   clear H1
   simp only [Option.some.injEq,Prod.mk.injEq] at H
   obtain ⟨rfl,rfl,rfl⟩:=H
   go_enter Try.func74,Try.ntmps74
   go_wp2_with (first|((with_reducible refine gate_dst (N:=3) rfl ?_);refine box_event ?hg (N:=3) ?hd (cs:=#[.slice A0_0 l0_0.length c0_0,.slice A0_1 l0_1.length c0_1]) (t:=32) ?hr ?_;(case hd=>rfl);(case hg=>rfl);(case hr=>first|(go_simp;done)|(go_simp;rfl));intro gb452 hg w30 hbox hb;have BK452:=qo.mk (hbox);have GW452:=hl_ (w:=w) hg;have GE452:=hl_ (w:=w) hg;replace HB:=hs_ HB hb;clear hb hbox hg)|((with_reducible refine gate_dst (N:=6) rfl ?_);refine box_event ?hg (N:=6) ?hd (cs:=#[.slice none 0 0,.slice none 0 0]) (t:=32) ?hr ?_;(case hd=>rfl);(case hg=>rfl);(case hr=>first|(go_simp;done)|(go_simp;rfl));intro gb453 hg w31 hbox hb;have BK453:=qo.mk (hbox);have GW453:=hl_ (w:=w) hg;have GE453:=hl_ (w:=w) hg;have NB452_453:=qo.mk ((by rw [hg];exact nl_ BK452 : gb452 ≠ gb453));have NB453_452:=qo.mk ((by rw [hg];exact ng_ BK452 : gb453 ≠ gb452));replace BK452:=bb_ BK452 hb;replace HB:=hs_ HB hb;clear hb hbox hg;have hnb32:=NB452_453.out;have hnc32:=NB453_452.out;obtain ⟨hcz33_0,hcz33_1,hfz33_0,hfz33_1⟩:=c2f_ BK452.out)|((with_reducible refine gate_callee (f:=43) rfl ?_);refine goesL_ (some 10) rfl rfl Try.func43 (by kernel_rfl) rfl #[.agg #[.slice A0_0 l0_0.length c0_0,.slice A0_1 l0_1.length c0_1]] rfl sm_ ?_;(with_reducible refine (impl_copyDevice.calls _ _ l0_0 _ _ l0_1 t454 t457 _ ?side1 ?side2 ?side3 ?side4 A4.out).mono ?_);(case side1=>repeat (first|exact (Kd.C_below HR0_0.out HB.out)|(with_reducible refine Kd.C_alloc ?_ _)|(with_reducible refine Kd.C_drewN ?_ _)|(with_reducible refine Kd.C_drew ?_)));(case side2=>exact HC0_0.out);(case side3=>repeat (first|exact (Kd.C_below HR0_1.out HB.out)|(with_reducible refine Kd.C_alloc ?_ _)|(with_reducible refine Kd.C_drewN ?_ _)|(with_reducible refine Kd.C_drew ?_)));(case side4=>exact HC0_1.out);rintro e w34 ⟨v455,v458,rfl,ho0,ho1,hb⟩;refine ⟨_,rfl,?_⟩;have HO456:=qo.mk (Kd.R_lower ho0 (qk hx_));have HO459:=qo.mk (Kd.R_lower ho1 (qk hx_));replace BK452:=bb_ BK452 hb;replace BK453:=bb_ BK453 hb;replace HB:=hs_ HB hb;(try clear hb);(try clear hb2);(try clear hk);(try clear hi);(try clear ho0);(try clear ho1))|((with_reducible refine gate_dst (N:=8) rfl ?_);refine box_event ?hg (N:=8) ?hd (cs:=#[.slice none 0 0,.slice none 0 0]) (t:=32) ?hr ?_;(case hd=>rfl);(case hg=>rfl);(case hr=>first|(go_simp;done)|(go_simp;rfl));intro gb460 hg w35 hbox hb;replace HO456:=rb_ HO456 hb;replace HO459:=rb_ HO459 hb;have BK460:=qo.mk (hbox);have GW460:=hl_ (w:=w) hg;have GE460:=hl_ (w:=w) hg;have NB452_460:=qo.mk ((by rw [hg];exact nl_ BK452 : gb452 ≠ gb460));have NB460_452:=qo.mk ((by rw [hg];exact ng_ BK452 : gb460 ≠ gb452));replace BK452:=bb_ BK452 hb;have NB453_460:=qo.mk ((by rw [hg];exact nl_ BK453 : gb453 ≠ gb460));have NB460_453:=qo.mk ((by rw [hg];exact ng_ BK453 : gb460 ≠ gb453));replace BK453:=bb_ BK453 hb;replace HB:=hs_ HB hb;clear hb hbox hg;obtain ⟨Ao36,co36,eo36⟩:=Kd.R_slice HO456.out;subst eo36;have hnb37:=NB460_452.out;have hnc37:=NB452_460.out;have hnb38:=NB460_453.out;have hnc38:=NB453_460.out;obtain ⟨hcz39_0,hcz39_1,hfz39_0,hfz39_1⟩:=c2f_ BK460.out;obtain ⟨Ao40,co40,eo40⟩:=Kd.R_slice HO459.out;subst eo40)|((with_reducible refine gate_builtin (b:=.append) (xs:=#[.tmp 12,.tmp 16]) rfl ?_);at_builtin;refine Kd.R_append k96 (w0:=w) w.heap.size rfl (.tmp 12) (.tmp 16) 30 96 (.agg #[(.int .i64 0),(.string ⟨#[]⟩)]) 24 rfl Try.underlying30 info96 rfl (by decide) (by omega) (.slice Ao40 t457.length co40) t457 (⟨a1,a2⟩ : S96) [.int .i64 a1,.string a2] (fun _=>True) (fun _=>False) rfl (by first|(go_simp;done)|(go_simp;rfl)) ?aP (fun _ hk=>hk.elim) ?aF ?aO ?aB ?aS ?aL ?_;(case aP=>exact k96_mkM _ _ _ (⟨a1,a2⟩ : S96));(case aB=>exact hx_);(case aF=>exact (fun _ _=>trivial));(case aO=>exact (by (with_reducible repeat (first|apply Kd.R_alloc|apply Kd.R_drewN|apply Kd.R_drew));exact Kd.R_mono (Kd.R_far (p:=⟨gb460,1,none⟩) (Kd.R_far (p:=⟨gb460,0,none⟩) (Kd.R_types HO459.out BK460.out (by decide)) (fun _ hk=>hk.2) (.slice Ao36 t454.length co36)) (fun _ hk=>hk.2) (.slice Ao40 t457.length co40)) (fun _ hk=>trivial)));(case aS=>exact (qk hx_));(case aL=>have:=LMc5.out;omega);intro v462 w41 ho hb hg hat;rw [← Ny461.out] at ho;replace BK452:=qo.mk (blk_grown (g:=gb452) (o:=.cells #[.slice A0_0 l0_0.length c0_0,.slice A0_1 l0_1.length c0_1] 32 (0,0)) (by (with_reducible repeat (first|refine qb ?_ _|refine qe ?_|refine qc ?_ _));refine blk_far ?_ NB452_460.out _;(with_reducible repeat (first|refine qb ?_ _|refine qe ?_|refine qc ?_ _));refine blk_far ?_ NB452_460.out _;(with_reducible repeat (first|refine qb ?_ _|refine qe ?_|refine qc ?_ _));exact BK452.out) hg (Kd.R_ne HO459.out BK452.out (by decide)));replace BK453:=qo.mk (blk_grown (g:=gb453) (o:=.cells #[.slice none 0 0,.slice none 0 0] 32 (0,0)) (by (with_reducible repeat (first|refine qb ?_ _|refine qe ?_|refine qc ?_ _));refine blk_far ?_ NB453_460.out _;(with_reducible repeat (first|refine qb ?_ _|refine qe ?_|refine qc ?_ _));refine blk_far ?_ NB453_460.out _;(with_reducible repeat (first|refine qb ?_ _|refine qe ?_|refine qc ?_ _));exact BK453.out) hg (Kd.R_ne HO459.out BK453.out (by decide)));replace HO456:=qo.mk (Kd.R_over' (by (with_reducible repeat (first|apply Kd.R_alloc|apply Kd.R_drewN|apply Kd.R_drew));exact (Kd.R_mono (Kd.R_far (p:=⟨gb460,1,none⟩) (Kd.R_far (p:=⟨gb460,0,none⟩) (Kd.R_types HO456.out BK460.out (by decide)) (fun _ hk=>hk.2) (.slice Ao36 t454.length co36)) (fun _ hk=>hk.2) (.slice Ao40 t457.length co40)) (fun _ h_=>h_.1))) (Kd.R_typed (by (with_reducible repeat (first|apply Kd.R_alloc|apply Kd.R_drewN|apply Kd.R_drew));exact (Kd.R_mono (Kd.R_far (p:=⟨gb460,1,none⟩) (Kd.R_far (p:=⟨gb460,0,none⟩) (Kd.R_types HO459.out BK460.out (by decide)) (fun _ hk=>hk.2) (.slice Ao36 t454.length co36)) (fun _ hk=>hk.2) (.slice Ao40 t457.length co40)) (fun _ h_=>h_.1)))) (by decide) hg);replace BK460:=qo.mk (blk_grown (g:=gb460) (o:=.cells #[.slice Ao36 t454.length co36,.slice Ao40 t457.length co40] 32 (0,0)) (by (with_reducible repeat (first|refine qb ?_ _|refine qe ?_|refine qc ?_ _));refine blk_put (cs:=#[.slice Ao36 t454.length co36,.slice none 0 0]) ?_ 1 _ rfl;(with_reducible repeat (first|refine qb ?_ _|refine qe ?_|refine qc ?_ _));refine blk_put (cs:=#[.slice none 0 0,.slice none 0 0]) ?_ 0 _ rfl;(with_reducible repeat (first|refine qb ?_ _|refine qe ?_|refine qc ?_ _));exact BK460.out) hg (Kd.R_ne HO459.out BK460.out (by decide)));replace HB:=qo.mk (hb);have HO463:=qo.mk (ho);clear HO459;clear ho hb hg hat;obtain ⟨Ao42,co42,eo42⟩:=Kd.R_slice HO463.out;subst eo42;obtain ⟨hcz43_0,hcz43_1,hfz43_0,hfz43_1⟩:=c2f_ BK460.out;obtain ⟨hcz44_0,hcz44_1,hfz44_0,hfz44_1⟩:=c2f_ BK452.out)|((with_reducible refine gate_callee (f:=40) rfl ?_);refine goesL_ (some 20) rfl rfl Try.func40 (by kernel_rfl) rfl #[.agg #[.slice A0_0 l0_0.length c0_0,.slice A0_1 l0_1.length c0_1]] rfl sm_ ?_;(with_reducible refine (impl_DeviceOk.calls k _ _ l0_0 _ _ l0_1 true _ ?side1 ?side2 ?side3 ?side4 A6.out).mono ?_);(case side1=>exact Kd.C_below HR0_0.out hx_);(case side2=>exact HC0_0.out);(case side3=>exact Kd.C_below HR0_1.out hx_);(case side4=>exact HC0_1.out);rintro e w45 ⟨rfl,hb⟩;refine ⟨_,rfl,?_⟩;replace HO456:=qo.mk (Kd.R_below (by (with_reducible repeat (first|apply Kd.R_alloc|apply Kd.R_drewN|apply Kd.R_drew));exact (Kd.R_mono (Kd.R_far (p:=⟨gb460,1,none⟩) (Kd.R_types HO456.out BK460.out (by decide)) (fun _ hk=>hk.2) (.slice Ao42 y461.length co42)) (fun _ h_=>h_.1))) hb);replace HO463:=qo.mk (Kd.R_below (by (with_reducible repeat (first|apply Kd.R_alloc|apply Kd.R_drewN|apply Kd.R_drew));exact (Kd.R_mono (Kd.R_far (p:=⟨gb460,1,none⟩) (Kd.R_types HO463.out BK460.out (by decide)) (fun _ hk=>hk.2) (.slice Ao42 y461.length co42)) (fun _ h_=>h_.1))) hb);replace BK452:=qo.mk (qm (g:=gb452) (o:=.cells #[.slice A0_0 l0_0.length c0_0,.slice A0_1 l0_1.length c0_1] 32 (0,0)) (by (with_reducible repeat (first|refine qb ?_ _|refine qe ?_|refine qc ?_ _));refine blk_far ?_ NB452_460.out _;(with_reducible repeat (first|refine qb ?_ _|refine qe ?_|refine qc ?_ _));exact BK452.out) hb);replace BK453:=qo.mk (qm (g:=gb453) (o:=.cells #[.slice none 0 0,.slice none 0 0] 32 (0,0)) (by (with_reducible repeat (first|refine qb ?_ _|refine qe ?_|refine qc ?_ _));refine blk_far ?_ NB453_460.out _;(with_reducible repeat (first|refine qb ?_ _|refine qe ?_|refine qc ?_ _));exact BK453.out) hb);replace BK460:=qo.mk (qm (g:=gb460) (o:=.cells #[.slice Ao36 t454.length co36,.slice Ao42 y461.length co42] 32 (0,0)) (by (with_reducible repeat (first|refine qb ?_ _|refine qe ?_|refine qc ?_ _));refine blk_put (cs:=#[.slice Ao36 t454.length co36,.slice Ao40 t457.length co40]) ?_ 1 _ rfl;(with_reducible repeat (first|refine qb ?_ _|refine qe ?_|refine qc ?_ _));exact BK460.out) hb);replace HB:=hs_ HB hb;(try clear hb);(try clear hb2);(try clear hk);(try clear hi);obtain ⟨hcz46_0,hcz46_1,hfz46_0,hfz46_1⟩:=c2f_ BK460.out)|(go_at_call 40;(with_reducible refine (impl_DeviceOk.calls k _ _ t454 _ _ y461 false _ ?side1 ?side2 ?side3 ?side4 A8.out).mono ?_);(case side1=>repeat (first|exact (Kd.R_reads' HO456.out).2.2|(with_reducible refine Kd.C_alloc ?_ _)|(with_reducible refine Kd.C_drewN ?_ _)|(with_reducible refine Kd.C_drew ?_)));(case side2=>exact (Kd.R_reads' HO456.out).2.1);(case side3=>repeat (first|exact (Kd.R_reads' HO463.out).2.2|(with_reducible refine Kd.C_alloc ?_ _)|(with_reducible refine Kd.C_drewN ?_ _)|(with_reducible refine Kd.C_drew ?_)));(case side4=>exact (Kd.R_reads' HO463.out).2.1);rintro e w47 ⟨rfl,hb⟩;replace HO456:=rb_ HO456 hb;replace HO463:=rb_ HO463 hb;replace BK452:=bb_ BK452 hb;replace BK453:=bb_ BK453 hb;replace BK460:=bb_ BK460 hb;replace HB:=hs_ HB hb;(try clear hb);(try clear hb2);(try clear hk);(try clear hi);obtain ⟨hcz48_0,hcz48_1,hfz48_0,hfz48_1⟩:=c2f_ BK453.out))
   refine bodyPost_ret (results_ct rfl _ _ gb453 32 #[.slice none 0 0,.slice none 0 0] (0,0) _ rfl (by (with_reducible repeat (first|refine qb ?_ _|refine qe ?_|refine qc ?_ _));refine blk_put (cs:=#[.slice none 0 0,.slice none 0 0]) ?_ 1 _ rfl;(with_reducible repeat (first|refine qb ?_ _|refine qe ?_|refine qc ?_ _));refine blk_put (cs:=#[.slice none 0 0,.slice none 0 0]) ?_ 0 _ rfl;(with_reducible repeat (first|refine qb ?_ _|refine qe ?_|refine qc ?_ _));exact BK453.out) Try.underlying32 rfl (by kernel_rfl)) rfl ?_
   exact ⟨_,_,rt_,by first|exact Kd.R_nil _ _ _ _ _|exact Kd.N_nil _ _ _ _ _|exact Kd.V_nil _ _ _ _ _|exact Kd.Q_nil _ _ _ _ _|exact Kd.S_nil _ _ _ _ _,by first|exact Kd.R_nil _ _ _ _ _|exact Kd.N_nil _ _ _ _ _|exact Kd.V_nil _ _ _ _ _|exact Kd.Q_nil _ _ _ _ _|exact Kd.S_nil _ _ _ _ _,hx_⟩
  replace c7:=Bool.eq_false_iff.mpr c7
  subst c7
  have H1 : (some (([] : List ByteArray),([] : List (S96)),false)) = some (r1,r2,r3):=by rw [if_neg (show ¬ (false = true) by decide)] at H;exact H
  clear H
  have H:=H1
  clear H1
  simp only [Option.some.injEq,Prod.mk.injEq] at H
  obtain ⟨rfl,rfl,rfl⟩:=H
  go_enter Try.func74,Try.ntmps74
  go_wp2_with (first|((with_reducible refine gate_dst (N:=3) rfl ?_);refine box_event ?hg (N:=3) ?hd (cs:=#[.slice A0_0 l0_0.length c0_0,.slice A0_1 l0_1.length c0_1]) (t:=32) ?hr ?_;(case hd=>rfl);(case hg=>rfl);(case hr=>first|(go_simp;done)|(go_simp;rfl));intro gb452 hg w49 hbox hb;have BK452:=qo.mk (hbox);have GW452:=hl_ (w:=w) hg;have GE452:=hl_ (w:=w) hg;replace HB:=hs_ HB hb;clear hb hbox hg)|((with_reducible refine gate_dst (N:=6) rfl ?_);refine box_event ?hg (N:=6) ?hd (cs:=#[.slice none 0 0,.slice none 0 0]) (t:=32) ?hr ?_;(case hd=>rfl);(case hg=>rfl);(case hr=>first|(go_simp;done)|(go_simp;rfl));intro gb453 hg w50 hbox hb;have BK453:=qo.mk (hbox);have GW453:=hl_ (w:=w) hg;have GE453:=hl_ (w:=w) hg;have NB452_453:=qo.mk ((by rw [hg];exact nl_ BK452 : gb452 ≠ gb453));have NB453_452:=qo.mk ((by rw [hg];exact ng_ BK452 : gb453 ≠ gb452));replace BK452:=bb_ BK452 hb;replace HB:=hs_ HB hb;clear hb hbox hg;have hnb51:=NB452_453.out;have hnc51:=NB453_452.out;obtain ⟨hcz52_0,hcz52_1,hfz52_0,hfz52_1⟩:=c2f_ BK452.out)|((with_reducible refine gate_callee (f:=43) rfl ?_);refine goesL_ (some 10) rfl rfl Try.func43 (by kernel_rfl) rfl #[.agg #[.slice A0_0 l0_0.length c0_0,.slice A0_1 l0_1.length c0_1]] rfl sm_ ?_;(with_reducible refine (impl_copyDevice.calls _ _ l0_0 _ _ l0_1 t454 t457 _ ?side1 ?side2 ?side3 ?side4 A4.out).mono ?_);(case side1=>repeat (first|exact (Kd.C_below HR0_0.out HB.out)|(with_reducible refine Kd.C_alloc ?_ _)|(with_reducible refine Kd.C_drewN ?_ _)|(with_reducible refine Kd.C_drew ?_)));(case side2=>exact HC0_0.out);(case side3=>repeat (first|exact (Kd.C_below HR0_1.out HB.out)|(with_reducible refine Kd.C_alloc ?_ _)|(with_reducible refine Kd.C_drewN ?_ _)|(with_reducible refine Kd.C_drew ?_)));(case side4=>exact HC0_1.out);rintro e w53 ⟨v455,v458,rfl,ho0,ho1,hb⟩;refine ⟨_,rfl,?_⟩;have HO456:=qo.mk (Kd.R_lower ho0 (qk hx_));have HO459:=qo.mk (Kd.R_lower ho1 (qk hx_));replace BK452:=bb_ BK452 hb;replace BK453:=bb_ BK453 hb;replace HB:=hs_ HB hb;(try clear hb);(try clear hb2);(try clear hk);(try clear hi);(try clear ho0);(try clear ho1))|((with_reducible refine gate_dst (N:=8) rfl ?_);refine box_event ?hg (N:=8) ?hd (cs:=#[.slice none 0 0,.slice none 0 0]) (t:=32) ?hr ?_;(case hd=>rfl);(case hg=>rfl);(case hr=>first|(go_simp;done)|(go_simp;rfl));intro gb460 hg w54 hbox hb;replace HO456:=rb_ HO456 hb;replace HO459:=rb_ HO459 hb;have BK460:=qo.mk (hbox);have GW460:=hl_ (w:=w) hg;have GE460:=hl_ (w:=w) hg;have NB452_460:=qo.mk ((by rw [hg];exact nl_ BK452 : gb452 ≠ gb460));have NB460_452:=qo.mk ((by rw [hg];exact ng_ BK452 : gb460 ≠ gb452));replace BK452:=bb_ BK452 hb;have NB453_460:=qo.mk ((by rw [hg];exact nl_ BK453 : gb453 ≠ gb460));have NB460_453:=qo.mk ((by rw [hg];exact ng_ BK453 : gb460 ≠ gb453));replace BK453:=bb_ BK453 hb;replace HB:=hs_ HB hb;clear hb hbox hg;obtain ⟨Ao55,co55,eo55⟩:=Kd.R_slice HO456.out;subst eo55;have hnb56:=NB460_452.out;have hnc56:=NB452_460.out;have hnb57:=NB460_453.out;have hnc57:=NB453_460.out;obtain ⟨hcz58_0,hcz58_1,hfz58_0,hfz58_1⟩:=c2f_ BK460.out;obtain ⟨Ao59,co59,eo59⟩:=Kd.R_slice HO459.out;subst eo59)|((with_reducible refine gate_builtin (b:=.append) (xs:=#[.tmp 12,.tmp 16]) rfl ?_);at_builtin;refine Kd.R_append k96 (w0:=w) w.heap.size rfl (.tmp 12) (.tmp 16) 30 96 (.agg #[(.int .i64 0),(.string ⟨#[]⟩)]) 24 rfl Try.underlying30 info96 rfl (by decide) (by omega) (.slice Ao59 t457.length co59) t457 (⟨a1,a2⟩ : S96) [.int .i64 a1,.string a2] (fun _=>True) (fun _=>False) rfl (by first|(go_simp;done)|(go_simp;rfl)) ?aP (fun _ hk=>hk.elim) ?aF ?aO ?aB ?aS ?aL ?_;(case aP=>exact k96_mkM _ _ _ (⟨a1,a2⟩ : S96));(case aB=>exact hx_);(case aF=>exact (fun _ _=>trivial));(case aO=>exact (by (with_reducible repeat (first|apply Kd.R_alloc|apply Kd.R_drewN|apply Kd.R_drew));exact Kd.R_mono (Kd.R_far (p:=⟨gb460,1,none⟩) (Kd.R_far (p:=⟨gb460,0,none⟩) (Kd.R_types HO459.out BK460.out (by decide)) (fun _ hk=>hk.2) (.slice Ao55 t454.length co55)) (fun _ hk=>hk.2) (.slice Ao59 t457.length co59)) (fun _ hk=>trivial)));(case aS=>exact (qk hx_));(case aL=>have:=LMc5.out;omega);intro v462 w60 ho hb hg hat;rw [← Ny461.out] at ho;replace BK452:=qo.mk (blk_grown (g:=gb452) (o:=.cells #[.slice A0_0 l0_0.length c0_0,.slice A0_1 l0_1.length c0_1] 32 (0,0)) (by (with_reducible repeat (first|refine qb ?_ _|refine qe ?_|refine qc ?_ _));refine blk_far ?_ NB452_460.out _;(with_reducible repeat (first|refine qb ?_ _|refine qe ?_|refine qc ?_ _));refine blk_far ?_ NB452_460.out _;(with_reducible repeat (first|refine qb ?_ _|refine qe ?_|refine qc ?_ _));exact BK452.out) hg (Kd.R_ne HO459.out BK452.out (by decide)));replace BK453:=qo.mk (blk_grown (g:=gb453) (o:=.cells #[.slice none 0 0,.slice none 0 0] 32 (0,0)) (by (with_reducible repeat (first|refine qb ?_ _|refine qe ?_|refine qc ?_ _));refine blk_far ?_ NB453_460.out _;(with_reducible repeat (first|refine qb ?_ _|refine qe ?_|refine qc ?_ _));refine blk_far ?_ NB453_460.out _;(with_reducible repeat (first|refine qb ?_ _|refine qe ?_|refine qc ?_ _));exact BK453.out) hg (Kd.R_ne HO459.out BK453.out (by decide)));replace HO456:=qo.mk (Kd.R_over' (by (with_reducible repeat (first|apply Kd.R_alloc|apply Kd.R_drewN|apply Kd.R_drew));exact (Kd.R_mono (Kd.R_far (p:=⟨gb460,1,none⟩) (Kd.R_far (p:=⟨gb460,0,none⟩) (Kd.R_types HO456.out BK460.out (by decide)) (fun _ hk=>hk.2) (.slice Ao55 t454.length co55)) (fun _ hk=>hk.2) (.slice Ao59 t457.length co59)) (fun _ h_=>h_.1))) (Kd.R_typed (by (with_reducible repeat (first|apply Kd.R_alloc|apply Kd.R_drewN|apply Kd.R_drew));exact (Kd.R_mono (Kd.R_far (p:=⟨gb460,1,none⟩) (Kd.R_far (p:=⟨gb460,0,none⟩) (Kd.R_types HO459.out BK460.out (by decide)) (fun _ hk=>hk.2) (.slice Ao55 t454.length co55)) (fun _ hk=>hk.2) (.slice Ao59 t457.length co59)) (fun _ h_=>h_.1)))) (by decide) hg);replace BK460:=qo.mk (blk_grown (g:=gb460) (o:=.cells #[.slice Ao55 t454.length co55,.slice Ao59 t457.length co59] 32 (0,0)) (by (with_reducible repeat (first|refine qb ?_ _|refine qe ?_|refine qc ?_ _));refine blk_put (cs:=#[.slice Ao55 t454.length co55,.slice none 0 0]) ?_ 1 _ rfl;(with_reducible repeat (first|refine qb ?_ _|refine qe ?_|refine qc ?_ _));refine blk_put (cs:=#[.slice none 0 0,.slice none 0 0]) ?_ 0 _ rfl;(with_reducible repeat (first|refine qb ?_ _|refine qe ?_|refine qc ?_ _));exact BK460.out) hg (Kd.R_ne HO459.out BK460.out (by decide)));replace HB:=qo.mk (hb);have HO463:=qo.mk (ho);clear HO459;clear ho hb hg hat;obtain ⟨Ao61,co61,eo61⟩:=Kd.R_slice HO463.out;subst eo61;obtain ⟨hcz62_0,hcz62_1,hfz62_0,hfz62_1⟩:=c2f_ BK460.out;obtain ⟨hcz63_0,hcz63_1,hfz63_0,hfz63_1⟩:=c2f_ BK452.out)|((with_reducible refine gate_callee (f:=40) rfl ?_);refine goesL_ (some 20) rfl rfl Try.func40 (by kernel_rfl) rfl #[.agg #[.slice A0_0 l0_0.length c0_0,.slice A0_1 l0_1.length c0_1]] rfl sm_ ?_;(with_reducible refine (impl_DeviceOk.calls k _ _ l0_0 _ _ l0_1 false _ ?side1 ?side2 ?side3 ?side4 A6.out).mono ?_);(case side1=>exact Kd.C_below HR0_0.out hx_);(case side2=>exact HC0_0.out);(case side3=>exact Kd.C_below HR0_1.out hx_);(case side4=>exact HC0_1.out);rintro e w64 ⟨rfl,hb⟩;refine ⟨_,rfl,?_⟩;replace HO456:=qo.mk (Kd.R_below (by (with_reducible repeat (first|apply Kd.R_alloc|apply Kd.R_drewN|apply Kd.R_drew));exact (Kd.R_mono (Kd.R_far (p:=⟨gb460,1,none⟩) (Kd.R_types HO456.out BK460.out (by decide)) (fun _ hk=>hk.2) (.slice Ao61 y461.length co61)) (fun _ h_=>h_.1))) hb);replace HO463:=qo.mk (Kd.R_below (by (with_reducible repeat (first|apply Kd.R_alloc|apply Kd.R_drewN|apply Kd.R_drew));exact (Kd.R_mono (Kd.R_far (p:=⟨gb460,1,none⟩) (Kd.R_types HO463.out BK460.out (by decide)) (fun _ hk=>hk.2) (.slice Ao61 y461.length co61)) (fun _ h_=>h_.1))) hb);replace BK452:=qo.mk (qm (g:=gb452) (o:=.cells #[.slice A0_0 l0_0.length c0_0,.slice A0_1 l0_1.length c0_1] 32 (0,0)) (by (with_reducible repeat (first|refine qb ?_ _|refine qe ?_|refine qc ?_ _));refine blk_far ?_ NB452_460.out _;(with_reducible repeat (first|refine qb ?_ _|refine qe ?_|refine qc ?_ _));exact BK452.out) hb);replace BK453:=qo.mk (qm (g:=gb453) (o:=.cells #[.slice none 0 0,.slice none 0 0] 32 (0,0)) (by (with_reducible repeat (first|refine qb ?_ _|refine qe ?_|refine qc ?_ _));refine blk_far ?_ NB453_460.out _;(with_reducible repeat (first|refine qb ?_ _|refine qe ?_|refine qc ?_ _));exact BK453.out) hb);replace BK460:=qo.mk (qm (g:=gb460) (o:=.cells #[.slice Ao55 t454.length co55,.slice Ao61 y461.length co61] 32 (0,0)) (by (with_reducible repeat (first|refine qb ?_ _|refine qe ?_|refine qc ?_ _));refine blk_put (cs:=#[.slice Ao55 t454.length co55,.slice Ao59 t457.length co59]) ?_ 1 _ rfl;(with_reducible repeat (first|refine qb ?_ _|refine qe ?_|refine qc ?_ _));exact BK460.out) hb);replace HB:=hs_ HB hb;(try clear hb);(try clear hb2);(try clear hk);(try clear hi);obtain ⟨hcz65_0,hcz65_1,hfz65_0,hfz65_1⟩:=c2f_ BK453.out))
  refine bodyPost_ret (results_ct rfl _ _ gb453 32 #[.slice none 0 0,.slice none 0 0] (0,0) _ rfl (by (with_reducible repeat (first|refine qb ?_ _|refine qe ?_|refine qc ?_ _));refine blk_put (cs:=#[.slice none 0 0,.slice none 0 0]) ?_ 1 _ rfl;(with_reducible repeat (first|refine qb ?_ _|refine qe ?_|refine qc ?_ _));refine blk_put (cs:=#[.slice none 0 0,.slice none 0 0]) ?_ 0 _ rfl;(with_reducible repeat (first|refine qb ?_ _|refine qe ?_|refine qc ?_ _));exact BK453.out) Try.underlying32 rfl (by kernel_rfl)) rfl ?_
  exact ⟨_,_,rt_,by first|exact Kd.R_nil _ _ _ _ _|exact Kd.N_nil _ _ _ _ _|exact Kd.V_nil _ _ _ _ _|exact Kd.Q_nil _ _ _ _ _|exact Kd.S_nil _ _ _ _ _,by first|exact Kd.R_nil _ _ _ _ _|exact Kd.N_nil _ _ _ _ _|exact Kd.V_nil _ _ _ _ _|exact Kd.Q_nil _ _ _ _ _|exact Kd.S_nil _ _ _ _ _,hx_⟩
 rw [if_neg c5] at H
 exact absurd H (by simp)

end Go.Proofs.Ytcnoccefdejphaa.QFnExactPlaceTree
