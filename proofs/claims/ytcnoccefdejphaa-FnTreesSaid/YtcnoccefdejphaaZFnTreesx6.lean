/- Lean functions for the Go functions that the law FnTrees reaches, and that each Go function comes to just its Lean function's answer; by a program of this session. -/
import Derived.Test.YtcnoccefdejphaaZFnTreesx0
import Derived.Test.YtcnoccefdejphaaZFnTreesx2
namespace Go.Proofs.Ytcnoccefdejphaa.QFnTrees
open Go.RowKit Go.Proofs.YtcnoccefdejphaaW.PrintWords Go.Proofs.YtcnoccefdejphaaW.PrintLast Go.Proofs.YtcnoccefdejphaaW.PrintMore
attribute [local go_sem] max2_int min2_int max_two min_two max_three min_three max_four min_four   -- for this text's walks alone
set_option linter.unusedVariables false
set_option linter.unusedSimpArgs false

/-! ### impl_readSector: function 72 -/
def impl_readSector.l0 : Nat → Int → Int → List ByteArray → List (S96) → Option (ByteArray)
 | 0,_,_,_,_=>none
 | k + 1,x1,x5,x187000,x187001=>if x5 ≥ 0 then (if 0 ≤ x5 then (if x5 < (x187001.length : Int) then (if ((rd_T96 x187001 x5).f0) = x1 then (some ((rd_T96 x187001 x5).f1)) else (impl_readSector.l0 k x1 (wrap64 (x5 - 1)) x187000 x187001)) else (none)) else (none)) else (if 0 ≤ x1 then (if x1 < (x187000.length : Int) then (some (rdOf ByteArray.empty x187000 x1)) else (none)) else (none))
def impl_readSector.f (k : Nat) (l0_0 : List ByteArray) (l0_1 : List (S96)) (a1 : Int) : Option (ByteArray):=impl_readSector.l0 k a1 (wrap64 ((l0_1.length : Int) - 1)) l0_0 l0_1
theorem impl_readSector.mono_l : ∀ k,(∀ y0 y1 y2 y3,LeO (impl_readSector.l0 k y0 y1 y2 y3) (impl_readSector.l0 (k + 1) y0 y1 y2 y3))
 | 0=>fun _ _ _ _ r h=>by simp [impl_readSector.l0] at h
 | k + 1=>by
  have ih0:=impl_readSector.mono_l k
  intro y0 y1 y2 y3
  unfold impl_readSector.l0
  repeat' first|(with_reducible first|exact ih0 _ _ _ _|exact LeO.refl _|exact LeO.none _|refine LeO.ite ?_ ?_|refine LeO.bind ?_ (fun _=>?_))|exact ih0 _ _ _ _|exact LeO.none _|refine LeO.ite ?_ ?_|refine LeO.bind ?_ (fun _=>?_)
theorem impl_readSector.mono : ∀ a0 a1 a2 k,LeO (impl_readSector.f k a0 a1 a2) (impl_readSector.f (k + 1) a0 a1 a2):=by
 intro a0 a1 a2 k
 have ih0:=impl_readSector.mono_l k
 unfold impl_readSector.f
 repeat' first|(with_reducible first|exact ih0 _ _ _ _|exact LeO.refl _|exact LeO.none _|refine LeO.ite ?_ ?_|refine LeO.bind ?_ (fun _=>?_))|exact ih0 _ _ _ _|exact LeO.none _|refine LeO.ite ?_ ?_|refine LeO.bind ?_ (fun _=>?_)
set_option maxHeartbeats 8000000 in
set_option maxRecDepth 100000 in
theorem impl_readSector.calls (k : Nat) (A0_0 : Option Addr) (c0_0 : Nat) (l0_0 : List ByteArray) (A0_1 : Option Addr) (c0_1 : Nat) (l0_1 : List (S96)) (a1 : Int) (r : ByteArray) (w : World) (hr0_0 : Kd.C Kd.string w A0_0 l0_0.length l0_0) (hc0_0 : l0_0.length ≤ c0_0) (hr0_1 : Kd.C k96 w A0_1 l0_1.length l0_1) (hc0_1 : l0_1.length ≤ c0_1) (h : impl_readSector.f k l0_0 l0_1 a1 = some r) :
  Calls Try.prog 72 #[.agg #[.slice A0_0 l0_0.length c0_0,.slice A0_1 l0_1.length c0_1],.int .i64 a1] w fun e w'=>e = .returned (.string r) ∧ Below w.heap.size w w':=by
 have hu32:=Try.underlying32
 have HR0_0:=qo.mk hr0_0
 have HC0_0:=qo.mk hc0_0
 clear hr0_0 hc0_0
 have HR0_1:=qo.mk hr0_1
 have HC0_1:=qo.mk hc0_1
 clear hr0_1 hc0_1
 have HB:=qo.mk (Below.refl w.heap.size w)
 have H : (impl_readSector.l0 k a1 (wrap64 ((l0_1.length : Int) - 1)) l0_0 l0_1) = some r:=h
 clear h
 have H':=qo.mk H
 clear H
 go_enter Try.func72,Try.ntmps72
 go_wp2_with (first|((with_reducible refine gate_dst (N:=2) rfl ?_);refine box_event ?hg (N:=2) ?hd (cs:=#[.slice A0_0 l0_0.length c0_0,.slice A0_1 l0_1.length c0_1]) (t:=32) ?hr ?_;(case hd=>rfl);(case hg=>rfl);(case hr=>first|(go_simp;done)|(go_simp;rfl));intro gb186 hg w3 hbox hb;have BK186:=qo.mk (hbox);have GW186:=hl_ (w:=w) hg;have GE186:=hl_ (w:=w) hg;replace HB:=hs_ HB hb;clear hb hbox hg;obtain ⟨hcz4_0,hcz4_1,hfz4_0,hfz4_1⟩:=c2f_ BK186.out))
 go_loopg [5] k (fun kq v5 w'=>∃ (x5_1 : Int),v5 = .int .i64 x5_1 ∧ qo (impl_readSector.l0 kq a1 x5_1 l0_0 l0_1 = some r) ∧ qo (kq ≤ k) ∧ qo (w'.heap[gb186]? = some (.cells #[(.slice A0_0 l0_0.length c0_0),(.slice A0_1 l0_1.length c0_1)] 32 (0,0))) ∧ qo (Below w.heap.size w w'))
 case atStart=>exact ⟨(wrap64 ((l0_1.length : Int) - 1)),rs_,H',⟨Nat.le_refl _⟩,(bx_ BK186),⟨hx_⟩⟩
 clear H'
 try clear p2
 try clear hcz4_0
 try clear hcz4_1
 try clear hfz4_0
 try clear hfz4_1
 obtain ⟨x5_1,rfl,HA,HK1,BK186,HB⟩:=hrel
 obtain _|k1:=gk
 ·exact absurd HA.out (by simp [impl_readSector.l0])
 have H:=HA.out
 clear HA
 simp only [impl_readSector.l0] at H
 by_cases c5 : x5_1 ≥ 0
 ·rw [if_pos c5] at H
  have c5b0 : decide (0 ≤ x5_1) = true:=decide_eq_true c5
  clear c5
  by_cases c6 : 0 ≤ x5_1
  ·rw [if_pos c6] at H
   have c6b0 : decide (0 ≤ x5_1) = true:=decide_eq_true c6
   clear c6
   by_cases c7 : x5_1 < (l0_1.length : Int)
   ·rw [if_pos c7] at H
    have c7b0 : decide (x5_1 < (l0_1.length : Int)) = true:=decide_eq_true c7
    clear c7
    by_cases c8 : ((rd_T96 l0_1 x5_1).f0) = a1
    ·rw [if_pos c8] at H
     have c8b0 : (((rd_T96 l0_1 x5_1).f0) == a1) = true:=beq_iff_eq.mpr c8
     have c8b1 : (((rd_T96 l0_1 x5_1).f0) != a1) = false:=bne_eq_false_iff_eq.mpr c8
     clear c8
     obtain rfl:=Option.some.inj H
     obtain ⟨hcz9_0,hcz9_1,hfz9_0,hfz9_1⟩:=c2f_ BK186.out
     have p187 : 0 ≤ (x5_1 : Int):=dt_
     have q187 : x5_1 < (l0_1.length : Int):=dt_
     obtain ⟨ad187,e187,hx187_0,hx187_1⟩:=at_T96 HR0_1.out x5_1 p187 q187
     cases e187
     replace hx187_0:=cb_ HB hx187_0
     replace hx187_1:=cb_ HB hx187_1
     replace p187:=eq_true p187
     replace q187:=eq_true q187
     have p188 : 0 ≤ (x5_1 : Int):=dt_
     have q188 : x5_1 < (l0_1.length : Int):=dt_
     obtain ⟨ad188,e188,hx188_0,hx188_1⟩:=at_T96 HR0_1.out x5_1 p188 q188
     obtain rfl : ad187 = ad188:=(by injection e188)
     replace hx188_0:=cb_ HB hx188_0
     replace hx188_1:=cb_ HB hx188_1
     replace p188:=eq_true p188
     replace q188:=eq_true q188
     go_wp2
     go_ret
     exact ⟨rt_,hx_⟩
    rw [if_neg c8] at H
    have c8b0 : (((rd_T96 l0_1 x5_1).f0) == a1) = false:=beq_eq_false_iff_ne.mpr c8
    have c8b1 : (((rd_T96 l0_1 x5_1).f0) != a1) = true:=bne_iff_ne.mpr c8
    have H':=qo.mk H
    clear H
    obtain ⟨hcz10_0,hcz10_1,hfz10_0,hfz10_1⟩:=c2f_ BK186.out
    have p187 : 0 ≤ (x5_1 : Int):=dt_
    have q187 : x5_1 < (l0_1.length : Int):=dt_
    obtain ⟨ad187,e187,hx187_0,hx187_1⟩:=at_T96 HR0_1.out x5_1 p187 q187
    cases e187
    replace hx187_0:=cb_ HB hx187_0
    replace hx187_1:=cb_ HB hx187_1
    replace p187:=eq_true p187
    replace q187:=eq_true q187
    go_wp2
    go_roundg k1
    case measure=>have:=HK1.out;omega
    case rel=>exact ⟨(wrap64 (x5_1 - 1)),rs_,H',⟨by have:=HK1.out;omega⟩,(bx_ BK186),⟨hx_⟩⟩
   rw [if_neg c7] at H
   exact absurd H (by simp)
  rw [if_neg c6] at H
  exact absurd H (by simp)
 rw [if_neg c5] at H
 have c5b0 : decide (0 ≤ x5_1) = false:=decide_eq_false c5
 clear c5
 by_cases c11 : 0 ≤ a1
 ·rw [if_pos c11] at H
  have c11b0 : decide (0 ≤ a1) = true:=decide_eq_true c11
  clear c11
  by_cases c12 : a1 < (l0_0.length : Int)
  ·rw [if_pos c12] at H
   have c12b0 : decide (a1 < (l0_0.length : Int)) = true:=decide_eq_true c12
   clear c12
   obtain rfl:=Option.some.inj H
   obtain ⟨hcz13_0,hcz13_1,hfz13_0,hfz13_1⟩:=c2f_ BK186.out
   have p189 : 0 ≤ (a1 : Int):=dt_
   have q189 : a1 < (l0_0.length : Int):=dt_
   obtain ⟨ad189,e189,hx189_0⟩:=Kd.at_string HR0_0.out a1 p189 q189
   cases e189
   replace hx189_0:=cb_ HB hx189_0
   replace p189:=eq_true p189
   replace q189:=eq_true q189
   go_wp2
   go_ret
   exact ⟨rt_,hx_⟩
  rw [if_neg c12] at H
  exact absurd H (by simp)
 rw [if_neg c11] at H
 exact absurd H (by simp)

/-! ### impl_copyInts: function 93 -/
def impl_copyInts.f (l0 : List Int) : Option (List Int):=if ([] : List Int).length + l0.length < 17592186044416 then (some (([] : List Int) ++ l0)) else (none)
set_option maxHeartbeats 8000000 in
set_option maxRecDepth 100000 in
theorem impl_copyInts.calls (A0 : Option Addr) (c0 : Nat) (l0 : List Int) (r : List Int) (w : World) (hr0 : Kd.C (Kd.int .i64) w A0 l0.length l0) (hc0 : l0.length ≤ c0) (h : impl_copyInts.f l0 = some r) :
  Calls Try.prog 93 #[.slice A0 l0.length c0] w fun e w'=>∃ v0_ : Value,e = .returned (v0_) ∧ Kd.R (Kd.int .i64) 3 w' w.heap.size (fun _=>True) v0_ r ∧ Below w.heap.size w w':=by
 have HR0:=qo.mk hr0
 have HC0:=qo.mk hc0
 clear hr0 hc0
 have HB:=qo.mk (Below.refl w.heap.size w)
 have H : (if ([] : List Int).length + l0.length < 17592186044416 then (some (([] : List Int) ++ l0)) else (none)) = some r:=h
 clear h
 by_cases c2 : ([] : List Int).length + l0.length < 17592186044416
 ·rw [if_pos c2] at H
  have LMc2:=qo.mk c2
  clear c2
  obtain ⟨y190,hy190⟩ : ∃ y_ : List Int,y_ = (([] : List Int) ++ l0):=⟨_,rfl⟩
  replace H : (some y190) = some r:=by first|(rw [hy190];with_reducible exact H)|(have H2_:=(Option.bind_some _ _).symm.trans H;rw [hy190];with_reducible exact H2_)|(have H2_:=(Option.bind_some _ _).symm.trans H;with_reducible exact H2_)|with_reducible exact H|(rw [hy190];exact H)|exact H
  have Ny190:=qo.mk hy190
  clear hy190
  obtain rfl:=Option.some.inj H
  go_enter Try.func93,Try.ntmps93
  go_wp2_with (first|((with_reducible refine gate_builtin (b:=.append) (xs:=#[.const (.slice none 0 0),.tmp 3]) rfl ?_);at_builtin;refine Kd.R_append_rows (Kd.int .i64) (w0:=w) w.heap.size rfl (.const (.slice none 0 0)) (.tmp 3) 26 3 (.int .i64 0) 8 rfl Try.underlying26 info3 rfl (by decide) (by omega) (.slice none 0 0) ([] : List Int) l0 _ _ _ (fun _=>True) (fun _=>False) rfl rfl ?aO ?aR (fun _ _ h=>h) (fun _ h=>h.elim) ?aF ?aB ?aS ?aL ?_;(case aR=>repeat (first|exact HR0.out|(with_reducible refine Kd.C_alloc ?_ _)|(with_reducible refine Kd.C_drewN ?_ _)|(with_reducible refine Kd.C_drew ?_)));(case aB=>exact hx_);(case aF=>exact (fun _ _=>trivial));(case aO=>exact ((Kd.R_nil _ _ _ _ (fun _=>True))));(case aS=>exact (qk hx_));(case aL=>have:=LMc2.out;omega);intro v191 w3 ho hb hg hat;rw [← Ny190.out] at ho;replace HB:=qo.mk (hb);have HO192:=qo.mk (ho);clear ho hb hg hat))
  go_ret
  exact ⟨_,rt_,by (with_reducible repeat (first|apply Kd.R_alloc|apply Kd.R_drewN|apply Kd.R_drew));exact HO192.out,hx_⟩
 rw [if_neg c2] at H
 exact absurd H (by simp)

-- NOT PRINTED: function 73 (impl_with)

/-! ### impl_WriteSector: function 74 -/
def impl_WriteSector.f (k : Nat) (l0_0 : List ByteArray) (l0_1 : List (S96)) (a1 : Int) (a2 : ByteArray) : Option (List ByteArray × (List (S96)) × Bool):=(impl_copyDevice.f l0_0 l0_1).bind fun bt237=>(if bt237.2.length < 5864062014805 then ((some (bt237.2 ++ [(⟨a1,a2⟩ : S96)] : List (S96))).bind fun y244=>((impl_DeviceOk.f k l0_0 l0_1).bind fun t247=>(if t247 = true then ((impl_DeviceOk.f k bt237.1 y244).bind fun t248=>(if t248 = true then (some (bt237.1,y244,true)) else (some (([] : List ByteArray),([] : List (S96)),false)))) else (some (([] : List ByteArray),([] : List (S96)),false))))) else (none))
theorem impl_WriteSector.mono : ∀ a0 a1 a2 a3 k,LeO (impl_WriteSector.f k a0 a1 a2 a3) (impl_WriteSector.f (k + 1) a0 a1 a2 a3):=by
 intro a0 a1 a2 a3 k
 unfold impl_WriteSector.f
 repeat' first|(with_reducible first|exact impl_DeviceOk.mono _ _ _|exact LeO.refl _|exact LeO.none _|refine LeO.ite ?_ ?_|refine LeO.bind ?_ (fun _=>?_))|exact impl_DeviceOk.mono _ _ _|exact LeO.none _|refine LeO.ite ?_ ?_|refine LeO.bind ?_ (fun _=>?_)
set_option maxHeartbeats 8000000 in
set_option maxRecDepth 100000 in
theorem impl_WriteSector.calls (k : Nat) (A0_0 : Option Addr) (c0_0 : Nat) (l0_0 : List ByteArray) (A0_1 : Option Addr) (c0_1 : Nat) (l0_1 : List (S96)) (a1 : Int) (a2 : ByteArray) (r1 : List ByteArray) (r2 : List (S96)) (r3 : Bool) (w : World) (hr0_0 : Kd.C Kd.string w A0_0 l0_0.length l0_0) (hc0_0 : l0_0.length ≤ c0_0) (hr0_1 : Kd.C k96 w A0_1 l0_1.length l0_1) (hc0_1 : l0_1.length ≤ c0_1) (h : impl_WriteSector.f k l0_0 l0_1 a1 a2 = some (r1,r2,r3)) :
  Calls Try.prog 74 #[.agg #[.slice A0_0 l0_0.length c0_0,.slice A0_1 l0_1.length c0_1],.int .i64 a1,.string a2] w fun e w'=>∃ v0_ v1_ : Value,e = .returned (.tuple #[.agg #[v0_,v1_],.bool r3]) ∧ Kd.R Kd.string 9 w' w.heap.size (fun _=>True) v0_ r1 ∧ Kd.R k96 96 w' w.heap.size (fun _=>True) v1_ r2 ∧ Below w.heap.size w w':=by
 have hu32:=Try.underlying32
 have hu96:=Try.underlying96
 have HR0_0:=qo.mk hr0_0
 have HC0_0:=qo.mk hc0_0
 clear hr0_0 hc0_0
 have HR0_1:=qo.mk hr0_1
 have HC0_1:=qo.mk hc0_1
 clear hr0_1 hc0_1
 have HB:=qo.mk (Below.refl w.heap.size w)
 have H : ((impl_copyDevice.f l0_0 l0_1).bind fun bt237=>(if bt237.2.length < 5864062014805 then ((some (bt237.2 ++ [(⟨a1,a2⟩ : S96)] : List (S96))).bind fun y244=>((impl_DeviceOk.f k l0_0 l0_1).bind fun t247=>(if t247 = true then ((impl_DeviceOk.f k bt237.1 y244).bind fun t248=>(if t248 = true then (some (bt237.1,y244,true)) else (some (([] : List ByteArray),([] : List (S96)),false)))) else (some (([] : List ByteArray),([] : List (S96)),false))))) else (none))) = some (r1,r2,r3):=h
 clear h
 replace H:=Option.bind_eq_some_iff.mp H
 obtain ⟨⟨t237,t240⟩,A40,H⟩:=H
 replace H : (if t240.length < 5864062014805 then ((some (t240 ++ [(⟨a1,a2⟩ : S96)] : List (S96))).bind fun y244=>((impl_DeviceOk.f k l0_0 l0_1).bind fun t247=>(if t247 = true then ((impl_DeviceOk.f k t237 y244).bind fun t248=>(if t248 = true then (some (t237,y244,true)) else (some (([] : List ByteArray),([] : List (S96)),false)))) else (some (([] : List ByteArray),([] : List (S96)),false))))) else (none)) = some (r1,r2,r3):=H
 have A4:=qo.mk A40
 clear A40
 by_cases c5 : t240.length < 5864062014805
 ·rw [if_pos c5] at H
  have LMc5:=qo.mk c5
  clear c5
  obtain ⟨y244,hy244⟩ : ∃ y_ : List (S96),y_ = (t240 ++ [(⟨a1,a2⟩ : S96)]):=⟨_,rfl⟩
  replace H : ((impl_DeviceOk.f k l0_0 l0_1).bind fun t247=>(if t247 = true then ((impl_DeviceOk.f k t237 y244).bind fun t248=>(if t248 = true then (some (t237,y244,true)) else (some (([] : List ByteArray),([] : List (S96)),false)))) else (some (([] : List ByteArray),([] : List (S96)),false)))) = some (r1,r2,r3):=by first|(rw [hy244];with_reducible exact H)|(have H2_:=(Option.bind_some _ _).symm.trans H;rw [hy244];with_reducible exact H2_)|(have H2_:=(Option.bind_some _ _).symm.trans H;with_reducible exact H2_)|with_reducible exact H|(rw [hy244];exact H)|exact H
  have Ny244:=qo.mk hy244
  clear hy244
  replace H:=Option.bind_eq_some_iff.mp H
  obtain ⟨t247,A60,H⟩:=H
  replace H : (if t247 = true then ((impl_DeviceOk.f k t237 y244).bind fun t248=>(if t248 = true then (some (t237,y244,true)) else (some (([] : List ByteArray),([] : List (S96)),false)))) else (some (([] : List ByteArray),([] : List (S96)),false))) = some (r1,r2,r3):=H
  have A6:=qo.mk A60
  clear A60
  by_cases c7 : t247 = true
  ·subst c7
   have H1 : ((impl_DeviceOk.f k t237 y244).bind fun t248=>(if t248 = true then (some (t237,y244,true)) else (some (([] : List ByteArray),([] : List (S96)),false)))) = some (r1,r2,r3):=by rw [if_pos rfl] at H;exact H
   clear H
   have H:=H1
   clear H1
   replace H:=Option.bind_eq_some_iff.mp H
   obtain ⟨t248,A80,H⟩:=H
   replace H : (if t248 = true then (some (t237,y244,true)) else (some (([] : List ByteArray),([] : List (S96)),false))) = some (r1,r2,r3):=H
   have A8:=qo.mk A80
   clear A80
   by_cases c9 : t248 = true
   ·subst c9
    have H1 : (some (t237,y244,true)) = some (r1,r2,r3):=by rw [if_pos rfl] at H;exact H
    clear H
    have H:=H1
    clear H1
    simp only [Option.some.injEq,Prod.mk.injEq] at H
    obtain ⟨rfl,rfl,rfl⟩:=H
    go_enter Try.func74,Try.ntmps74
    go_wp2_with (first|((with_reducible refine gate_dst (N:=3) rfl ?_);refine box_event ?hg (N:=3) ?hd (cs:=#[.slice A0_0 l0_0.length c0_0,.slice A0_1 l0_1.length c0_1]) (t:=32) ?hr ?_;(case hd=>rfl);(case hg=>rfl);(case hr=>first|(go_simp;done)|(go_simp;rfl));intro gb235 hg w10 hbox hb;have BK235:=qo.mk (hbox);have GW235:=hl_ (w:=w) hg;have GE235:=hl_ (w:=w) hg;replace HB:=hs_ HB hb;clear hb hbox hg)|((with_reducible refine gate_dst (N:=6) rfl ?_);refine box_event ?hg (N:=6) ?hd (cs:=#[.slice none 0 0,.slice none 0 0]) (t:=32) ?hr ?_;(case hd=>rfl);(case hg=>rfl);(case hr=>first|(go_simp;done)|(go_simp;rfl));intro gb236 hg w11 hbox hb;have BK236:=qo.mk (hbox);have GW236:=hl_ (w:=w) hg;have GE236:=hl_ (w:=w) hg;have NB235_236:=qo.mk ((by rw [hg];exact nl_ BK235 : gb235 ≠ gb236));have NB236_235:=qo.mk ((by rw [hg];exact ng_ BK235 : gb236 ≠ gb235));replace BK235:=bb_ BK235 hb;replace HB:=hs_ HB hb;clear hb hbox hg;have hnb12:=NB235_236.out;have hnc12:=NB236_235.out;obtain ⟨hcz13_0,hcz13_1,hfz13_0,hfz13_1⟩:=c2f_ BK235.out)|((with_reducible refine gate_callee (f:=43) rfl ?_);refine goesL_ (some 10) rfl rfl Try.func43 (by kernel_rfl) rfl #[.agg #[.slice A0_0 l0_0.length c0_0,.slice A0_1 l0_1.length c0_1]] rfl sm_ ?_;(with_reducible refine (impl_copyDevice.calls _ _ l0_0 _ _ l0_1 t237 t240 _ ?side1 ?side2 ?side3 ?side4 A4.out).mono ?_);(case side1=>repeat (first|exact (Kd.C_below HR0_0.out HB.out)|(with_reducible refine Kd.C_alloc ?_ _)|(with_reducible refine Kd.C_drewN ?_ _)|(with_reducible refine Kd.C_drew ?_)));(case side2=>exact HC0_0.out);(case side3=>repeat (first|exact (Kd.C_below HR0_1.out HB.out)|(with_reducible refine Kd.C_alloc ?_ _)|(with_reducible refine Kd.C_drewN ?_ _)|(with_reducible refine Kd.C_drew ?_)));(case side4=>exact HC0_1.out);rintro e w14 ⟨v238,v241,rfl,ho0,ho1,hb⟩;refine ⟨_,rfl,?_⟩;have HO239:=qo.mk (Kd.R_lower ho0 (qk hx_));have HO242:=qo.mk (Kd.R_lower ho1 (qk hx_));replace BK235:=bb_ BK235 hb;replace BK236:=bb_ BK236 hb;replace HB:=hs_ HB hb;(try clear hb);(try clear hb2);(try clear hk);(try clear hi);(try clear ho0);(try clear ho1))|((with_reducible refine gate_dst (N:=8) rfl ?_);refine box_event ?hg (N:=8) ?hd (cs:=#[.slice none 0 0,.slice none 0 0]) (t:=32) ?hr ?_;(case hd=>rfl);(case hg=>rfl);(case hr=>first|(go_simp;done)|(go_simp;rfl));intro gb243 hg w15 hbox hb;replace HO239:=rb_ HO239 hb;replace HO242:=rb_ HO242 hb;have BK243:=qo.mk (hbox);have GW243:=hl_ (w:=w) hg;have GE243:=hl_ (w:=w) hg;have NB235_243:=qo.mk ((by rw [hg];exact nl_ BK235 : gb235 ≠ gb243));have NB243_235:=qo.mk ((by rw [hg];exact ng_ BK235 : gb243 ≠ gb235));replace BK235:=bb_ BK235 hb;have NB236_243:=qo.mk ((by rw [hg];exact nl_ BK236 : gb236 ≠ gb243));have NB243_236:=qo.mk ((by rw [hg];exact ng_ BK236 : gb243 ≠ gb236));replace BK236:=bb_ BK236 hb;replace HB:=hs_ HB hb;clear hb hbox hg;obtain ⟨Ao16,co16,eo16⟩:=Kd.R_slice HO239.out;subst eo16;have hnb17:=NB243_235.out;have hnc17:=NB235_243.out;have hnb18:=NB243_236.out;have hnc18:=NB236_243.out;obtain ⟨hcz19_0,hcz19_1,hfz19_0,hfz19_1⟩:=c2f_ BK243.out;obtain ⟨Ao20,co20,eo20⟩:=Kd.R_slice HO242.out;subst eo20)|((with_reducible refine gate_builtin (b:=.append) (xs:=#[.tmp 12,.tmp 16]) rfl ?_);at_builtin;refine Kd.R_append k96 (w0:=w) w.heap.size rfl (.tmp 12) (.tmp 16) 30 96 (.agg #[(.int .i64 0),(.string ⟨#[]⟩)]) 24 rfl Try.underlying30 info96 rfl (by decide) (by omega) (.slice Ao20 t240.length co20) t240 (⟨a1,a2⟩ : S96) [.int .i64 a1,.string a2] (fun _=>True) (fun _=>False) rfl (by first|(go_simp;done)|(go_simp;rfl)) ?aP (fun _ hk=>hk.elim) ?aF ?aO ?aB ?aS ?aL ?_;(case aP=>exact k96_mkM _ _ _ (⟨a1,a2⟩ : S96));(case aB=>exact hx_);(case aF=>exact (fun _ _=>trivial));(case aO=>exact (by (with_reducible repeat (first|apply Kd.R_alloc|apply Kd.R_drewN|apply Kd.R_drew));exact Kd.R_mono (Kd.R_far (p:=⟨gb243,1,none⟩) (Kd.R_far (p:=⟨gb243,0,none⟩) (Kd.R_types HO242.out BK243.out (by decide)) (fun _ hk=>hk.2) (.slice Ao16 t237.length co16)) (fun _ hk=>hk.2) (.slice Ao20 t240.length co20)) (fun _ hk=>trivial)));(case aS=>exact (qk hx_));(case aL=>have:=LMc5.out;omega);intro v245 w21 ho hb hg hat;rw [← Ny244.out] at ho;replace BK235:=qo.mk (blk_grown (g:=gb235) (o:=.cells #[.slice A0_0 l0_0.length c0_0,.slice A0_1 l0_1.length c0_1] 32 (0,0)) (by (with_reducible repeat (first|refine qb ?_ _|refine qe ?_|refine qc ?_ _));refine blk_far ?_ NB235_243.out _;(with_reducible repeat (first|refine qb ?_ _|refine qe ?_|refine qc ?_ _));refine blk_far ?_ NB235_243.out _;(with_reducible repeat (first|refine qb ?_ _|refine qe ?_|refine qc ?_ _));exact BK235.out) hg (Kd.R_ne HO242.out BK235.out (by decide)));replace BK236:=qo.mk (blk_grown (g:=gb236) (o:=.cells #[.slice none 0 0,.slice none 0 0] 32 (0,0)) (by (with_reducible repeat (first|refine qb ?_ _|refine qe ?_|refine qc ?_ _));refine blk_far ?_ NB236_243.out _;(with_reducible repeat (first|refine qb ?_ _|refine qe ?_|refine qc ?_ _));refine blk_far ?_ NB236_243.out _;(with_reducible repeat (first|refine qb ?_ _|refine qe ?_|refine qc ?_ _));exact BK236.out) hg (Kd.R_ne HO242.out BK236.out (by decide)));replace HO239:=qo.mk (Kd.R_over' (by (with_reducible repeat (first|apply Kd.R_alloc|apply Kd.R_drewN|apply Kd.R_drew));exact (Kd.R_mono (Kd.R_far (p:=⟨gb243,1,none⟩) (Kd.R_far (p:=⟨gb243,0,none⟩) (Kd.R_types HO239.out BK243.out (by decide)) (fun _ hk=>hk.2) (.slice Ao16 t237.length co16)) (fun _ hk=>hk.2) (.slice Ao20 t240.length co20)) (fun _ h_=>h_.1))) (Kd.R_typed (by (with_reducible repeat (first|apply Kd.R_alloc|apply Kd.R_drewN|apply Kd.R_drew));exact (Kd.R_mono (Kd.R_far (p:=⟨gb243,1,none⟩) (Kd.R_far (p:=⟨gb243,0,none⟩) (Kd.R_types HO242.out BK243.out (by decide)) (fun _ hk=>hk.2) (.slice Ao16 t237.length co16)) (fun _ hk=>hk.2) (.slice Ao20 t240.length co20)) (fun _ h_=>h_.1)))) (by decide) hg);replace BK243:=qo.mk (blk_grown (g:=gb243) (o:=.cells #[.slice Ao16 t237.length co16,.slice Ao20 t240.length co20] 32 (0,0)) (by (with_reducible repeat (first|refine qb ?_ _|refine qe ?_|refine qc ?_ _));refine blk_put (cs:=#[.slice Ao16 t237.length co16,.slice none 0 0]) ?_ 1 _ rfl;(with_reducible repeat (first|refine qb ?_ _|refine qe ?_|refine qc ?_ _));refine blk_put (cs:=#[.slice none 0 0,.slice none 0 0]) ?_ 0 _ rfl;(with_reducible repeat (first|refine qb ?_ _|refine qe ?_|refine qc ?_ _));exact BK243.out) hg (Kd.R_ne HO242.out BK243.out (by decide)));replace HB:=qo.mk (hb);have HO246:=qo.mk (ho);clear HO242;clear ho hb hg hat;obtain ⟨Ao22,co22,eo22⟩:=Kd.R_slice HO246.out;subst eo22;obtain ⟨hcz23_0,hcz23_1,hfz23_0,hfz23_1⟩:=c2f_ BK243.out;obtain ⟨hcz24_0,hcz24_1,hfz24_0,hfz24_1⟩:=c2f_ BK235.out)|((with_reducible refine gate_callee (f:=40) rfl ?_);refine goesL_ (some 20) rfl rfl Try.func40 (by kernel_rfl) rfl #[.agg #[.slice A0_0 l0_0.length c0_0,.slice A0_1 l0_1.length c0_1]] rfl sm_ ?_;(with_reducible refine (impl_DeviceOk.calls k _ _ l0_0 _ _ l0_1 true _ ?side1 ?side2 ?side3 ?side4 A6.out).mono ?_);(case side1=>exact Kd.C_below HR0_0.out hx_);(case side2=>exact HC0_0.out);(case side3=>exact Kd.C_below HR0_1.out hx_);(case side4=>exact HC0_1.out);rintro e w25 ⟨rfl,hb⟩;refine ⟨_,rfl,?_⟩;replace HO239:=qo.mk (Kd.R_below (by (with_reducible repeat (first|apply Kd.R_alloc|apply Kd.R_drewN|apply Kd.R_drew));exact (Kd.R_mono (Kd.R_far (p:=⟨gb243,1,none⟩) (Kd.R_types HO239.out BK243.out (by decide)) (fun _ hk=>hk.2) (.slice Ao22 y244.length co22)) (fun _ h_=>h_.1))) hb);replace HO246:=qo.mk (Kd.R_below (by (with_reducible repeat (first|apply Kd.R_alloc|apply Kd.R_drewN|apply Kd.R_drew));exact (Kd.R_mono (Kd.R_far (p:=⟨gb243,1,none⟩) (Kd.R_types HO246.out BK243.out (by decide)) (fun _ hk=>hk.2) (.slice Ao22 y244.length co22)) (fun _ h_=>h_.1))) hb);replace BK235:=qo.mk (qm (g:=gb235) (o:=.cells #[.slice A0_0 l0_0.length c0_0,.slice A0_1 l0_1.length c0_1] 32 (0,0)) (by (with_reducible repeat (first|refine qb ?_ _|refine qe ?_|refine qc ?_ _));refine blk_far ?_ NB235_243.out _;(with_reducible repeat (first|refine qb ?_ _|refine qe ?_|refine qc ?_ _));exact BK235.out) hb);replace BK236:=qo.mk (qm (g:=gb236) (o:=.cells #[.slice none 0 0,.slice none 0 0] 32 (0,0)) (by (with_reducible repeat (first|refine qb ?_ _|refine qe ?_|refine qc ?_ _));refine blk_far ?_ NB236_243.out _;(with_reducible repeat (first|refine qb ?_ _|refine qe ?_|refine qc ?_ _));exact BK236.out) hb);replace BK243:=qo.mk (qm (g:=gb243) (o:=.cells #[.slice Ao16 t237.length co16,.slice Ao22 y244.length co22] 32 (0,0)) (by (with_reducible repeat (first|refine qb ?_ _|refine qe ?_|refine qc ?_ _));refine blk_put (cs:=#[.slice Ao16 t237.length co16,.slice Ao20 t240.length co20]) ?_ 1 _ rfl;(with_reducible repeat (first|refine qb ?_ _|refine qe ?_|refine qc ?_ _));exact BK243.out) hb);replace HB:=hs_ HB hb;(try clear hb);(try clear hb2);(try clear hk);(try clear hi);obtain ⟨hcz26_0,hcz26_1,hfz26_0,hfz26_1⟩:=c2f_ BK243.out)|(go_at_call 40;(with_reducible refine (impl_DeviceOk.calls k _ _ t237 _ _ y244 true _ ?side1 ?side2 ?side3 ?side4 A8.out).mono ?_);(case side1=>repeat (first|exact (Kd.R_reads' HO239.out).2.2|(with_reducible refine Kd.C_alloc ?_ _)|(with_reducible refine Kd.C_drewN ?_ _)|(with_reducible refine Kd.C_drew ?_)));(case side2=>exact (Kd.R_reads' HO239.out).2.1);(case side3=>repeat (first|exact (Kd.R_reads' HO246.out).2.2|(with_reducible refine Kd.C_alloc ?_ _)|(with_reducible refine Kd.C_drewN ?_ _)|(with_reducible refine Kd.C_drew ?_)));(case side4=>exact (Kd.R_reads' HO246.out).2.1);rintro e w27 ⟨rfl,hb⟩;replace HO239:=rb_ HO239 hb;replace HO246:=rb_ HO246 hb;replace BK235:=bb_ BK235 hb;replace BK236:=bb_ BK236 hb;replace BK243:=bb_ BK243 hb;replace HB:=hs_ HB hb;(try clear hb);(try clear hb2);(try clear hk);(try clear hi);obtain ⟨hcz28_0,hcz28_1,hfz28_0,hfz28_1⟩:=c2f_ BK243.out;obtain ⟨hcz29_0,hcz29_1,hfz29_0,hfz29_1⟩:=c2f_ BK236.out))
    refine bodyPost_ret (results_ct rfl _ _ gb236 32 #[.slice Ao16 t237.length co16,.slice Ao22 y244.length co22] (0,0) _ rfl (by (with_reducible repeat (first|refine qb ?_ _|refine qe ?_|refine qc ?_ _));refine blk_put (cs:=#[.slice Ao16 t237.length co16,.slice none 0 0]) ?_ 1 _ rfl;(with_reducible repeat (first|refine qb ?_ _|refine qe ?_|refine qc ?_ _));refine blk_put (cs:=#[.slice none 0 0,.slice none 0 0]) ?_ 0 _ rfl;(with_reducible repeat (first|refine qb ?_ _|refine qe ?_|refine qc ?_ _));exact BK236.out) Try.underlying32 rfl (by kernel_rfl)) rfl ?_
    exact ⟨_,_,rt_,by (with_reducible repeat (first|apply Kd.R_alloc|apply Kd.R_drewN|apply Kd.R_drew));exact Kd.R_mono (Kd.R_far (p:=⟨gb236,1,none⟩) (Kd.R_far (p:=⟨gb236,0,none⟩) (Kd.R_types HO239.out BK236.out (by decide)) (fun _ hk=>hk.2) (.slice Ao16 t237.length co16)) (fun _ hk=>hk.2) (.slice Ao22 y244.length co22)) (fun _ hk=>trivial),by (with_reducible repeat (first|apply Kd.R_alloc|apply Kd.R_drewN|apply Kd.R_drew));exact Kd.R_mono (Kd.R_far (p:=⟨gb236,1,none⟩) (Kd.R_far (p:=⟨gb236,0,none⟩) (Kd.R_types HO246.out BK236.out (by decide)) (fun _ hk=>hk.2) (.slice Ao16 t237.length co16)) (fun _ hk=>hk.2) (.slice Ao22 y244.length co22)) (fun _ hk=>trivial),hx_⟩
   replace c9:=Bool.eq_false_iff.mpr c9
   subst c9
   have H1 : (some (([] : List ByteArray),([] : List (S96)),false)) = some (r1,r2,r3):=by rw [if_neg (show ¬ (false = true) by decide)] at H;exact H
   clear H
   have H:=H1
   clear H1
   simp only [Option.some.injEq,Prod.mk.injEq] at H
   obtain ⟨rfl,rfl,rfl⟩:=H
   go_enter Try.func74,Try.ntmps74
   go_wp2_with (first|((with_reducible refine gate_dst (N:=3) rfl ?_);refine box_event ?hg (N:=3) ?hd (cs:=#[.slice A0_0 l0_0.length c0_0,.slice A0_1 l0_1.length c0_1]) (t:=32) ?hr ?_;(case hd=>rfl);(case hg=>rfl);(case hr=>first|(go_simp;done)|(go_simp;rfl));intro gb235 hg w30 hbox hb;have BK235:=qo.mk (hbox);have GW235:=hl_ (w:=w) hg;have GE235:=hl_ (w:=w) hg;replace HB:=hs_ HB hb;clear hb hbox hg)|((with_reducible refine gate_dst (N:=6) rfl ?_);refine box_event ?hg (N:=6) ?hd (cs:=#[.slice none 0 0,.slice none 0 0]) (t:=32) ?hr ?_;(case hd=>rfl);(case hg=>rfl);(case hr=>first|(go_simp;done)|(go_simp;rfl));intro gb236 hg w31 hbox hb;have BK236:=qo.mk (hbox);have GW236:=hl_ (w:=w) hg;have GE236:=hl_ (w:=w) hg;have NB235_236:=qo.mk ((by rw [hg];exact nl_ BK235 : gb235 ≠ gb236));have NB236_235:=qo.mk ((by rw [hg];exact ng_ BK235 : gb236 ≠ gb235));replace BK235:=bb_ BK235 hb;replace HB:=hs_ HB hb;clear hb hbox hg;have hnb32:=NB235_236.out;have hnc32:=NB236_235.out;obtain ⟨hcz33_0,hcz33_1,hfz33_0,hfz33_1⟩:=c2f_ BK235.out)|((with_reducible refine gate_callee (f:=43) rfl ?_);refine goesL_ (some 10) rfl rfl Try.func43 (by kernel_rfl) rfl #[.agg #[.slice A0_0 l0_0.length c0_0,.slice A0_1 l0_1.length c0_1]] rfl sm_ ?_;(with_reducible refine (impl_copyDevice.calls _ _ l0_0 _ _ l0_1 t237 t240 _ ?side1 ?side2 ?side3 ?side4 A4.out).mono ?_);(case side1=>repeat (first|exact (Kd.C_below HR0_0.out HB.out)|(with_reducible refine Kd.C_alloc ?_ _)|(with_reducible refine Kd.C_drewN ?_ _)|(with_reducible refine Kd.C_drew ?_)));(case side2=>exact HC0_0.out);(case side3=>repeat (first|exact (Kd.C_below HR0_1.out HB.out)|(with_reducible refine Kd.C_alloc ?_ _)|(with_reducible refine Kd.C_drewN ?_ _)|(with_reducible refine Kd.C_drew ?_)));(case side4=>exact HC0_1.out);rintro e w34 ⟨v238,v241,rfl,ho0,ho1,hb⟩;refine ⟨_,rfl,?_⟩;have HO239:=qo.mk (Kd.R_lower ho0 (qk hx_));have HO242:=qo.mk (Kd.R_lower ho1 (qk hx_));replace BK235:=bb_ BK235 hb;replace BK236:=bb_ BK236 hb;replace HB:=hs_ HB hb;(try clear hb);(try clear hb2);(try clear hk);(try clear hi);(try clear ho0);(try clear ho1))|((with_reducible refine gate_dst (N:=8) rfl ?_);refine box_event ?hg (N:=8) ?hd (cs:=#[.slice none 0 0,.slice none 0 0]) (t:=32) ?hr ?_;(case hd=>rfl);(case hg=>rfl);(case hr=>first|(go_simp;done)|(go_simp;rfl));intro gb243 hg w35 hbox hb;replace HO239:=rb_ HO239 hb;replace HO242:=rb_ HO242 hb;have BK243:=qo.mk (hbox);have GW243:=hl_ (w:=w) hg;have GE243:=hl_ (w:=w) hg;have NB235_243:=qo.mk ((by rw [hg];exact nl_ BK235 : gb235 ≠ gb243));have NB243_235:=qo.mk ((by rw [hg];exact ng_ BK235 : gb243 ≠ gb235));replace BK235:=bb_ BK235 hb;have NB236_243:=qo.mk ((by rw [hg];exact nl_ BK236 : gb236 ≠ gb243));have NB243_236:=qo.mk ((by rw [hg];exact ng_ BK236 : gb243 ≠ gb236));replace BK236:=bb_ BK236 hb;replace HB:=hs_ HB hb;clear hb hbox hg;obtain ⟨Ao36,co36,eo36⟩:=Kd.R_slice HO239.out;subst eo36;have hnb37:=NB243_235.out;have hnc37:=NB235_243.out;have hnb38:=NB243_236.out;have hnc38:=NB236_243.out;obtain ⟨hcz39_0,hcz39_1,hfz39_0,hfz39_1⟩:=c2f_ BK243.out;obtain ⟨Ao40,co40,eo40⟩:=Kd.R_slice HO242.out;subst eo40)|((with_reducible refine gate_builtin (b:=.append) (xs:=#[.tmp 12,.tmp 16]) rfl ?_);at_builtin;refine Kd.R_append k96 (w0:=w) w.heap.size rfl (.tmp 12) (.tmp 16) 30 96 (.agg #[(.int .i64 0),(.string ⟨#[]⟩)]) 24 rfl Try.underlying30 info96 rfl (by decide) (by omega) (.slice Ao40 t240.length co40) t240 (⟨a1,a2⟩ : S96) [.int .i64 a1,.string a2] (fun _=>True) (fun _=>False) rfl (by first|(go_simp;done)|(go_simp;rfl)) ?aP (fun _ hk=>hk.elim) ?aF ?aO ?aB ?aS ?aL ?_;(case aP=>exact k96_mkM _ _ _ (⟨a1,a2⟩ : S96));(case aB=>exact hx_);(case aF=>exact (fun _ _=>trivial));(case aO=>exact (by (with_reducible repeat (first|apply Kd.R_alloc|apply Kd.R_drewN|apply Kd.R_drew));exact Kd.R_mono (Kd.R_far (p:=⟨gb243,1,none⟩) (Kd.R_far (p:=⟨gb243,0,none⟩) (Kd.R_types HO242.out BK243.out (by decide)) (fun _ hk=>hk.2) (.slice Ao36 t237.length co36)) (fun _ hk=>hk.2) (.slice Ao40 t240.length co40)) (fun _ hk=>trivial)));(case aS=>exact (qk hx_));(case aL=>have:=LMc5.out;omega);intro v245 w41 ho hb hg hat;rw [← Ny244.out] at ho;replace BK235:=qo.mk (blk_grown (g:=gb235) (o:=.cells #[.slice A0_0 l0_0.length c0_0,.slice A0_1 l0_1.length c0_1] 32 (0,0)) (by (with_reducible repeat (first|refine qb ?_ _|refine qe ?_|refine qc ?_ _));refine blk_far ?_ NB235_243.out _;(with_reducible repeat (first|refine qb ?_ _|refine qe ?_|refine qc ?_ _));refine blk_far ?_ NB235_243.out _;(with_reducible repeat (first|refine qb ?_ _|refine qe ?_|refine qc ?_ _));exact BK235.out) hg (Kd.R_ne HO242.out BK235.out (by decide)));replace BK236:=qo.mk (blk_grown (g:=gb236) (o:=.cells #[.slice none 0 0,.slice none 0 0] 32 (0,0)) (by (with_reducible repeat (first|refine qb ?_ _|refine qe ?_|refine qc ?_ _));refine blk_far ?_ NB236_243.out _;(with_reducible repeat (first|refine qb ?_ _|refine qe ?_|refine qc ?_ _));refine blk_far ?_ NB236_243.out _;(with_reducible repeat (first|refine qb ?_ _|refine qe ?_|refine qc ?_ _));exact BK236.out) hg (Kd.R_ne HO242.out BK236.out (by decide)));replace HO239:=qo.mk (Kd.R_over' (by (with_reducible repeat (first|apply Kd.R_alloc|apply Kd.R_drewN|apply Kd.R_drew));exact (Kd.R_mono (Kd.R_far (p:=⟨gb243,1,none⟩) (Kd.R_far (p:=⟨gb243,0,none⟩) (Kd.R_types HO239.out BK243.out (by decide)) (fun _ hk=>hk.2) (.slice Ao36 t237.length co36)) (fun _ hk=>hk.2) (.slice Ao40 t240.length co40)) (fun _ h_=>h_.1))) (Kd.R_typed (by (with_reducible repeat (first|apply Kd.R_alloc|apply Kd.R_drewN|apply Kd.R_drew));exact (Kd.R_mono (Kd.R_far (p:=⟨gb243,1,none⟩) (Kd.R_far (p:=⟨gb243,0,none⟩) (Kd.R_types HO242.out BK243.out (by decide)) (fun _ hk=>hk.2) (.slice Ao36 t237.length co36)) (fun _ hk=>hk.2) (.slice Ao40 t240.length co40)) (fun _ h_=>h_.1)))) (by decide) hg);replace BK243:=qo.mk (blk_grown (g:=gb243) (o:=.cells #[.slice Ao36 t237.length co36,.slice Ao40 t240.length co40] 32 (0,0)) (by (with_reducible repeat (first|refine qb ?_ _|refine qe ?_|refine qc ?_ _));refine blk_put (cs:=#[.slice Ao36 t237.length co36,.slice none 0 0]) ?_ 1 _ rfl;(with_reducible repeat (first|refine qb ?_ _|refine qe ?_|refine qc ?_ _));refine blk_put (cs:=#[.slice none 0 0,.slice none 0 0]) ?_ 0 _ rfl;(with_reducible repeat (first|refine qb ?_ _|refine qe ?_|refine qc ?_ _));exact BK243.out) hg (Kd.R_ne HO242.out BK243.out (by decide)));replace HB:=qo.mk (hb);have HO246:=qo.mk (ho);clear HO242;clear ho hb hg hat;obtain ⟨Ao42,co42,eo42⟩:=Kd.R_slice HO246.out;subst eo42;obtain ⟨hcz43_0,hcz43_1,hfz43_0,hfz43_1⟩:=c2f_ BK243.out;obtain ⟨hcz44_0,hcz44_1,hfz44_0,hfz44_1⟩:=c2f_ BK235.out)|((with_reducible refine gate_callee (f:=40) rfl ?_);refine goesL_ (some 20) rfl rfl Try.func40 (by kernel_rfl) rfl #[.agg #[.slice A0_0 l0_0.length c0_0,.slice A0_1 l0_1.length c0_1]] rfl sm_ ?_;(with_reducible refine (impl_DeviceOk.calls k _ _ l0_0 _ _ l0_1 true _ ?side1 ?side2 ?side3 ?side4 A6.out).mono ?_);(case side1=>exact Kd.C_below HR0_0.out hx_);(case side2=>exact HC0_0.out);(case side3=>exact Kd.C_below HR0_1.out hx_);(case side4=>exact HC0_1.out);rintro e w45 ⟨rfl,hb⟩;refine ⟨_,rfl,?_⟩;replace HO239:=qo.mk (Kd.R_below (by (with_reducible repeat (first|apply Kd.R_alloc|apply Kd.R_drewN|apply Kd.R_drew));exact (Kd.R_mono (Kd.R_far (p:=⟨gb243,1,none⟩) (Kd.R_types HO239.out BK243.out (by decide)) (fun _ hk=>hk.2) (.slice Ao42 y244.length co42)) (fun _ h_=>h_.1))) hb);replace HO246:=qo.mk (Kd.R_below (by (with_reducible repeat (first|apply Kd.R_alloc|apply Kd.R_drewN|apply Kd.R_drew));exact (Kd.R_mono (Kd.R_far (p:=⟨gb243,1,none⟩) (Kd.R_types HO246.out BK243.out (by decide)) (fun _ hk=>hk.2) (.slice Ao42 y244.length co42)) (fun _ h_=>h_.1))) hb);replace BK235:=qo.mk (qm (g:=gb235) (o:=.cells #[.slice A0_0 l0_0.length c0_0,.slice A0_1 l0_1.length c0_1] 32 (0,0)) (by (with_reducible repeat (first|refine qb ?_ _|refine qe ?_|refine qc ?_ _));refine blk_far ?_ NB235_243.out _;(with_reducible repeat (first|refine qb ?_ _|refine qe ?_|refine qc ?_ _));exact BK235.out) hb);replace BK236:=qo.mk (qm (g:=gb236) (o:=.cells #[.slice none 0 0,.slice none 0 0] 32 (0,0)) (by (with_reducible repeat (first|refine qb ?_ _|refine qe ?_|refine qc ?_ _));refine blk_far ?_ NB236_243.out _;(with_reducible repeat (first|refine qb ?_ _|refine qe ?_|refine qc ?_ _));exact BK236.out) hb);replace BK243:=qo.mk (qm (g:=gb243) (o:=.cells #[.slice Ao36 t237.length co36,.slice Ao42 y244.length co42] 32 (0,0)) (by (with_reducible repeat (first|refine qb ?_ _|refine qe ?_|refine qc ?_ _));refine blk_put (cs:=#[.slice Ao36 t237.length co36,.slice Ao40 t240.length co40]) ?_ 1 _ rfl;(with_reducible repeat (first|refine qb ?_ _|refine qe ?_|refine qc ?_ _));exact BK243.out) hb);replace HB:=hs_ HB hb;(try clear hb);(try clear hb2);(try clear hk);(try clear hi);obtain ⟨hcz46_0,hcz46_1,hfz46_0,hfz46_1⟩:=c2f_ BK243.out)|(go_at_call 40;(with_reducible refine (impl_DeviceOk.calls k _ _ t237 _ _ y244 false _ ?side1 ?side2 ?side3 ?side4 A8.out).mono ?_);(case side1=>repeat (first|exact (Kd.R_reads' HO239.out).2.2|(with_reducible refine Kd.C_alloc ?_ _)|(with_reducible refine Kd.C_drewN ?_ _)|(with_reducible refine Kd.C_drew ?_)));(case side2=>exact (Kd.R_reads' HO239.out).2.1);(case side3=>repeat (first|exact (Kd.R_reads' HO246.out).2.2|(with_reducible refine Kd.C_alloc ?_ _)|(with_reducible refine Kd.C_drewN ?_ _)|(with_reducible refine Kd.C_drew ?_)));(case side4=>exact (Kd.R_reads' HO246.out).2.1);rintro e w47 ⟨rfl,hb⟩;replace HO239:=rb_ HO239 hb;replace HO246:=rb_ HO246 hb;replace BK235:=bb_ BK235 hb;replace BK236:=bb_ BK236 hb;replace BK243:=bb_ BK243 hb;replace HB:=hs_ HB hb;(try clear hb);(try clear hb2);(try clear hk);(try clear hi);obtain ⟨hcz48_0,hcz48_1,hfz48_0,hfz48_1⟩:=c2f_ BK236.out))
   refine bodyPost_ret (results_ct rfl _ _ gb236 32 #[.slice none 0 0,.slice none 0 0] (0,0) _ rfl (by (with_reducible repeat (first|refine qb ?_ _|refine qe ?_|refine qc ?_ _));refine blk_put (cs:=#[.slice none 0 0,.slice none 0 0]) ?_ 1 _ rfl;(with_reducible repeat (first|refine qb ?_ _|refine qe ?_|refine qc ?_ _));refine blk_put (cs:=#[.slice none 0 0,.slice none 0 0]) ?_ 0 _ rfl;(with_reducible repeat (first|refine qb ?_ _|refine qe ?_|refine qc ?_ _));exact BK236.out) Try.underlying32 rfl (by kernel_rfl)) rfl ?_
   exact ⟨_,_,rt_,by first|exact Kd.R_nil _ _ _ _ _|exact Kd.N_nil _ _ _ _ _|exact Kd.V_nil _ _ _ _ _|exact Kd.Q_nil _ _ _ _ _|exact Kd.S_nil _ _ _ _ _,by first|exact Kd.R_nil _ _ _ _ _|exact Kd.N_nil _ _ _ _ _|exact Kd.V_nil _ _ _ _ _|exact Kd.Q_nil _ _ _ _ _|exact Kd.S_nil _ _ _ _ _,hx_⟩
  replace c7:=Bool.eq_false_iff.mpr c7
  subst c7
  have H1 : (some (([] : List ByteArray),([] : List (S96)),false)) = some (r1,r2,r3):=by rw [if_neg (show ¬ (false = true) by decide)] at H;exact H
  clear H
  have H:=H1
  clear H1
  simp only [Option.some.injEq,Prod.mk.injEq] at H
  obtain ⟨rfl,rfl,rfl⟩:=H
  go_enter Try.func74,Try.ntmps74
  go_wp2_with (first|((with_reducible refine gate_dst (N:=3) rfl ?_);refine box_event ?hg (N:=3) ?hd (cs:=#[.slice A0_0 l0_0.length c0_0,.slice A0_1 l0_1.length c0_1]) (t:=32) ?hr ?_;(case hd=>rfl);(case hg=>rfl);(case hr=>first|(go_simp;done)|(go_simp;rfl));intro gb235 hg w49 hbox hb;have BK235:=qo.mk (hbox);have GW235:=hl_ (w:=w) hg;have GE235:=hl_ (w:=w) hg;replace HB:=hs_ HB hb;clear hb hbox hg)|((with_reducible refine gate_dst (N:=6) rfl ?_);refine box_event ?hg (N:=6) ?hd (cs:=#[.slice none 0 0,.slice none 0 0]) (t:=32) ?hr ?_;(case hd=>rfl);(case hg=>rfl);(case hr=>first|(go_simp;done)|(go_simp;rfl));intro gb236 hg w50 hbox hb;have BK236:=qo.mk (hbox);have GW236:=hl_ (w:=w) hg;have GE236:=hl_ (w:=w) hg;have NB235_236:=qo.mk ((by rw [hg];exact nl_ BK235 : gb235 ≠ gb236));have NB236_235:=qo.mk ((by rw [hg];exact ng_ BK235 : gb236 ≠ gb235));replace BK235:=bb_ BK235 hb;replace HB:=hs_ HB hb;clear hb hbox hg;have hnb51:=NB235_236.out;have hnc51:=NB236_235.out;obtain ⟨hcz52_0,hcz52_1,hfz52_0,hfz52_1⟩:=c2f_ BK235.out)|((with_reducible refine gate_callee (f:=43) rfl ?_);refine goesL_ (some 10) rfl rfl Try.func43 (by kernel_rfl) rfl #[.agg #[.slice A0_0 l0_0.length c0_0,.slice A0_1 l0_1.length c0_1]] rfl sm_ ?_;(with_reducible refine (impl_copyDevice.calls _ _ l0_0 _ _ l0_1 t237 t240 _ ?side1 ?side2 ?side3 ?side4 A4.out).mono ?_);(case side1=>repeat (first|exact (Kd.C_below HR0_0.out HB.out)|(with_reducible refine Kd.C_alloc ?_ _)|(with_reducible refine Kd.C_drewN ?_ _)|(with_reducible refine Kd.C_drew ?_)));(case side2=>exact HC0_0.out);(case side3=>repeat (first|exact (Kd.C_below HR0_1.out HB.out)|(with_reducible refine Kd.C_alloc ?_ _)|(with_reducible refine Kd.C_drewN ?_ _)|(with_reducible refine Kd.C_drew ?_)));(case side4=>exact HC0_1.out);rintro e w53 ⟨v238,v241,rfl,ho0,ho1,hb⟩;refine ⟨_,rfl,?_⟩;have HO239:=qo.mk (Kd.R_lower ho0 (qk hx_));have HO242:=qo.mk (Kd.R_lower ho1 (qk hx_));replace BK235:=bb_ BK235 hb;replace BK236:=bb_ BK236 hb;replace HB:=hs_ HB hb;(try clear hb);(try clear hb2);(try clear hk);(try clear hi);(try clear ho0);(try clear ho1))|((with_reducible refine gate_dst (N:=8) rfl ?_);refine box_event ?hg (N:=8) ?hd (cs:=#[.slice none 0 0,.slice none 0 0]) (t:=32) ?hr ?_;(case hd=>rfl);(case hg=>rfl);(case hr=>first|(go_simp;done)|(go_simp;rfl));intro gb243 hg w54 hbox hb;replace HO239:=rb_ HO239 hb;replace HO242:=rb_ HO242 hb;have BK243:=qo.mk (hbox);have GW243:=hl_ (w:=w) hg;have GE243:=hl_ (w:=w) hg;have NB235_243:=qo.mk ((by rw [hg];exact nl_ BK235 : gb235 ≠ gb243));have NB243_235:=qo.mk ((by rw [hg];exact ng_ BK235 : gb243 ≠ gb235));replace BK235:=bb_ BK235 hb;have NB236_243:=qo.mk ((by rw [hg];exact nl_ BK236 : gb236 ≠ gb243));have NB243_236:=qo.mk ((by rw [hg];exact ng_ BK236 : gb243 ≠ gb236));replace BK236:=bb_ BK236 hb;replace HB:=hs_ HB hb;clear hb hbox hg;obtain ⟨Ao55,co55,eo55⟩:=Kd.R_slice HO239.out;subst eo55;have hnb56:=NB243_235.out;have hnc56:=NB235_243.out;have hnb57:=NB243_236.out;have hnc57:=NB236_243.out;obtain ⟨hcz58_0,hcz58_1,hfz58_0,hfz58_1⟩:=c2f_ BK243.out;obtain ⟨Ao59,co59,eo59⟩:=Kd.R_slice HO242.out;subst eo59)|((with_reducible refine gate_builtin (b:=.append) (xs:=#[.tmp 12,.tmp 16]) rfl ?_);at_builtin;refine Kd.R_append k96 (w0:=w) w.heap.size rfl (.tmp 12) (.tmp 16) 30 96 (.agg #[(.int .i64 0),(.string ⟨#[]⟩)]) 24 rfl Try.underlying30 info96 rfl (by decide) (by omega) (.slice Ao59 t240.length co59) t240 (⟨a1,a2⟩ : S96) [.int .i64 a1,.string a2] (fun _=>True) (fun _=>False) rfl (by first|(go_simp;done)|(go_simp;rfl)) ?aP (fun _ hk=>hk.elim) ?aF ?aO ?aB ?aS ?aL ?_;(case aP=>exact k96_mkM _ _ _ (⟨a1,a2⟩ : S96));(case aB=>exact hx_);(case aF=>exact (fun _ _=>trivial));(case aO=>exact (by (with_reducible repeat (first|apply Kd.R_alloc|apply Kd.R_drewN|apply Kd.R_drew));exact Kd.R_mono (Kd.R_far (p:=⟨gb243,1,none⟩) (Kd.R_far (p:=⟨gb243,0,none⟩) (Kd.R_types HO242.out BK243.out (by decide)) (fun _ hk=>hk.2) (.slice Ao55 t237.length co55)) (fun _ hk=>hk.2) (.slice Ao59 t240.length co59)) (fun _ hk=>trivial)));(case aS=>exact (qk hx_));(case aL=>have:=LMc5.out;omega);intro v245 w60 ho hb hg hat;rw [← Ny244.out] at ho;replace BK235:=qo.mk (blk_grown (g:=gb235) (o:=.cells #[.slice A0_0 l0_0.length c0_0,.slice A0_1 l0_1.length c0_1] 32 (0,0)) (by (with_reducible repeat (first|refine qb ?_ _|refine qe ?_|refine qc ?_ _));refine blk_far ?_ NB235_243.out _;(with_reducible repeat (first|refine qb ?_ _|refine qe ?_|refine qc ?_ _));refine blk_far ?_ NB235_243.out _;(with_reducible repeat (first|refine qb ?_ _|refine qe ?_|refine qc ?_ _));exact BK235.out) hg (Kd.R_ne HO242.out BK235.out (by decide)));replace BK236:=qo.mk (blk_grown (g:=gb236) (o:=.cells #[.slice none 0 0,.slice none 0 0] 32 (0,0)) (by (with_reducible repeat (first|refine qb ?_ _|refine qe ?_|refine qc ?_ _));refine blk_far ?_ NB236_243.out _;(with_reducible repeat (first|refine qb ?_ _|refine qe ?_|refine qc ?_ _));refine blk_far ?_ NB236_243.out _;(with_reducible repeat (first|refine qb ?_ _|refine qe ?_|refine qc ?_ _));exact BK236.out) hg (Kd.R_ne HO242.out BK236.out (by decide)));replace HO239:=qo.mk (Kd.R_over' (by (with_reducible repeat (first|apply Kd.R_alloc|apply Kd.R_drewN|apply Kd.R_drew));exact (Kd.R_mono (Kd.R_far (p:=⟨gb243,1,none⟩) (Kd.R_far (p:=⟨gb243,0,none⟩) (Kd.R_types HO239.out BK243.out (by decide)) (fun _ hk=>hk.2) (.slice Ao55 t237.length co55)) (fun _ hk=>hk.2) (.slice Ao59 t240.length co59)) (fun _ h_=>h_.1))) (Kd.R_typed (by (with_reducible repeat (first|apply Kd.R_alloc|apply Kd.R_drewN|apply Kd.R_drew));exact (Kd.R_mono (Kd.R_far (p:=⟨gb243,1,none⟩) (Kd.R_far (p:=⟨gb243,0,none⟩) (Kd.R_types HO242.out BK243.out (by decide)) (fun _ hk=>hk.2) (.slice Ao55 t237.length co55)) (fun _ hk=>hk.2) (.slice Ao59 t240.length co59)) (fun _ h_=>h_.1)))) (by decide) hg);replace BK243:=qo.mk (blk_grown (g:=gb243) (o:=.cells #[.slice Ao55 t237.length co55,.slice Ao59 t240.length co59] 32 (0,0)) (by (with_reducible repeat (first|refine qb ?_ _|refine qe ?_|refine qc ?_ _));refine blk_put (cs:=#[.slice Ao55 t237.length co55,.slice none 0 0]) ?_ 1 _ rfl;(with_reducible repeat (first|refine qb ?_ _|refine qe ?_|refine qc ?_ _));refine blk_put (cs:=#[.slice none 0 0,.slice none 0 0]) ?_ 0 _ rfl;(with_reducible repeat (first|refine qb ?_ _|refine qe ?_|refine qc ?_ _));exact BK243.out) hg (Kd.R_ne HO242.out BK243.out (by decide)));replace HB:=qo.mk (hb);have HO246:=qo.mk (ho);clear HO242;clear ho hb hg hat;obtain ⟨Ao61,co61,eo61⟩:=Kd.R_slice HO246.out;subst eo61;obtain ⟨hcz62_0,hcz62_1,hfz62_0,hfz62_1⟩:=c2f_ BK243.out;obtain ⟨hcz63_0,hcz63_1,hfz63_0,hfz63_1⟩:=c2f_ BK235.out)|((with_reducible refine gate_callee (f:=40) rfl ?_);refine goesL_ (some 20) rfl rfl Try.func40 (by kernel_rfl) rfl #[.agg #[.slice A0_0 l0_0.length c0_0,.slice A0_1 l0_1.length c0_1]] rfl sm_ ?_;(with_reducible refine (impl_DeviceOk.calls k _ _ l0_0 _ _ l0_1 false _ ?side1 ?side2 ?side3 ?side4 A6.out).mono ?_);(case side1=>exact Kd.C_below HR0_0.out hx_);(case side2=>exact HC0_0.out);(case side3=>exact Kd.C_below HR0_1.out hx_);(case side4=>exact HC0_1.out);rintro e w64 ⟨rfl,hb⟩;refine ⟨_,rfl,?_⟩;replace HO239:=qo.mk (Kd.R_below (by (with_reducible repeat (first|apply Kd.R_alloc|apply Kd.R_drewN|apply Kd.R_drew));exact (Kd.R_mono (Kd.R_far (p:=⟨gb243,1,none⟩) (Kd.R_types HO239.out BK243.out (by decide)) (fun _ hk=>hk.2) (.slice Ao61 y244.length co61)) (fun _ h_=>h_.1))) hb);replace HO246:=qo.mk (Kd.R_below (by (with_reducible repeat (first|apply Kd.R_alloc|apply Kd.R_drewN|apply Kd.R_drew));exact (Kd.R_mono (Kd.R_far (p:=⟨gb243,1,none⟩) (Kd.R_types HO246.out BK243.out (by decide)) (fun _ hk=>hk.2) (.slice Ao61 y244.length co61)) (fun _ h_=>h_.1))) hb);replace BK235:=qo.mk (qm (g:=gb235) (o:=.cells #[.slice A0_0 l0_0.length c0_0,.slice A0_1 l0_1.length c0_1] 32 (0,0)) (by (with_reducible repeat (first|refine qb ?_ _|refine qe ?_|refine qc ?_ _));refine blk_far ?_ NB235_243.out _;(with_reducible repeat (first|refine qb ?_ _|refine qe ?_|refine qc ?_ _));exact BK235.out) hb);replace BK236:=qo.mk (qm (g:=gb236) (o:=.cells #[.slice none 0 0,.slice none 0 0] 32 (0,0)) (by (with_reducible repeat (first|refine qb ?_ _|refine qe ?_|refine qc ?_ _));refine blk_far ?_ NB236_243.out _;(with_reducible repeat (first|refine qb ?_ _|refine qe ?_|refine qc ?_ _));exact BK236.out) hb);replace BK243:=qo.mk (qm (g:=gb243) (o:=.cells #[.slice Ao55 t237.length co55,.slice Ao61 y244.length co61] 32 (0,0)) (by (with_reducible repeat (first|refine qb ?_ _|refine qe ?_|refine qc ?_ _));refine blk_put (cs:=#[.slice Ao55 t237.length co55,.slice Ao59 t240.length co59]) ?_ 1 _ rfl;(with_reducible repeat (first|refine qb ?_ _|refine qe ?_|refine qc ?_ _));exact BK243.out) hb);replace HB:=hs_ HB hb;(try clear hb);(try clear hb2);(try clear hk);(try clear hi);obtain ⟨hcz65_0,hcz65_1,hfz65_0,hfz65_1⟩:=c2f_ BK236.out))
  refine bodyPost_ret (results_ct rfl _ _ gb236 32 #[.slice none 0 0,.slice none 0 0] (0,0) _ rfl (by (with_reducible repeat (first|refine qb ?_ _|refine qe ?_|refine qc ?_ _));refine blk_put (cs:=#[.slice none 0 0,.slice none 0 0]) ?_ 1 _ rfl;(with_reducible repeat (first|refine qb ?_ _|refine qe ?_|refine qc ?_ _));refine blk_put (cs:=#[.slice none 0 0,.slice none 0 0]) ?_ 0 _ rfl;(with_reducible repeat (first|refine qb ?_ _|refine qe ?_|refine qc ?_ _));exact BK236.out) Try.underlying32 rfl (by kernel_rfl)) rfl ?_
  exact ⟨_,_,rt_,by first|exact Kd.R_nil _ _ _ _ _|exact Kd.N_nil _ _ _ _ _|exact Kd.V_nil _ _ _ _ _|exact Kd.Q_nil _ _ _ _ _|exact Kd.S_nil _ _ _ _ _,by first|exact Kd.R_nil _ _ _ _ _|exact Kd.N_nil _ _ _ _ _|exact Kd.V_nil _ _ _ _ _|exact Kd.Q_nil _ _ _ _ _|exact Kd.S_nil _ _ _ _ _,hx_⟩
 rw [if_neg c5] at H
 exact absurd H (by simp)

-- NOT PRINTED: function 45 (impl_placer_page)

-- NOT PRINTED: function 11 (impl_PlaceTree)

/-! ### laws_big: function 20 -/
def laws_big.f (l0 : List Int) : Option (Bool):=some (decide ((l0.length : Int) > 1048576))
set_option maxHeartbeats 8000000 in
set_option maxRecDepth 100000 in
theorem laws_big.calls (A0 : Option Addr) (c0 : Nat) (l0 : List Int) (r : Bool) (w : World) (hr0 : Kd.C (Kd.int .u8) w A0 l0.length l0) (hc0 : l0.length ≤ c0) (h : laws_big.f l0 = some r) :
  Calls Try.prog 20 #[.slice A0 l0.length c0] w fun e w'=>e = .returned (.bool r) ∧ Drawn0 w w':=by
 have HR0:=qo.mk hr0
 have HC0:=qo.mk hc0
 clear hr0 hc0
 have H : (some (decide ((l0.length : Int) > 1048576))) = some r:=h
 clear h
 obtain rfl:=Option.some.inj H
 go_enter Try.func20,Try.ntmps20
 go_wp2
 go_ret
 exact ⟨by first|rfl|(simp;done)|(simp [*];done),by repeat (first|exact Drawn0.refl _|apply Drawn0.step)⟩

/-- A state of type 114 at block g of W; what its slices lead to came in by w0. -/
def IsS114 (w0 W : World) (g : Nat) (f0 : List Int) (f1 : Int) (f2 : Int) : Prop:=∃ A0 c0,W.heap[g]? = some (.cells #[.slice A0 f0.length c0,.int .i64 f1,.int .i64 f2] 114 (0,0)) ∧ w0.heap.size ≤ g ∧ Kd.C (Kd.int .u8) w0 A0 f0.length f0
theorem IsS114.grown {w0 W : World} {g : Nat} {f0 : List Int} {f1 : Int} {f2 : Int} {W1 : World} {row : Option Nat} (h : IsS114 w0 W g f0 f1 f2) (hw : W.grownBy W1 row) (hne : some g ≠ row) : IsS114 w0 W1 g f0 f1 f2:=by
 obtain ⟨A0,c0,hb,hg,hr0⟩:=h
 exact ⟨A0,c0,blk_grown hb hw hne,hg,hr0⟩
theorem IsS114.kept {w0 W : World} {g : Nat} {f0 : List Int} {f1 : Int} {f2 : Int} {W1 : World} {S : Nat → Prop} (h : IsS114 w0 W g f0 f1 f2) (hk : Kept W W1 S) (hne : ¬ S g) : IsS114 w0 W1 g f0 f1 f2:=by
 obtain ⟨A0,c0,hb,hg,hr0⟩:=h
 exact ⟨A0,c0,blk_kept hb hk hne,hg,hr0⟩
theorem IsS114.below {w0 W : World} {g : Nat} {f0 : List Int} {f1 : Int} {f2 : Int} {W1 : World} (h : IsS114 w0 W g f0 f1 f2) (hw : Below W.heap.size W W1) : IsS114 w0 W1 g f0 f1 f2:=h.grown (grown_of_below hw none) (by simp)
theorem IsS114.alloc {w0 W : World} {g : Nat} {f0 : List Int} {f1 : Int} {f2 : Int} (h : IsS114 w0 W g f0 f1 f2) (o : Obj) : IsS114 w0 (W.alloc o) g f0 f1 f2:=h.below (qf (Below.refl _ _) o)
theorem IsS114.drewN {w0 W : World} {g : Nat} {f0 : List Int} {f1 : Int} {f2 : Int} (h : IsS114 w0 W g f0 f1 f2) (m : Nat) : IsS114 w0 (W.drewN m) g f0 f1 f2:=h
theorem IsS114.drew {w0 W : World} {g : Nat} {f0 : List Int} {f1 : Int} {f2 : Int} (h : IsS114 w0 W g f0 f1 f2) : IsS114 w0 W.drew g f0 f1 f2:=h
theorem IsS114.at_ {w0 W : World} {g : Nat} {f0 : List Int} {f1 : Int} {f2 : Int} {w' : World} {m : Nat} (hq : W.drewN m = w') (h : IsS114 w0 W g f0 f1 f2) : IsS114 w0 w' g f0 f1 f2:=by subst hq;exact IsS114.drewN h m
theorem IsS114.apart {w0 W : World} {g : Nat} {f0 : List Int} {f1 : Int} {f2 : Int} {α : Type} {d : Kd α} {e : Nat} {base : Nat} {ok : Nat → Prop} {v : Value} {xs : List α} (h : IsS114 w0 W g f0 f1 f2) (ho : d.R e W base ok v xs) (ht : ∀ q,q ∈ e :: d.E → q ≠ 114) : d.R e W base (fun k=>ok k ∧ k ≠ g) v xs:=by
 obtain ⟨A0,c0,hb,hg,hr0⟩:=h
 exact Kd.R_types ho hb ht
theorem IsS114.own_ne {w0 W : World} {g : Nat} {f0 : List Int} {f1 : Int} {f2 : Int} {α : Type} {d : Kd α} {e : Nat} {base : Nat} {ok : Nat → Prop} {v : Value} {xs : List α} (h : IsS114 w0 W g f0 f1 f2) (ho : d.R e W base ok v xs) (ht : e ≠ 114) : some g ≠ v.ownBlock:=by
 obtain ⟨A0,c0,hb,hg,hr0⟩:=h
 exact Kd.R_ne ho hb ht
theorem IsS114.apartS {w0 W : World} {g : Nat} {f0 : List Int} {f1 : Int} {f2 : Int} {α : Type} {d : Kd α} {e : Nat} {base : Nat} {ok : Nat → Prop} {v : Value} {xs : List α} (h : IsS114 w0 W g f0 f1 f2) (ho : d.S e W base ok v xs) (ht : ∀ q,q ∈ e :: d.E → q ≠ 114) : d.S e W base (fun k=>ok k ∧ k ≠ g) v xs:=by
 obtain ⟨A0,c0,hb,hg,hr0⟩:=h
 exact Kd.S_types ho hb ht
theorem IsS114.lt {w0 W : World} {g : Nat} {f0 : List Int} {f1 : Int} {f2 : Int} (h : IsS114 w0 W g f0 f1 f2) : g < W.heap.size:=by
 obtain ⟨A0,c0,hb,hg,hr0⟩:=h
 exact blk_lt hb
theorem IsS114.ge {w0 W : World} {g : Nat} {f0 : List Int} {f1 : Int} {f2 : Int} (h : IsS114 w0 W g f0 f1 f2) : w0.heap.size ≤ g:=by
 obtain ⟨A0,c0,hb,hg,hr0⟩:=h
 exact hg
theorem IsS114.ne_blk {w0 W : World} {g : Nat} {f0 : List Int} {f1 : Int} {f2 : Int} {a : Nat} {cs : Array Value} {t : TypeId} {fr : Nat × Nat} (h : IsS114 w0 W g f0 f1 f2) (hb2 : W.heap[a]? = some (.cells cs t fr)) (ht : t ≠ 114) : g ≠ a:=by
 obtain ⟨A0,c0,hb,hg,hr0⟩:=h
 rintro rfl
 rw [hb] at hb2
 injection hb2 with hb2
 injection hb2 with _ ht2
 exact ht ht2.symm
theorem IsS114.far {w0 W : World} {g : Nat} {f0 : List Int} {f1 : Int} {f2 : Int} {p : Addr} (h : IsS114 w0 W g f0 f1 f2) (hne : g ≠ p.block) (u : Value) : IsS114 w0 (W.setCell p u) g f0 f1 f2:=by
 obtain ⟨A0,c0,hb,hg,hr0⟩:=h
 exact ⟨A0,c0,blk_far hb hne u,hg,hr0⟩
theorem cellS114_0 {W : World} {g : Nat} {A0 : Option Addr} {c0 : Nat} {f0 : List Int} {f1 : Int} {f2 : Int} (h : W.heap[g]? = some (.cells #[.slice A0 f0.length c0,.int .i64 f1,.int .i64 f2] 114 (0,0))) : W.cell? ⟨g,0,none⟩ = some (.slice A0 f0.length c0):=(qh h 0).trans rfl
theorem cellS114_1 {W : World} {g : Nat} {A0 : Option Addr} {c0 : Nat} {f0 : List Int} {f1 : Int} {f2 : Int} (h : W.heap[g]? = some (.cells #[.slice A0 f0.length c0,.int .i64 f1,.int .i64 f2] 114 (0,0))) : W.cell? ⟨g,1,none⟩ = some (.int .i64 f1):=(qh h 1).trans rfl
theorem IsS114.set_1 {w0 W : World} {g : Nat} {f0 : List Int} {f1 : Int} {f2 : Int} (h : IsS114 w0 W g f0 f1 f2) (x : Int) : IsS114 w0 (W.setCell ⟨g,1,none⟩ (.int .i64 x)) g f0 x f2:=by
 obtain ⟨A0,c0,hb,hg,hr0⟩:=h
 exact ⟨A0,c0,by simpa using blk_set hb 1 (.int .i64 x),hg,hr0⟩
theorem cellS114_2 {W : World} {g : Nat} {A0 : Option Addr} {c0 : Nat} {f0 : List Int} {f1 : Int} {f2 : Int} (h : W.heap[g]? = some (.cells #[.slice A0 f0.length c0,.int .i64 f1,.int .i64 f2] 114 (0,0))) : W.cell? ⟨g,2,none⟩ = some (.int .i64 f2):=(qh h 2).trans rfl
theorem IsS114.set_2 {w0 W : World} {g : Nat} {f0 : List Int} {f1 : Int} {f2 : Int} (h : IsS114 w0 W g f0 f1 f2) (x : Int) : IsS114 w0 (W.setCell ⟨g,2,none⟩ (.int .i64 x)) g f0 f1 x:=by
 obtain ⟨A0,c0,hb,hg,hr0⟩:=h
 exact ⟨A0,c0,by simpa using blk_set hb 2 (.int .i64 x),hg,hr0⟩
theorem IsS114.new (w0 W : World) (A0 : Option Addr) (c0 : Nat) (f0 : List Int) (f1 : Int) (f2 : Int) (hB : Below w0.heap.size w0 W) (hr0 : Kd.C (Kd.int .u8) w0 A0 f0.length f0) : IsS114 w0 (W.alloc (.cells #[.slice A0 f0.length c0,.int .i64 f1,.int .i64 f2] 114)) W.heap.size f0 f1 f2:=⟨A0,c0,by simpa using heap_alloc_new W _,hB.size,hr0⟩

/-! ### spec_l01New: function 54 -/
def spec_l01New.l0 : Nat → List Int → Int → Int → Option (List Int × Int × Int)
 | 0,_,_,_=>none
 | k + 1,x0,x3,x4=>if x4 < (x0.length : Int) then (if x4 < 4000 then (if 0 ≤ x4 then (spec_l01New.l0 k x0 (Go.bits .and .i64 (wrap64 ((wrap64 ((wrap64 (x3 * 131)) + (wrap64 (rd x0 x4)))) + 7)) 1073741823) (wrap64 (x4 + 1))) else (none)) else (some (x0,0,x3))) else (some (x0,0,x3))
def spec_l01New.f (k : Nat) (l0 : List Int) : Option (List Int × Int × Int):=spec_l01New.l0 k l0 (wrap64 (10501 + (l0.length : Int))) 0
theorem spec_l01New.mono_l : ∀ k,(∀ y0 y1 y2,LeO (spec_l01New.l0 k y0 y1 y2) (spec_l01New.l0 (k + 1) y0 y1 y2))
 | 0=>fun _ _ _ r h=>by simp [spec_l01New.l0] at h
 | k + 1=>by
  have ih0:=spec_l01New.mono_l k
  intro y0 y1 y2
  unfold spec_l01New.l0
  repeat' first|(with_reducible first|exact ih0 _ _ _|exact LeO.refl _|exact LeO.none _|refine LeO.ite ?_ ?_|refine LeO.bind ?_ (fun _=>?_))|exact ih0 _ _ _|exact LeO.none _|refine LeO.ite ?_ ?_|refine LeO.bind ?_ (fun _=>?_)
theorem spec_l01New.mono : ∀ a0 k,LeO (spec_l01New.f k a0) (spec_l01New.f (k + 1) a0):=by
 intro a0 k
 have ih0:=spec_l01New.mono_l k
 unfold spec_l01New.f
 repeat' first|(with_reducible first|exact ih0 _ _ _|exact LeO.refl _|exact LeO.none _|refine LeO.ite ?_ ?_|refine LeO.bind ?_ (fun _=>?_))|exact ih0 _ _ _|exact LeO.none _|refine LeO.ite ?_ ?_|refine LeO.bind ?_ (fun _=>?_)
set_option maxHeartbeats 8000000 in
set_option maxRecDepth 100000 in
theorem spec_l01New.calls (k : Nat) (A0 : Option Addr) (c0 : Nat) (l0 : List Int) (r1 : List Int) (r2 : Int) (r3 : Int) (w0 w : World) (hB : Below w0.heap.size w0 w) (hr0 : Kd.C (Kd.int .u8) w0 A0 l0.length l0) (hc0 : l0.length ≤ c0) (h : spec_l01New.f k l0 = some (r1,r2,r3)) :
  Calls Try.prog 54 #[.slice A0 l0.length c0] w fun e w'=>∃ g_ : Nat,e = .returned (.pointer (some ⟨g_,0,none⟩)) ∧ IsS114 w0 w' g_ r1 r2 r3 ∧ Below w0.heap.size w0 w' ∧ Below w.heap.size w w':=by
 have hu114:=Try.underlying114
 have HR0:=qo.mk hr0
 have HC0:=qo.mk hc0
 clear hr0 hc0
 have HBW:=qo.mk (Below.refl w.heap.size w)
 have HW0:=qo.mk hB.size
 have HB:=qo.mk hB
 clear hB
 have H : (spec_l01New.l0 k l0 (wrap64 (10501 + (l0.length : Int))) 0) = some (r1,r2,r3):=h
 clear h
 have H':=qo.mk H
 clear H
 go_enter Try.func54,Try.ntmps54
 go_wp2
 go_loopg [3,4] k (fun kq v3 v4 w'=>∃ (x3_1 : Int) (x4_1 : Int),v3 = .int .i64 x3_1 ∧ v4 = .int .i64 x4_1 ∧ qo (spec_l01New.l0 kq l0 x3_1 x4_1 = some (r1,r2,r3)) ∧ qo (kq ≤ k) ∧ qo (Below w0.heap.size w0 w') ∧ qo (Below w.heap.size w w'))
 case atStart=>exact ⟨(wrap64 (10501 + (l0.length : Int))),(0),rs_,rs_,H',⟨Nat.le_refl _⟩,⟨hx_⟩,⟨hx_⟩⟩
 clear H'
 clear HBW
 obtain ⟨x3_1,x4_1,rfl,rfl,HA,HK1,HB,HBW⟩:=hrel
 obtain _|k1:=gk
 ·exact absurd HA.out (by simp [spec_l01New.l0])
 have H:=HA.out
 clear HA
 simp only [spec_l01New.l0] at H
 by_cases c2 : x4_1 < (l0.length : Int)
 ·rw [if_pos c2] at H
  have c2b0 : decide (x4_1 < (l0.length : Int)) = true:=decide_eq_true c2
  clear c2
  by_cases c3 : x4_1 < 4000
  ·rw [if_pos c3] at H
   have c3b0 : decide (x4_1 < 4000) = true:=decide_eq_true c3
   clear c3
   by_cases c4 : 0 ≤ x4_1
   ·rw [if_pos c4] at H
    have c4b0 : decide (0 ≤ x4_1) = true:=decide_eq_true c4
    clear c4
    have H':=qo.mk H
    clear H
    have p276 : 0 ≤ (x4_1 : Int):=dt_
    have q276 : x4_1 < (l0.length : Int):=dt_
    obtain ⟨ad276,e276,hx276_0⟩:=Kd.at_int HR0.out x4_1 p276 q276
    cases e276
    replace hx276_0:=pw_cell_below HB.out hx276_0
    replace p276:=eq_true p276
    replace q276:=eq_true q276
    go_wp2
    go_roundg k1
    case measure=>have:=HK1.out;omega
    case rel=>exact ⟨(Go.bits .and .i64 (wrap64 ((wrap64 ((wrap64 (x3_1 * 131)) + (wrap64 (rd l0 x4_1)))) + 7)) 1073741823),(wrap64 (x4_1 + 1)),rs_,rs_,H',⟨by have:=HK1.out;omega⟩,⟨hx_⟩,⟨hx_⟩⟩
   rw [if_neg c4] at H
   exact absurd H (by simp)
  rw [if_neg c3] at H
  have c3b0 : decide (x4_1 < 4000) = false:=decide_eq_false c3
  clear c3
  simp only [Option.some.injEq,Prod.mk.injEq] at H
  obtain ⟨rfl,rfl,rfl⟩:=H
  go_wp2_with (first|((with_reducible refine gate_dst (N:=31) rfl ?_);refine box_event ?hg (N:=31) ?hd (cs:=#[.slice A0 l0.length c0,.int .i64 0,.int .i64 x3_1]) (t:=114) ?hr ?_;(case hd=>rfl);(case hg=>rfl);(case hr=>first|(go_simp;done)|(go_simp;rfl));intro gb277 hg w5 hbox hb;have BK277:=qo.mk (hbox);have GW277:=hl_ (w:=w) hg;have GE277:=qo.mk ((Nat.le_trans HW0.out (by rw [hg];exact (qk hx_) : w.heap.size ≤ gb277) : w0.heap.size ≤ gb277));replace HB:=hs_ HB hb;replace HBW:=qo.mk (qn HBW.out hb);clear hb hbox hg))
  go_ret
  exact ⟨_,rfl,(show IsS114 w0 _ gb277 l0 0 x3_1 from ⟨_,_,by (with_reducible repeat (first|refine qb ?_ _|refine qe ?_|refine qc ?_ _));exact BK277.out,GE277.out,HR0.out⟩),hx_,by repeat (first|(with_reducible first|exact HBW.out|apply qf|apply qa|apply qd|refine qg ?_ GW277.out)|exact HBW.out)⟩
 rw [if_neg c2] at H
 have c2b0 : decide (x4_1 < (l0.length : Int)) = false:=decide_eq_false c2
 clear c2
 simp only [Option.some.injEq,Prod.mk.injEq] at H
 obtain ⟨rfl,rfl,rfl⟩:=H
 go_wp2_with (first|((with_reducible refine gate_dst (N:=31) rfl ?_);refine box_event ?hg (N:=31) ?hd (cs:=#[.slice A0 l0.length c0,.int .i64 0,.int .i64 x3_1]) (t:=114) ?hr ?_;(case hd=>rfl);(case hg=>rfl);(case hr=>first|(go_simp;done)|(go_simp;rfl));intro gb278 hg w6 hbox hb;have BK278:=qo.mk (hbox);have GW278:=hl_ (w:=w) hg;have GE278:=qo.mk ((Nat.le_trans HW0.out (by rw [hg];exact (qk hx_) : w.heap.size ≤ gb278) : w0.heap.size ≤ gb278));replace HB:=hs_ HB hb;replace HBW:=qo.mk (qn HBW.out hb);clear hb hbox hg))
 go_ret
 exact ⟨_,rfl,(show IsS114 w0 _ gb278 l0 0 x3_1 from ⟨_,_,by (with_reducible repeat (first|refine qb ?_ _|refine qe ?_|refine qc ?_ _));exact BK278.out,GE278.out,HR0.out⟩),hx_,by repeat (first|(with_reducible first|exact HBW.out|apply qf|apply qa|apply qd|refine qg ?_ GW278.out)|exact HBW.out)⟩

/-! ### spec_l01Byte: function 94 -/
def spec_l01Byte.f (s0_0 : List Int) (s0_1 : Int) (s0_2 : Int) : Option (Int × Int × Int):=if s0_1 < (s0_0.length : Int) then (if 0 ≤ s0_1 then (some (Go.bits .and .i64 (wrap64 ((Go.bits .and .i64 (Go.bits .xor .i64 ((wrap64 ((wrap64 (s0_2 * 6364136223846793005)) + 1442695040888963407)) / 8589934592) ((wrap64 ((wrap64 (s0_2 * 6364136223846793005)) + 1442695040888963407)) / 35184372088832)) 255) + (wrap64 (rd s0_0 s0_1)))) 255,wrap64 (s0_1 + 1),wrap64 ((wrap64 (s0_2 * 6364136223846793005)) + 1442695040888963407))) else (none)) else (some (Go.bits .and .i64 (Go.bits .xor .i64 ((wrap64 ((wrap64 (s0_2 * 6364136223846793005)) + 1442695040888963407)) / 8589934592) ((wrap64 ((wrap64 (s0_2 * 6364136223846793005)) + 1442695040888963407)) / 35184372088832)) 255,s0_1,wrap64 ((wrap64 (s0_2 * 6364136223846793005)) + 1442695040888963407)))
set_option maxHeartbeats 8000000 in
set_option maxRecDepth 100000 in
theorem spec_l01Byte.calls (g : Nat) (s0_0 : List Int) (s0_1 : Int) (s0_2 : Int) (r1 : Int) (r2 : Int) (r3 : Int) (w0 w : World) (hI : IsS114 w0 w g s0_0 s0_1 s0_2) (hB : Below w0.heap.size w0 w) (h : spec_l01Byte.f s0_0 s0_1 s0_2 = some (r1,r2,r3)) :
  Calls Try.prog 94 #[.pointer (some ⟨g,0,none⟩)] w fun e w'=>e = .returned (.int .i64 r1) ∧ IsS114 w0 w' g s0_0 r2 r3 ∧ Below w0.heap.size w0 w' ∧ KeepBut w w' g none:=by
 have HI0:=qo.mk hI
 have HK:=qo.mk (KeepBut.refl w g none)
 have HL:=qo.mk hB.size
 clear hI
 have HW0:=qo.mk hB.size
 have HB:=qo.mk hB
 clear hB
 have H : (if s0_1 < (s0_0.length : Int) then (if 0 ≤ s0_1 then (some (Go.bits .and .i64 (wrap64 ((Go.bits .and .i64 (Go.bits .xor .i64 ((wrap64 ((wrap64 (s0_2 * 6364136223846793005)) + 1442695040888963407)) / 8589934592) ((wrap64 ((wrap64 (s0_2 * 6364136223846793005)) + 1442695040888963407)) / 35184372088832)) 255) + (wrap64 (rd s0_0 s0_1)))) 255,wrap64 (s0_1 + 1),wrap64 ((wrap64 (s0_2 * 6364136223846793005)) + 1442695040888963407))) else (none)) else (some (Go.bits .and .i64 (Go.bits .xor .i64 ((wrap64 ((wrap64 (s0_2 * 6364136223846793005)) + 1442695040888963407)) / 8589934592) ((wrap64 ((wrap64 (s0_2 * 6364136223846793005)) + 1442695040888963407)) / 35184372088832)) 255,s0_1,wrap64 ((wrap64 (s0_2 * 6364136223846793005)) + 1442695040888963407)))) = some (r1,r2,r3):=h
 clear h
 by_cases c2 : s0_1 < (s0_0.length : Int)
 ·rw [if_pos c2] at H
  have c2b0 : decide (s0_1 < (s0_0.length : Int)) = true:=decide_eq_true c2
  clear c2
  by_cases c3 : 0 ≤ s0_1
  ·rw [if_pos c3] at H
   have c3b0 : decide (0 ≤ s0_1) = true:=decide_eq_true c3
   clear c3
   simp only [Option.some.injEq,Prod.mk.injEq] at H
   obtain ⟨rfl,rfl,rfl⟩:=H
   obtain ⟨ASz4_0,cSz4_0,HGz4,hgz4,HSz4_0⟩:=HI0.out
   have hcz4_0:=cellS114_0 HGz4
   have hcz4_1:=cellS114_1 HGz4
   have hcz4_2:=cellS114_2 HGz4
   have hfz4_1:=qj HGz4 1
   have hfz4_2:=qj HGz4 2
   clear HGz4 hgz4
   have p279 : 0 ≤ (s0_1 : Int):=dt_
   have q279 : s0_1 < (s0_0.length : Int):=dt_
   obtain ⟨ad279,e279,hx279_0⟩:=Kd.at_int HSz4_0 s0_1 p279 q279
   cases e279
   have hn279_0 : ad279.block ≠ g:=Nat.ne_of_lt (Nat.lt_of_lt_of_le (by have:=World.block_lt_of_cell? _ _ hx279_0;first|rwa [ql] at this|exact this) (IsS114.ge HI0.out))
   replace hx279_0:=pw_cell_below HB.out hx279_0
   replace hx279_0:=(cell_far (p:=⟨g,2,none⟩) (by first|(rw [ql];exact hn279_0)|(show (Addr.add _ _).block ≠ _;rw [ql];exact hn279_0)|exact hn279_0) (.int .i64 (wrap64 ((wrap64 (s0_2 * 6364136223846793005)) + 1442695040888963407)))).trans hx279_0
   (try have hy279_0:=fun (n_ : Nat)=>(show (((w.drewN n_).setCell ⟨g,2,none⟩ (.int .i64 (wrap64 ((wrap64 (s0_2 * 6364136223846793005)) + 1442695040888963407))))).cell? _ = some _ from hx279_0))
   clear hn279_0
   replace p279:=eq_true p279
   replace q279:=eq_true q279
   go_enter Try.func94,Try.ntmps94
   go_wp2
   repeat (go_quiet (fail);try go_wp2)
   go_ret
   exact ⟨rt_,by repeat (first|(with_reducible first|exact HI0.out|apply IsS114.alloc|apply IsS114.drewN|apply IsS114.drew|apply IsS114.set_1|apply IsS114.set_2)|exact HI0.out),by repeat (first|(with_reducible first|exact HB.out|apply qf|apply qa|apply qd|refine qg ?_ (IsS114.ge HI0.out))|exact HB.out),by repeat (first|(with_reducible first|exact HK.out|apply KeepBut.set_|apply keep_drewN|apply keep_drew|apply keep_alloc)|exact HK.out)⟩
  rw [if_neg c3] at H
  exact absurd H (by simp)
 rw [if_neg c2] at H
 have c2b0 : decide (s0_1 < (s0_0.length : Int)) = false:=decide_eq_false c2
 clear c2
 simp only [Option.some.injEq,Prod.mk.injEq] at H
 obtain ⟨rfl,rfl,rfl⟩:=H
 obtain ⟨ASz5_0,cSz5_0,HGz5,hgz5,HSz5_0⟩:=HI0.out
 have hcz5_0:=cellS114_0 HGz5
 have hcz5_1:=cellS114_1 HGz5
 have hcz5_2:=cellS114_2 HGz5
 have hfz5_1:=qj HGz5 1
 have hfz5_2:=qj HGz5 2
 clear HGz5 hgz5
 go_enter Try.func94,Try.ntmps94
 go_wp2
 repeat (go_quiet (fail);try go_wp2)
 go_ret
 exact ⟨rt_,by repeat (first|(with_reducible first|exact HI0.out|apply IsS114.alloc|apply IsS114.drewN|apply IsS114.drew|apply IsS114.set_1|apply IsS114.set_2)|exact HI0.out),by repeat (first|(with_reducible first|exact HB.out|apply qf|apply qa|apply qd|refine qg ?_ (IsS114.ge HI0.out))|exact HB.out),by repeat (first|(with_reducible first|exact HK.out|apply KeepBut.set_|apply keep_drewN|apply keep_drew|apply keep_alloc)|exact HK.out)⟩

/-! ### spec_l01Below: function 76 -/
def spec_l01Below.f (s0_0 : List Int) (s0_1 : Int) (s0_2 : Int) (a1 : Int) : Option (Int × Int × Int):=if a1 ≤ 0 then (some (0,s0_1,s0_2)) else (if a1 ≤ 256 then ((spec_l01Byte.f s0_0 s0_1 s0_2).bind fun bt280=>(if a1 = 0 then (none) else (some (Int.tmod bt280.1 a1,bt280.2.1,bt280.2.2)))) else ((spec_l01Byte.f s0_0 s0_1 s0_2).bind fun bt283=>((spec_l01Byte.f s0_0 bt283.2.1 bt283.2.2).bind fun bt286=>((spec_l01Byte.f s0_0 bt286.2.1 bt286.2.2).bind fun bt289=>((spec_l01Byte.f s0_0 bt289.2.1 bt289.2.2).bind fun bt292=>(if a1 = 0 then (none) else (some (Int.tmod (wrap64 ((wrap64 ((wrap64 ((wrap64 (bt283.1 * 16777216)) + (wrap64 (bt286.1 * 65536)))) + (wrap64 (bt289.1 * 256)))) + bt292.1)) a1,bt292.2.1,bt292.2.2))))))))
set_option maxHeartbeats 8000000 in
set_option maxRecDepth 100000 in
theorem spec_l01Below.calls (g : Nat) (s0_0 : List Int) (s0_1 : Int) (s0_2 : Int) (a1 : Int) (r1 : Int) (r2 : Int) (r3 : Int) (w0 w : World) (hI : IsS114 w0 w g s0_0 s0_1 s0_2) (hB : Below w0.heap.size w0 w) (h : spec_l01Below.f s0_0 s0_1 s0_2 a1 = some (r1,r2,r3)) :
  Calls Try.prog 76 #[.pointer (some ⟨g,0,none⟩),.int .i64 a1] w fun e w'=>e = .returned (.int .i64 r1) ∧ IsS114 w0 w' g s0_0 r2 r3 ∧ Below w0.heap.size w0 w' ∧ KeepBut w w' g none:=by
 have HI0:=qo.mk hI
 have HK:=qo.mk (KeepBut.refl w g none)
 have HL:=qo.mk hB.size
 clear hI
 have HW0:=qo.mk hB.size
 have HB:=qo.mk hB
 clear hB
 have H : (if a1 ≤ 0 then (some (0,s0_1,s0_2)) else (if a1 ≤ 256 then ((spec_l01Byte.f s0_0 s0_1 s0_2).bind fun bt280=>(if a1 = 0 then (none) else (some (Int.tmod bt280.1 a1,bt280.2.1,bt280.2.2)))) else ((spec_l01Byte.f s0_0 s0_1 s0_2).bind fun bt283=>((spec_l01Byte.f s0_0 bt283.2.1 bt283.2.2).bind fun bt286=>((spec_l01Byte.f s0_0 bt286.2.1 bt286.2.2).bind fun bt289=>((spec_l01Byte.f s0_0 bt289.2.1 bt289.2.2).bind fun bt292=>(if a1 = 0 then (none) else (some (Int.tmod (wrap64 ((wrap64 ((wrap64 ((wrap64 (bt283.1 * 16777216)) + (wrap64 (bt286.1 * 65536)))) + (wrap64 (bt289.1 * 256)))) + bt292.1)) a1,bt292.2.1,bt292.2.2))))))))) = some (r1,r2,r3):=h
 clear h
 by_cases c3 : a1 ≤ 0
 ·rw [if_pos c3] at H
  have c3b0 : decide (a1 ≤ 0) = true:=decide_eq_true c3
  clear c3
  simp only [Option.some.injEq,Prod.mk.injEq] at H
  obtain ⟨rfl,rfl,rfl⟩:=H
  go_enter Try.func76,Try.ntmps76
  go_wp2
  go_ret
  exact ⟨rt_,by repeat (first|(with_reducible first|exact HI0.out|apply IsS114.alloc|apply IsS114.drewN|apply IsS114.drew|apply IsS114.set_1|apply IsS114.set_2)|exact HI0.out),by repeat (first|(with_reducible first|exact HB.out|apply qf|apply qa|apply qd|refine qg ?_ (IsS114.ge HI0.out))|exact HB.out),by repeat (first|(with_reducible first|exact HK.out|apply KeepBut.set_|apply keep_drewN|apply keep_drew|apply keep_alloc)|exact HK.out)⟩
 rw [if_neg c3] at H
 have c3b0 : decide (a1 ≤ 0) = false:=decide_eq_false c3
 clear c3
 by_cases c4 : a1 ≤ 256
 ·rw [if_pos c4] at H
  have c4b0 : decide (a1 ≤ 256) = true:=decide_eq_true c4
  clear c4
  replace H:=Option.bind_eq_some_iff.mp H
  obtain ⟨⟨t280,t281,t282⟩,A50,H⟩:=H
  replace H : (if a1 = 0 then (none) else (some (Int.tmod t280 a1,t281,t282))) = some (r1,r2,r3):=H
  have A5:=qo.mk A50
  clear A50
  by_cases c6 : a1 = 0
  ·rw [if_pos c6] at H
   exact absurd H (by simp)
  rw [if_neg c6] at H
  have c6b0 : (a1 == 0) = false:=beq_eq_false_iff_ne.mpr c6
  have c6b1 : (a1 != 0) = true:=bne_iff_ne.mpr c6
  simp only [Option.some.injEq,Prod.mk.injEq] at H
  obtain ⟨rfl,rfl,rfl⟩:=H
  go_enter Try.func76,Try.ntmps76
  go_wp2_with (first|((with_reducible refine gate_callee (f:=94) rfl ?_);refine goesL_ (some 14) rfl rfl Try.func94 (by kernel_rfl) rfl #[.pointer (some ⟨g,0,none⟩)] rfl sm_ ?_;(with_reducible refine (spec_l01Byte.calls g s0_0 s0_1 s0_2 t280 t281 t282 w0 _ ?side1 ?side2 A5.out).mono ?_);(case side1=>repeat (first|(with_reducible first|exact HI0.out|apply IsS114.alloc|apply IsS114.drewN|apply IsS114.drew|apply IsS114.set_1|apply IsS114.set_2)|exact HI0.out));(case side2=>repeat (first|(with_reducible first|exact HB.out|apply qf|apply qa|apply qd|refine qg ?_ (IsS114.ge HI0.out))|exact HB.out));rintro e w7 ⟨rfl,hi,hb,hk⟩;refine ⟨_,rfl,?_⟩;replace HK:=qo.mk (KeepBut.trans (by repeat (first|(with_reducible first|exact HK.out|apply KeepBut.set_|apply keep_drewN|apply keep_drew|apply keep_alloc)|exact HK.out)) hk (.inl rfl));replace HB:=qo.mk (hb);replace HI0:=qo.mk (hi);(try clear hb);(try clear hb2);(try clear hk);(try clear hi)))
  go_ret
  exact ⟨rt_,by repeat (first|(with_reducible first|exact HI0.out|apply IsS114.alloc|apply IsS114.drewN|apply IsS114.drew|apply IsS114.set_1|apply IsS114.set_2)|exact HI0.out),by repeat (first|(with_reducible first|exact HB.out|apply qf|apply qa|apply qd|refine qg ?_ (IsS114.ge HI0.out))|exact HB.out),by repeat (first|(with_reducible first|exact HK.out|apply KeepBut.set_|apply keep_drewN|apply keep_drew|apply keep_alloc)|exact HK.out)⟩
 rw [if_neg c4] at H
 have c4b0 : decide (a1 ≤ 256) = false:=decide_eq_false c4
 clear c4
 replace H:=Option.bind_eq_some_iff.mp H
 obtain ⟨⟨t283,t284,t285⟩,A80,H⟩:=H
 replace H : ((spec_l01Byte.f s0_0 t284 t285).bind fun bt286=>((spec_l01Byte.f s0_0 bt286.2.1 bt286.2.2).bind fun bt289=>((spec_l01Byte.f s0_0 bt289.2.1 bt289.2.2).bind fun bt292=>(if a1 = 0 then (none) else (some (Int.tmod (wrap64 ((wrap64 ((wrap64 ((wrap64 (t283 * 16777216)) + (wrap64 (bt286.1 * 65536)))) + (wrap64 (bt289.1 * 256)))) + bt292.1)) a1,bt292.2.1,bt292.2.2)))))) = some (r1,r2,r3):=H
 have A8:=qo.mk A80
 clear A80
 replace H:=Option.bind_eq_some_iff.mp H
 obtain ⟨⟨t286,t287,t288⟩,A90,H⟩:=H
 replace H : ((spec_l01Byte.f s0_0 t287 t288).bind fun bt289=>((spec_l01Byte.f s0_0 bt289.2.1 bt289.2.2).bind fun bt292=>(if a1 = 0 then (none) else (some (Int.tmod (wrap64 ((wrap64 ((wrap64 ((wrap64 (t283 * 16777216)) + (wrap64 (t286 * 65536)))) + (wrap64 (bt289.1 * 256)))) + bt292.1)) a1,bt292.2.1,bt292.2.2))))) = some (r1,r2,r3):=H
 have A9:=qo.mk A90
 clear A90
 replace H:=Option.bind_eq_some_iff.mp H
 obtain ⟨⟨t289,t290,t291⟩,A100,H⟩:=H
 replace H : ((spec_l01Byte.f s0_0 t290 t291).bind fun bt292=>(if a1 = 0 then (none) else (some (Int.tmod (wrap64 ((wrap64 ((wrap64 ((wrap64 (t283 * 16777216)) + (wrap64 (t286 * 65536)))) + (wrap64 (t289 * 256)))) + bt292.1)) a1,bt292.2.1,bt292.2.2)))) = some (r1,r2,r3):=H
 have A10:=qo.mk A100
 clear A100
 replace H:=Option.bind_eq_some_iff.mp H
 obtain ⟨⟨t292,t293,t294⟩,A110,H⟩:=H
 replace H : (if a1 = 0 then (none) else (some (Int.tmod (wrap64 ((wrap64 ((wrap64 ((wrap64 (t283 * 16777216)) + (wrap64 (t286 * 65536)))) + (wrap64 (t289 * 256)))) + t292)) a1,t293,t294))) = some (r1,r2,r3):=H
 have A11:=qo.mk A110
 clear A110
 by_cases c12 : a1 = 0
 ·rw [if_pos c12] at H
  exact absurd H (by simp)
 rw [if_neg c12] at H
 have c12b0 : (a1 == 0) = false:=beq_eq_false_iff_ne.mpr c12
 have c12b1 : (a1 != 0) = true:=bne_iff_ne.mpr c12
 simp only [Option.some.injEq,Prod.mk.injEq] at H
 obtain ⟨rfl,rfl,rfl⟩:=H
 go_enter Try.func76,Try.ntmps76
 go_wp2_with (first|((with_reducible refine gate_callee (f:=94) rfl ?_);refine goesL_ (some 18) rfl rfl Try.func94 (by kernel_rfl) rfl #[.pointer (some ⟨g,0,none⟩)] rfl sm_ ?_;(with_reducible refine (spec_l01Byte.calls g s0_0 s0_1 s0_2 t283 t284 t285 w0 _ ?side1 ?side2 A8.out).mono ?_);(case side1=>repeat (first|(with_reducible first|exact HI0.out|apply IsS114.alloc|apply IsS114.drewN|apply IsS114.drew|apply IsS114.set_1|apply IsS114.set_2)|exact HI0.out));(case side2=>repeat (first|(with_reducible first|exact HB.out|apply qf|apply qa|apply qd|refine qg ?_ (IsS114.ge HI0.out))|exact HB.out));rintro e w13 ⟨rfl,hi,hb,hk⟩;refine ⟨_,rfl,?_⟩;replace HK:=qo.mk (KeepBut.trans (by repeat (first|(with_reducible first|exact HK.out|apply KeepBut.set_|apply keep_drewN|apply keep_drew|apply keep_alloc)|exact HK.out)) hk (.inl rfl));replace HB:=qo.mk (hb);replace HI0:=qo.mk (hi);(try clear hb);(try clear hb2);(try clear hk);(try clear hi))|((with_reducible refine gate_callee (f:=94) rfl ?_);refine goesL_ (some 20) rfl rfl Try.func94 (by kernel_rfl) rfl #[.pointer (some ⟨g,0,none⟩)] rfl sm_ ?_;(with_reducible refine (spec_l01Byte.calls g s0_0 t284 t285 t286 t287 t288 w0 _ ?side1 ?side2 A9.out).mono ?_);(case side1=>repeat (first|(with_reducible first|exact HI0.out|apply IsS114.alloc|apply IsS114.drewN|apply IsS114.drew|apply IsS114.set_1|apply IsS114.set_2)|exact HI0.out));(case side2=>repeat (first|(with_reducible first|exact HB.out|apply qf|apply qa|apply qd|refine qg ?_ (IsS114.ge HI0.out))|exact HB.out));rintro e w14 ⟨rfl,hi,hb,hk⟩;refine ⟨_,rfl,?_⟩;replace HK:=qo.mk (KeepBut.trans (by repeat (first|(with_reducible first|exact HK.out|apply KeepBut.set_|apply keep_drewN|apply keep_drew|apply keep_alloc)|exact HK.out)) hk (.inl rfl));replace HB:=qo.mk (hb);replace HI0:=qo.mk (hi);(try clear hb);(try clear hb2);(try clear hk);(try clear hi))|((with_reducible refine gate_callee (f:=94) rfl ?_);refine goesL_ (some 22) rfl rfl Try.func94 (by kernel_rfl) rfl #[.pointer (some ⟨g,0,none⟩)] rfl sm_ ?_;(with_reducible refine (spec_l01Byte.calls g s0_0 t287 t288 t289 t290 t291 w0 _ ?side1 ?side2 A10.out).mono ?_);(case side1=>repeat (first|(with_reducible first|exact HI0.out|apply IsS114.alloc|apply IsS114.drewN|apply IsS114.drew|apply IsS114.set_1|apply IsS114.set_2)|exact HI0.out));(case side2=>repeat (first|(with_reducible first|exact HB.out|apply qf|apply qa|apply qd|refine qg ?_ (IsS114.ge HI0.out))|exact HB.out));rintro e w15 ⟨rfl,hi,hb,hk⟩;refine ⟨_,rfl,?_⟩;replace HK:=qo.mk (KeepBut.trans (by repeat (first|(with_reducible first|exact HK.out|apply KeepBut.set_|apply keep_drewN|apply keep_drew|apply keep_alloc)|exact HK.out)) hk (.inl rfl));replace HB:=qo.mk (hb);replace HI0:=qo.mk (hi);(try clear hb);(try clear hb2);(try clear hk);(try clear hi))|((with_reducible refine gate_callee (f:=94) rfl ?_);refine goesL_ (some 24) rfl rfl Try.func94 (by kernel_rfl) rfl #[.pointer (some ⟨g,0,none⟩)] rfl sm_ ?_;(with_reducible refine (spec_l01Byte.calls g s0_0 t290 t291 t292 t293 t294 w0 _ ?side1 ?side2 A11.out).mono ?_);(case side1=>repeat (first|(with_reducible first|exact HI0.out|apply IsS114.alloc|apply IsS114.drewN|apply IsS114.drew|apply IsS114.set_1|apply IsS114.set_2)|exact HI0.out));(case side2=>repeat (first|(with_reducible first|exact HB.out|apply qf|apply qa|apply qd|refine qg ?_ (IsS114.ge HI0.out))|exact HB.out));rintro e w16 ⟨rfl,hi,hb,hk⟩;refine ⟨_,rfl,?_⟩;replace HK:=qo.mk (KeepBut.trans (by repeat (first|(with_reducible first|exact HK.out|apply KeepBut.set_|apply keep_drewN|apply keep_drew|apply keep_alloc)|exact HK.out)) hk (.inl rfl));replace HB:=qo.mk (hb);replace HI0:=qo.mk (hi);(try clear hb);(try clear hb2);(try clear hk);(try clear hi)))
 go_ret
 exact ⟨rt_,by repeat (first|(with_reducible first|exact HI0.out|apply IsS114.alloc|apply IsS114.drewN|apply IsS114.drew|apply IsS114.set_1|apply IsS114.set_2)|exact HI0.out),by repeat (first|(with_reducible first|exact HB.out|apply qf|apply qa|apply qd|refine qg ?_ (IsS114.ge HI0.out))|exact HB.out),by repeat (first|(with_reducible first|exact HK.out|apply KeepBut.set_|apply keep_drewN|apply keep_drew|apply keep_alloc)|exact HK.out)⟩

/-! ### spec_l01Figure: function 95 -/
def spec_l01Figure.f (a0 : Int) : Option (Int):=if a0 < 10 then (some ((wrap64 (48 + a0)) % 256)) else (some ((wrap64 ((wrap64 (97 + a0)) - 10)) % 256))
set_option maxHeartbeats 8000000 in
set_option maxRecDepth 100000 in
theorem spec_l01Figure.calls (a0 : Int) (r : Int) (w : World) (h : spec_l01Figure.f a0 = some r) :
  Calls Try.prog 95 #[.int .i64 a0] w fun e w'=>e = .returned (.int .u8 r) ∧ Drawn0 w w':=by
 have H : (if a0 < 10 then (some ((wrap64 (48 + a0)) % 256)) else (some ((wrap64 ((wrap64 (97 + a0)) - 10)) % 256))) = some r:=h
 clear h
 by_cases c2 : a0 < 10
 ·rw [if_pos c2] at H
  have c2b0 : decide (a0 < 10) = true:=decide_eq_true c2
  clear c2
  obtain rfl:=Option.some.inj H
  go_enter Try.func95,Try.ntmps95
  go_wp2
  go_ret
  exact ⟨by first|rfl|(simp;done)|(simp [*];done),by repeat (first|exact Drawn0.refl _|apply Drawn0.step)⟩
 rw [if_neg c2] at H
 have c2b0 : decide (a0 < 10) = false:=decide_eq_false c2
 clear c2
 obtain rfl:=Option.some.inj H
 go_enter Try.func95,Try.ntmps95
 go_wp2
 go_ret
 exact ⟨by first|rfl|(simp;done)|(simp [*];done),by repeat (first|exact Drawn0.refl _|apply Drawn0.step)⟩

/-! ### spec_Decimal: function 77 -/
def spec_Decimal.l0 : Nat → Int → Bool → ByteArray → Option (ByteArray)
 | 0,_,_,_=>none
 | k + 1,x0,x3,x4=>if x0 = 0 then (if x3 = true then (if 1 + x4.size ≤ 9223372036854775807 then (some ((⟨#[45]⟩ : ByteArray) ++ x4)) else (none)) else (some x4)) else (if (Int.tmod x0 10) < 0 then ((spec_l01Figure.f (wrap64 (-(Int.tmod x0 10)))).bind fun t295=>((some (([t295] : List Int) : List Int)).bind fun y296=>(if (strOfNums y296).size + x4.size ≤ 9223372036854775807 then (spec_Decimal.l0 k (wrap64 (Int.tdiv x0 10)) x3 ((strOfNums y296) ++ x4)) else (none)))) else ((spec_l01Figure.f (Int.tmod x0 10)).bind fun t299=>((some (([t299] : List Int) : List Int)).bind fun y300=>(if (strOfNums y300).size + x4.size ≤ 9223372036854775807 then (spec_Decimal.l0 k (wrap64 (Int.tdiv x0 10)) x3 ((strOfNums y300) ++ x4)) else (none)))))
def spec_Decimal.f (k : Nat) (a0 : Int) : Option (ByteArray):=if a0 = 0 then (some (⟨#[48]⟩ : ByteArray)) else (spec_Decimal.l0 k a0 (decide (a0 < 0)) (⟨#[]⟩ : ByteArray))
theorem spec_Decimal.mono_l : ∀ k,(∀ y0 y1 y2,LeO (spec_Decimal.l0 k y0 y1 y2) (spec_Decimal.l0 (k + 1) y0 y1 y2))
 | 0=>fun _ _ _ r h=>by simp [spec_Decimal.l0] at h
 | k + 1=>by
  have ih0:=spec_Decimal.mono_l k
  intro y0 y1 y2
  unfold spec_Decimal.l0
  repeat' first|(with_reducible first|exact ih0 _ _ _|exact LeO.refl _|exact LeO.none _|refine LeO.ite ?_ ?_|refine LeO.bind ?_ (fun _=>?_))|exact ih0 _ _ _|exact LeO.none _|refine LeO.ite ?_ ?_|refine LeO.bind ?_ (fun _=>?_)
theorem spec_Decimal.mono : ∀ a0 k,LeO (spec_Decimal.f k a0) (spec_Decimal.f (k + 1) a0):=by
 intro a0 k
 have ih0:=spec_Decimal.mono_l k
 unfold spec_Decimal.f
 repeat' first|(with_reducible first|exact ih0 _ _ _|exact LeO.refl _|exact LeO.none _|refine LeO.ite ?_ ?_|refine LeO.bind ?_ (fun _=>?_))|exact ih0 _ _ _|exact LeO.none _|refine LeO.ite ?_ ?_|refine LeO.bind ?_ (fun _=>?_)
set_option maxHeartbeats 8000000 in
set_option maxRecDepth 100000 in
theorem spec_Decimal.calls (k : Nat) (a0 : Int) (r : ByteArray) (w : World) (h : spec_Decimal.f k a0 = some r) :
  Calls Try.prog 77 #[.int .i64 a0] w fun e w'=>e = .returned (.string r) ∧ Below w.heap.size w w':=by
 have HB:=qo.mk (Below.refl w.heap.size w)
 have H : (if a0 = 0 then (some (⟨#[48]⟩ : ByteArray)) else (spec_Decimal.l0 k a0 (decide (a0 < 0)) (⟨#[]⟩ : ByteArray))) = some r:=h
 clear h
 by_cases c2 : a0 = 0
 ·rw [if_pos c2] at H
  have c2b0 : (a0 == 0) = true:=beq_iff_eq.mpr c2
  have c2b1 : (a0 != 0) = false:=bne_eq_false_iff_eq.mpr c2
  clear c2
  obtain rfl:=Option.some.inj H
  go_enter Try.func77,Try.ntmps77
  go_wp2
  go_ret
  exact ⟨rt_,hx_⟩
 rw [if_neg c2] at H
 have c2b0 : (a0 == 0) = false:=beq_eq_false_iff_ne.mpr c2
 have c2b1 : (a0 != 0) = true:=bne_iff_ne.mpr c2
 have H':=qo.mk H
 clear H
 go_enter Try.func77,Try.ntmps77
 go_wp2
 go_loopg [0,4] k (fun kq v0 v4 w'=>∃ (x0_1 : Int) (x4_1 : ByteArray),v0 = .int .i64 x0_1 ∧ v4 = .string x4_1 ∧ qo (spec_Decimal.l0 kq x0_1 (decide (a0 < 0)) x4_1 = some r) ∧ qo (kq ≤ k) ∧ qo (Below w.heap.size w w'))
 case atStart=>exact ⟨(a0),((⟨#[]⟩ : ByteArray)),rs_,rs_,H',⟨Nat.le_refl _⟩,⟨hx_⟩⟩
 clear H'
 try clear c2
 try clear c2b0
 try clear c2b1
 try clear p2
 obtain ⟨x0_1,x4_1,rfl,rfl,HA,HK1,HB⟩:=hrel
 obtain _|k1:=gk
 ·exact absurd HA.out (by simp [spec_Decimal.l0])
 have H:=HA.out
 clear HA
 simp only [spec_Decimal.l0] at H
 by_cases c3 : x0_1 = 0
 ·rw [if_pos c3] at H
  have c3b0 : (x0_1 == 0) = true:=beq_iff_eq.mpr c3
  have c3b1 : (x0_1 != 0) = false:=bne_eq_false_iff_eq.mpr c3
  clear c3
  by_cases c4 : (decide (a0 < 0)) = true
  ·rw [if_pos c4] at H
   have c4b0 : (decide (a0 < 0)) = true:=c4
   have c4d:=qo.mk (of_decide_eq_true c4b0)
   clear c4
   by_cases c5 : 1 + x4_1.size ≤ 9223372036854775807
   ·rw [if_pos c5] at H
    have c5b0:=eq_true c5
    have c5b1 : decide (1 + x4_1.size ≤ 9223372036854775807) = true:=decide_eq_true c5
    try have c5b2 : (9223372036854775807 < 1 + x4_1.size) = False:=eq_false (Nat.not_lt.2 c5)
    obtain rfl:=Option.some.inj H
    go_wp2
    all_goals (try (exfalso;have z_:=c4d.out;omega))
    go_ret
    exact ⟨rt_,hx_⟩
   rw [if_neg c5] at H
   exact absurd H (by simp)
  rw [if_neg c4] at H
  have c4b0 : (decide (a0 < 0)) = false:=by simpa using c4
  have c4d:=qo.mk (of_decide_eq_false c4b0)
  clear c4
  obtain rfl:=Option.some.inj H
  go_wp2
  all_goals (try (exfalso;have z_:=c4d.out;omega))
  go_ret
  exact ⟨rt_,hx_⟩
 rw [if_neg c3] at H
 have c3b0 : (x0_1 == 0) = false:=beq_eq_false_iff_ne.mpr c3
 have c3b1 : (x0_1 != 0) = true:=bne_iff_ne.mpr c3
 by_cases c6 : (Int.tmod x0_1 10) < 0
 ·rw [if_pos c6] at H
  have c6b0 : decide ((Int.tmod x0_1 10) < 0) = true:=decide_eq_true c6
  clear c6
  replace H:=Option.bind_eq_some_iff.mp H
  obtain ⟨t295,A70,H⟩:=H
  replace H : ((some (([t295] : List Int) : List Int)).bind fun y296=>(if (strOfNums y296).size + x4_1.size ≤ 9223372036854775807 then (spec_Decimal.l0 k1 (wrap64 (Int.tdiv x0_1 10)) (decide (a0 < 0)) ((strOfNums y296) ++ x4_1)) else (none))) = some r:=H
  have A7:=qo.mk A70
  clear A70
  obtain ⟨y296,hy296⟩ : ∃ y_ : List Int,y_ = (([t295] : List Int)):=⟨_,rfl⟩
  replace H : (if (strOfNums y296).size + x4_1.size ≤ 9223372036854775807 then (spec_Decimal.l0 k1 (wrap64 (Int.tdiv x0_1 10)) (decide (a0 < 0)) ((strOfNums y296) ++ x4_1)) else (none)) = some r:=by first|(rw [hy296];with_reducible exact H)|(have H2_:=(Option.bind_some _ _).symm.trans H;rw [hy296];with_reducible exact H2_)|(have H2_:=(Option.bind_some _ _).symm.trans H;with_reducible exact H2_)|with_reducible exact H|(rw [hy296];exact H)|exact H
  have Ny296:=qo.mk hy296
  clear hy296
  by_cases c8 : (strOfNums y296).size + x4_1.size ≤ 9223372036854775807
  ·rw [if_pos c8] at H
   have c8b0:=eq_true c8
   have c8b1 : decide ((strOfNums y296).size + x4_1.size ≤ 9223372036854775807) = true:=decide_eq_true c8
   try have c8b2 : (9223372036854775807 < (strOfNums y296).size + x4_1.size) = False:=eq_false (Nat.not_lt.2 c8)
   have H':=qo.mk H
   clear H
   go_wp2_with (first|((with_reducible refine gate_callee (f:=95) rfl ?_);refine goesL_ (some 19) rfl rfl Try.func95 (by kernel_rfl) rfl #[.int .i64 (wrap64 (-(Int.tmod x0_1 10)))] rfl sm_ ?_;(with_reducible refine (spec_l01Figure.calls (wrap64 (-(Int.tmod x0_1 10))) t295 _ A7.out).mono ?_);rintro e w' ⟨rfl,⟨nd,rfl⟩⟩;refine ⟨_,rfl,?_⟩)|((with_reducible refine gate_dst (N:=20) rfl ?_);refine Kd.R_lit (Kd.int .u8) _ 5 ?hg (N:=20) ?hd (xs:=([t295] : List Int)) (inner:=[.int .u8 t295]) (ok:=fun _=>True) (okp:=fun _=>True) ?hr ?hp (fun _ hk=>hk) trivial (Below.refl _ _) (Nat.le_refl _) (by simp) ?_;(case hd=>rfl);(case hg=>rfl);(case hr=>first|(go_simp;done)|(go_simp;rfl));(case hp=>exact (Reps.one (show Kd.M (Kd.int .u8) _ _ _ t295 [.int .u8 t295] from rfl) (Reps.none _ _)));intro v297 w9 ho10 hb hg_ hnew_;clear hg_ hnew_;(first|rw [← Ny296.out] at ho10|(simp only [Int.reduceToNat] at ho10;rw [← Ny296.out] at ho10));have HO298:=qo.mk (Kd.R_lower ho10 (qk hx_));replace HB:=hs_ HB hb;clear hb ho10;have hcv11:=own_string (P:=Try.prog) Try.underlying46 Try.underlying5 Try.underlying9 (Kd.own_of_R HO298.out)))
   go_roundg k1
   case measure=>have:=HK1.out;omega
   case rel=>exact ⟨(wrap64 (Int.tdiv x0_1 10)),((strOfNums y296) ++ x4_1),rs_,rs_,H',⟨by have:=HK1.out;omega⟩,⟨hx_⟩⟩
  rw [if_neg c8] at H
  exact absurd H (by simp)
 rw [if_neg c6] at H
 have c6b0 : decide ((Int.tmod x0_1 10) < 0) = false:=decide_eq_false c6
 clear c6
 replace H:=Option.bind_eq_some_iff.mp H
 obtain ⟨t299,A120,H⟩:=H
 replace H : ((some (([t299] : List Int) : List Int)).bind fun y300=>(if (strOfNums y300).size + x4_1.size ≤ 9223372036854775807 then (spec_Decimal.l0 k1 (wrap64 (Int.tdiv x0_1 10)) (decide (a0 < 0)) ((strOfNums y300) ++ x4_1)) else (none))) = some r:=H
 have A12:=qo.mk A120
 clear A120
 obtain ⟨y300,hy300⟩ : ∃ y_ : List Int,y_ = (([t299] : List Int)):=⟨_,rfl⟩
 replace H : (if (strOfNums y300).size + x4_1.size ≤ 9223372036854775807 then (spec_Decimal.l0 k1 (wrap64 (Int.tdiv x0_1 10)) (decide (a0 < 0)) ((strOfNums y300) ++ x4_1)) else (none)) = some r:=by first|(rw [hy300];with_reducible exact H)|(have H2_:=(Option.bind_some _ _).symm.trans H;rw [hy300];with_reducible exact H2_)|(have H2_:=(Option.bind_some _ _).symm.trans H;with_reducible exact H2_)|with_reducible exact H|(rw [hy300];exact H)|exact H
 have Ny300:=qo.mk hy300
 clear hy300
 by_cases c13 : (strOfNums y300).size + x4_1.size ≤ 9223372036854775807
 ·rw [if_pos c13] at H
  have c13b0:=eq_true c13
  have c13b1 : decide ((strOfNums y300).size + x4_1.size ≤ 9223372036854775807) = true:=decide_eq_true c13
  try have c13b2 : (9223372036854775807 < (strOfNums y300).size + x4_1.size) = False:=eq_false (Nat.not_lt.2 c13)
  have H':=qo.mk H
  clear H
  go_wp2_with (first|((with_reducible refine gate_callee (f:=95) rfl ?_);refine goesL_ (some 19) rfl rfl Try.func95 (by kernel_rfl) rfl #[.int .i64 (Int.tmod x0_1 10)] rfl sm_ ?_;(with_reducible refine (spec_l01Figure.calls (Int.tmod x0_1 10) t299 _ A12.out).mono ?_);rintro e w' ⟨rfl,⟨nd,rfl⟩⟩;refine ⟨_,rfl,?_⟩)|((with_reducible refine gate_dst (N:=20) rfl ?_);refine Kd.R_lit (Kd.int .u8) _ 5 ?hg (N:=20) ?hd (xs:=([t299] : List Int)) (inner:=[.int .u8 t299]) (ok:=fun _=>True) (okp:=fun _=>True) ?hr ?hp (fun _ hk=>hk) trivial (Below.refl _ _) (Nat.le_refl _) (by simp) ?_;(case hd=>rfl);(case hg=>rfl);(case hr=>first|(go_simp;done)|(go_simp;rfl));(case hp=>exact (Reps.one (show Kd.M (Kd.int .u8) _ _ _ t299 [.int .u8 t299] from rfl) (Reps.none _ _)));intro v301 w14 ho15 hb hg_ hnew_;clear hg_ hnew_;(first|rw [← Ny300.out] at ho15|(simp only [Int.reduceToNat] at ho15;rw [← Ny300.out] at ho15));have HO302:=qo.mk (Kd.R_lower ho15 (qk hx_));replace HB:=hs_ HB hb;clear hb ho15;have hcv16:=own_string (P:=Try.prog) Try.underlying46 Try.underlying5 Try.underlying9 (Kd.own_of_R HO302.out)))
  go_roundg k1
  case measure=>have:=HK1.out;omega
  case rel=>exact ⟨(wrap64 (Int.tdiv x0_1 10)),((strOfNums y300) ++ x4_1),rs_,rs_,H',⟨by have:=HK1.out;omega⟩,⟨hx_⟩⟩
 rw [if_neg c13] at H
 exact absurd H (by simp)

end Go.Proofs.Ytcnoccefdejphaa.QFnTrees
