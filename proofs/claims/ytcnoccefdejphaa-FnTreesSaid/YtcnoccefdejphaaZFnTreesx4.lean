/- Lean functions for the Go functions that the law FnTrees reaches, and that each Go function comes to just its Lean function's answer; by a program of this session. -/
import Derived.Test.YtcnoccefdejphaaZFnTreesx0
import Derived.Test.YtcnoccefdejphaaZFnTreesx2
import Derived.Test.YtcnoccefdejphaaZFnTreesx3
namespace Go.Proofs.Ytcnoccefdejphaa.QFnTrees
open Go.RowKit Go.Proofs.YtcnoccefdejphaaW.PrintWords Go.Proofs.YtcnoccefdejphaaW.PrintLast Go.Proofs.YtcnoccefdejphaaW.PrintMore
attribute [local go_sem] max2_int min2_int max_two min_two max_three min_three max_four min_four   -- for this text's walks alone
set_option linter.unusedVariables false
set_option linter.unusedSimpArgs false

/-! ### impl_hasInt: function 58 -/
def impl_hasInt.l0 : Nat → Int → List Int → Int → Int → Option (Bool)
 | 0,_,_,_,_=>none
 | k + 1,x1,x7,x8,x9=>if x9 < x8 then (if 0 ≤ x9 then (if x9 < (x7.length : Int) then (if (rd x7 x9) = x1 then (some true) else (impl_hasInt.l0 k x1 x7 x8 (wrap64 (x9 + 1)))) else (none)) else (none)) else (some false)
def impl_hasInt.f (k : Nat) (l0 : List Int) (a1 : Int) : Option (Bool):=impl_hasInt.l0 k a1 l0 (l0.length : Int) 0
theorem impl_hasInt.mono_l : ∀ k,(∀ y0 y1 y2 y3,LeO (impl_hasInt.l0 k y0 y1 y2 y3) (impl_hasInt.l0 (k + 1) y0 y1 y2 y3))
 | 0=>fun _ _ _ _ r h=>by simp [impl_hasInt.l0] at h
 | k + 1=>by
  have ih0:=impl_hasInt.mono_l k
  intro y0 y1 y2 y3
  unfold impl_hasInt.l0
  repeat' first|(with_reducible first|exact ih0 _ _ _ _|exact LeO.refl _|exact LeO.none _|refine LeO.ite ?_ ?_|refine LeO.bind ?_ (fun _=>?_))|exact ih0 _ _ _ _|exact LeO.none _|refine LeO.ite ?_ ?_|refine LeO.bind ?_ (fun _=>?_)
theorem impl_hasInt.mono : ∀ a0 a1 k,LeO (impl_hasInt.f k a0 a1) (impl_hasInt.f (k + 1) a0 a1):=by
 intro a0 a1 k
 have ih0:=impl_hasInt.mono_l k
 unfold impl_hasInt.f
 repeat' first|(with_reducible first|exact ih0 _ _ _ _|exact LeO.refl _|exact LeO.none _|refine LeO.ite ?_ ?_|refine LeO.bind ?_ (fun _=>?_))|exact ih0 _ _ _ _|exact LeO.none _|refine LeO.ite ?_ ?_|refine LeO.bind ?_ (fun _=>?_)
set_option maxHeartbeats 8000000 in
set_option maxRecDepth 100000 in
theorem impl_hasInt.calls (k : Nat) (A0 : Option Addr) (c0 : Nat) (l0 : List Int) (a1 : Int) (r : Bool) (w : World) (hr0 : Kd.C (Kd.int .i64) w A0 l0.length l0) (hc0 : l0.length ≤ c0) (h : impl_hasInt.f k l0 a1 = some r) :
  Calls Try.prog 58 #[.slice A0 l0.length c0,.int .i64 a1] w fun e w'=>e = .returned (.bool r) ∧ Drawn0 w w':=by
 have HR0:=qo.mk hr0
 have HC0:=qo.mk hc0
 clear hr0 hc0
 have H : (impl_hasInt.l0 k a1 l0 (l0.length : Int) 0) = some r:=h
 clear h
 have H':=qo.mk H
 clear H
 go_enter Try.func58,Try.ntmps58
 go_wp2
 go_loopg [9] k (fun kq v9 w'=>∃ (x9_1 : Int),v9 = .int .i64 x9_1 ∧ qo (impl_hasInt.l0 kq a1 l0 (l0.length : Int) x9_1 = some r) ∧ qo (kq ≤ k) ∧ Drawn0 w w')
 case atStart=>exact ⟨(0),rs_,H',⟨Nat.le_refl _⟩,by repeat (first|exact Drawn0.refl _|apply Drawn0.step)⟩
 clear H'
 try clear p2
 obtain ⟨x9_1,rfl,HA,HK1,⟨m1,rfl⟩⟩:=hrel
 obtain _|k1:=gk
 ·exact absurd HA.out (by simp [impl_hasInt.l0])
 have H:=HA.out
 clear HA
 simp only [impl_hasInt.l0] at H
 by_cases c3 : x9_1 < (l0.length : Int)
 ·rw [if_pos c3] at H
  have c3b0 : decide (x9_1 < (l0.length : Int)) = true:=decide_eq_true c3
  clear c3
  by_cases c4 : 0 ≤ x9_1
  ·rw [if_pos c4] at H
   have c4b0 : decide (0 ≤ x9_1) = true:=decide_eq_true c4
   clear c4
   by_cases c5 : x9_1 < (l0.length : Int)
   ·rw [if_pos c5] at H
    have c5b0 : decide (x9_1 < (l0.length : Int)) = true:=decide_eq_true c5
    clear c5
    by_cases c6 : (rd l0 x9_1) = a1
    ·rw [if_pos c6] at H
     have c6b0 : ((rd l0 x9_1) == a1) = true:=beq_iff_eq.mpr c6
     have c6b1 : ((rd l0 x9_1) != a1) = false:=bne_eq_false_iff_eq.mpr c6
     clear c6
     obtain rfl:=Option.some.inj H
     have p160 : 0 ≤ (x9_1 : Int):=dt_
     have q160 : x9_1 < (l0.length : Int):=dt_
     obtain ⟨ad160,e160,hx160_0⟩:=Kd.at_int HR0.out x9_1 p160 q160
     cases e160
     replace p160:=eq_true p160
     replace q160:=eq_true q160
     go_wp2
     go_ret
     exact ⟨by first|rfl|(simp;done)|(simp [*];done),by repeat (first|exact Drawn0.refl _|apply Drawn0.step)⟩
    rw [if_neg c6] at H
    have c6b0 : ((rd l0 x9_1) == a1) = false:=beq_eq_false_iff_ne.mpr c6
    have c6b1 : ((rd l0 x9_1) != a1) = true:=bne_iff_ne.mpr c6
    have H':=qo.mk H
    clear H
    have p160 : 0 ≤ (x9_1 : Int):=dt_
    have q160 : x9_1 < (l0.length : Int):=dt_
    obtain ⟨ad160,e160,hx160_0⟩:=Kd.at_int HR0.out x9_1 p160 q160
    cases e160
    replace p160:=eq_true p160
    replace q160:=eq_true q160
    go_wp2
    go_roundg k1
    case measure=>have:=HK1.out;omega
    case rel=>exact ⟨(wrap64 (x9_1 + 1)),rs_,H',⟨by have:=HK1.out;omega⟩,by repeat (first|exact Drawn0.refl _|apply Drawn0.step)⟩
   rw [if_neg c5] at H
   exact absurd H (by simp)
  rw [if_neg c4] at H
  exact absurd H (by simp)
 rw [if_neg c3] at H
 have c3b0 : decide (x9_1 < (l0.length : Int)) = false:=decide_eq_false c3
 clear c3
 obtain rfl:=Option.some.inj H
 go_wp2
 go_ret
 exact ⟨by first|rfl|(simp;done)|(simp [*];done),by repeat (first|exact Drawn0.refl _|apply Drawn0.step)⟩

/-! ### impl_itemOk: function 91 -/
def impl_itemOk.f (a0 : Int) (a1_0 : ByteArray) (a1_1 : ByteArray) (a1_2 : Int) : Option (Bool):=if a1_0.toList = ([] : List UInt8) then (some false) else (if a0 = 1 then (some (a1_2 == 0)) else (if a1_1.toList = ([] : List UInt8) then ((impl_in.f a1_2 0 399).bind fun t162=>(some t162)) else (some false)))
set_option maxHeartbeats 8000000 in
set_option maxRecDepth 100000 in
theorem impl_itemOk.calls (a0 : Int) (a1_0 : ByteArray) (a1_1 : ByteArray) (a1_2 : Int) (r : Bool) (w : World) (h : impl_itemOk.f a0 a1_0 a1_1 a1_2 = some r) :
  Calls Try.prog 91 #[.int .i64 a0,.agg #[.string a1_0,.string a1_1,.int .i64 a1_2]] w fun e w'=>e = .returned (.bool r) ∧ Below w.heap.size w w':=by
 have hu71:=Try.underlying71
 have HB:=qo.mk (Below.refl w.heap.size w)
 have H : (if a1_0.toList = ([] : List UInt8) then (some false) else (if a0 = 1 then (some (a1_2 == 0)) else (if a1_1.toList = ([] : List UInt8) then ((impl_in.f a1_2 0 399).bind fun t162=>(some t162)) else (some false)))) = some r:=h
 clear h
 by_cases c3 : a1_0.toList = ([] : List UInt8)
 ·rw [if_pos c3] at H
  have c3b0 : (a1_0.toList == ([] : List UInt8)) = true:=beq_iff_eq.mpr c3
  have c3b1 : (a1_0.toList != ([] : List UInt8)) = false:=bne_eq_false_iff_eq.mpr c3
  clear c3
  obtain rfl:=Option.some.inj H
  go_enter Try.func91,Try.ntmps91
  go_wp2_with (first|((with_reducible refine gate_dst (N:=3) rfl ?_);refine box_event ?hg (N:=3) ?hd (cs:=#[.string a1_0,.string a1_1,.int .i64 a1_2]) (t:=71) ?hr ?_;(case hd=>rfl);(case hg=>rfl);(case hr=>first|(go_simp;done)|(go_simp;rfl));intro gb161 hg w4 hbox hb;have BK161:=qo.mk (hbox);have GW161:=hl_ (w:=w) hg;have GE161:=hl_ (w:=w) hg;replace HB:=hs_ HB hb;clear hb hbox hg;obtain ⟨hcz5_0,hcz5_1,hcz5_2,hfz5_0,hfz5_1,hfz5_2⟩:=c3f_ BK161.out))
  go_ret
  exact ⟨rt_,hx_⟩
 rw [if_neg c3] at H
 have c3b0 : (a1_0.toList == ([] : List UInt8)) = false:=beq_eq_false_iff_ne.mpr c3
 have c3b1 : (a1_0.toList != ([] : List UInt8)) = true:=bne_iff_ne.mpr c3
 by_cases c6 : a0 = 1
 ·rw [if_pos c6] at H
  have c6b0 : (a0 == 1) = true:=beq_iff_eq.mpr c6
  have c6b1 : (a0 != 1) = false:=bne_eq_false_iff_eq.mpr c6
  clear c6
  obtain rfl:=Option.some.inj H
  go_enter Try.func91,Try.ntmps91
  go_wp2_with (first|((with_reducible refine gate_dst (N:=3) rfl ?_);refine box_event ?hg (N:=3) ?hd (cs:=#[.string a1_0,.string a1_1,.int .i64 a1_2]) (t:=71) ?hr ?_;(case hd=>rfl);(case hg=>rfl);(case hr=>first|(go_simp;done)|(go_simp;rfl));intro gb161 hg w7 hbox hb;have BK161:=qo.mk (hbox);have GW161:=hl_ (w:=w) hg;have GE161:=hl_ (w:=w) hg;replace HB:=hs_ HB hb;clear hb hbox hg;obtain ⟨hcz8_0,hcz8_1,hcz8_2,hfz8_0,hfz8_1,hfz8_2⟩:=c3f_ BK161.out))
  go_ret
  exact ⟨rt_,hx_⟩
 rw [if_neg c6] at H
 have c6b0 : (a0 == 1) = false:=beq_eq_false_iff_ne.mpr c6
 have c6b1 : (a0 != 1) = true:=bne_iff_ne.mpr c6
 by_cases c9 : a1_1.toList = ([] : List UInt8)
 ·rw [if_pos c9] at H
  have c9b0 : (a1_1.toList == ([] : List UInt8)) = true:=beq_iff_eq.mpr c9
  have c9b1 : (a1_1.toList != ([] : List UInt8)) = false:=bne_eq_false_iff_eq.mpr c9
  clear c9
  replace H:=Option.bind_eq_some_iff.mp H
  obtain ⟨t162,A100,H⟩:=H
  replace H : (some t162) = some r:=H
  have A10:=qo.mk A100
  clear A100
  obtain rfl:=Option.some.inj H
  go_enter Try.func91,Try.ntmps91
  go_wp2_with (first|((with_reducible refine gate_dst (N:=3) rfl ?_);refine box_event ?hg (N:=3) ?hd (cs:=#[.string a1_0,.string a1_1,.int .i64 a1_2]) (t:=71) ?hr ?_;(case hd=>rfl);(case hg=>rfl);(case hr=>first|(go_simp;done)|(go_simp;rfl));intro gb161 hg w11 hbox hb;have BK161:=qo.mk (hbox);have GW161:=hl_ (w:=w) hg;have GE161:=hl_ (w:=w) hg;replace HB:=hs_ HB hb;clear hb hbox hg;obtain ⟨hcz12_0,hcz12_1,hcz12_2,hfz12_0,hfz12_1,hfz12_2⟩:=c3f_ BK161.out)|(go_at_call 42;(with_reducible refine (impl_in.calls a1_2 0 399 t162 _ A10.out).mono ?_);rintro e w' ⟨rfl,⟨nd,rfl⟩⟩))
  go_ret
  exact ⟨rt_,hx_⟩
 rw [if_neg c9] at H
 have c9b0 : (a1_1.toList == ([] : List UInt8)) = false:=beq_eq_false_iff_ne.mpr c9
 have c9b1 : (a1_1.toList != ([] : List UInt8)) = true:=bne_iff_ne.mpr c9
 obtain rfl:=Option.some.inj H
 go_enter Try.func91,Try.ntmps91
 go_wp2_with (first|((with_reducible refine gate_dst (N:=3) rfl ?_);refine box_event ?hg (N:=3) ?hd (cs:=#[.string a1_0,.string a1_1,.int .i64 a1_2]) (t:=71) ?hr ?_;(case hd=>rfl);(case hg=>rfl);(case hr=>first|(go_simp;done)|(go_simp;rfl));intro gb161 hg w13 hbox hb;have BK161:=qo.mk (hbox);have GW161:=hl_ (w:=w) hg;have GE161:=hl_ (w:=w) hg;replace HB:=hs_ HB hb;clear hb hbox hg;obtain ⟨hcz14_0,hcz14_1,hcz14_2,hfz14_0,hfz14_1,hfz14_2⟩:=c3f_ BK161.out))
 go_ret
 exact ⟨rt_,hx_⟩

/-! ### impl_Sealed: function 92 -/
def impl_Sealed.f (k : Nat) (a0 : ByteArray) : Option (ByteArray × Bool):=if (a0.size : Int) > 8000 then (some ((⟨#[]⟩ : ByteArray),false)) else ((impl_SumOf.f k a0).bind fun t163=>((some (([(t163 / 16777216) % 256,(t163 / 65536) % 256,(t163 / 256) % 256,(t163) % 256] : List Int) : List Int)).bind fun y164=>(if a0.size + (strOfNums y164).size ≤ 9223372036854775807 then (some (a0 ++ (strOfNums y164),true)) else (none))))
theorem impl_Sealed.mono : ∀ a0 k,LeO (impl_Sealed.f k a0) (impl_Sealed.f (k + 1) a0):=by
 intro a0 k
 unfold impl_Sealed.f
 repeat' first|(with_reducible first|exact impl_SumOf.mono _ _|exact LeO.refl _|exact LeO.none _|refine LeO.ite ?_ ?_|refine LeO.bind ?_ (fun _=>?_))|exact impl_SumOf.mono _ _|exact LeO.none _|refine LeO.ite ?_ ?_|refine LeO.bind ?_ (fun _=>?_)
set_option maxHeartbeats 8000000 in
set_option maxRecDepth 100000 in
theorem impl_Sealed.calls (k : Nat) (a0 : ByteArray) (r1 : ByteArray) (r2 : Bool) (w : World) (h : impl_Sealed.f k a0 = some (r1,r2)) :
  Calls Try.prog 92 #[.string a0] w fun e w'=>e = .returned (.tuple #[.string r1,.bool r2]) ∧ Below w.heap.size w w':=by
 have HB:=qo.mk (Below.refl w.heap.size w)
 have H : (if (a0.size : Int) > 8000 then (some ((⟨#[]⟩ : ByteArray),false)) else ((impl_SumOf.f k a0).bind fun t163=>((some (([(t163 / 16777216) % 256,(t163 / 65536) % 256,(t163 / 256) % 256,(t163) % 256] : List Int) : List Int)).bind fun y164=>(if a0.size + (strOfNums y164).size ≤ 9223372036854775807 then (some (a0 ++ (strOfNums y164),true)) else (none))))) = some (r1,r2):=h
 clear h
 by_cases c2 : (a0.size : Int) > 8000
 ·rw [if_pos c2] at H
  have c2b0 : decide (8000 < (a0.size : Int)) = true:=decide_eq_true c2
  have c2b1 : decide (8000 < a0.size) = true:=decide_eq_true (by omega)
  clear c2
  simp only [Option.some.injEq,Prod.mk.injEq] at H
  obtain ⟨rfl,rfl⟩:=H
  go_enter Try.func92,Try.ntmps92
  go_wp2
  go_ret2
  exact ⟨rt_,hx_⟩
 rw [if_neg c2] at H
 have c2b0 : decide (8000 < (a0.size : Int)) = false:=decide_eq_false c2
 have c2b1 : decide (8000 < a0.size) = false:=decide_eq_false (by omega)
 clear c2
 replace H:=Option.bind_eq_some_iff.mp H
 obtain ⟨t163,A30,H⟩:=H
 replace H : ((some (([(t163 / 16777216) % 256,(t163 / 65536) % 256,(t163 / 256) % 256,(t163) % 256] : List Int) : List Int)).bind fun y164=>(if a0.size + (strOfNums y164).size ≤ 9223372036854775807 then (some (a0 ++ (strOfNums y164),true)) else (none))) = some (r1,r2):=H
 have A3:=qo.mk A30
 clear A30
 obtain ⟨y164,hy164⟩ : ∃ y_ : List Int,y_ = (([(t163 / 16777216) % 256,(t163 / 65536) % 256,(t163 / 256) % 256,(t163) % 256] : List Int)):=⟨_,rfl⟩
 replace H : (if a0.size + (strOfNums y164).size ≤ 9223372036854775807 then (some (a0 ++ (strOfNums y164),true)) else (none)) = some (r1,r2):=by first|(rw [hy164];with_reducible exact H)|(have H2_:=(Option.bind_some _ _).symm.trans H;rw [hy164];with_reducible exact H2_)|(have H2_:=(Option.bind_some _ _).symm.trans H;with_reducible exact H2_)|with_reducible exact H|(rw [hy164];exact H)|exact H
 have Ny164:=qo.mk hy164
 clear hy164
 by_cases c4 : a0.size + (strOfNums y164).size ≤ 9223372036854775807
 ·rw [if_pos c4] at H
  have c4b0:=eq_true c4
  have c4b1 : decide (a0.size + (strOfNums y164).size ≤ 9223372036854775807) = true:=decide_eq_true c4
  try have c4b2 : (9223372036854775807 < a0.size + (strOfNums y164).size) = False:=eq_false (Nat.not_lt.2 c4)
  simp only [Option.some.injEq,Prod.mk.injEq] at H
  obtain ⟨rfl,rfl⟩:=H
  go_enter Try.func92,Try.ntmps92
  go_wp2_with (first|((with_reducible refine gate_callee (f:=90) rfl ?_);refine goesL_ (some 9) rfl rfl Try.func90 (by kernel_rfl) rfl #[.string a0] rfl sm_ ?_;(with_reducible refine (impl_SumOf.calls k a0 t163 _ A3.out).mono ?_);rintro e w' ⟨rfl,⟨nd,rfl⟩⟩;refine ⟨_,rfl,?_⟩)|((with_reducible refine gate_dst (N:=22) rfl ?_);refine Kd.R_lit (Kd.int .u8) _ 5 ?hg (N:=22) ?hd (xs:=([(t163 / 16777216) % 256,(t163 / 65536) % 256,(t163 / 256) % 256,(t163) % 256] : List Int)) (inner:=[.int .u8 ((t163 / 16777216) % 256),.int .u8 ((t163 / 65536) % 256),.int .u8 ((t163 / 256) % 256),.int .u8 ((t163) % 256)]) (ok:=fun _=>True) (okp:=fun _=>True) ?hr ?hp (fun _ hk=>hk) trivial (Below.refl _ _) (Nat.le_refl _) (by simp) ?_;(case hd=>rfl);(case hg=>rfl);(case hr=>first|(go_simp;done)|(go_simp;rfl));(case hp=>exact (Reps.one (show Kd.M (Kd.int .u8) _ _ _ ((t163 / 16777216) % 256) [.int .u8 ((t163 / 16777216) % 256)] from rfl) (Reps.one (show Kd.M (Kd.int .u8) _ _ _ ((t163 / 65536) % 256) [.int .u8 ((t163 / 65536) % 256)] from rfl) (Reps.one (show Kd.M (Kd.int .u8) _ _ _ ((t163 / 256) % 256) [.int .u8 ((t163 / 256) % 256)] from rfl) (Reps.one (show Kd.M (Kd.int .u8) _ _ _ ((t163) % 256) [.int .u8 ((t163) % 256)] from rfl) (Reps.none _ _))))));intro v165 w5 ho6 hb hg_ hnew_;clear hg_ hnew_;(first|rw [← Ny164.out] at ho6|(simp only [Int.reduceToNat] at ho6;rw [← Ny164.out] at ho6));have HO166:=qo.mk (Kd.R_lower ho6 (qk hx_));replace HB:=hs_ HB hb;clear hb ho6;have hcv7:=own_string (P:=Try.prog) Try.underlying46 Try.underlying5 Try.underlying9 (Kd.own_of_R HO166.out)))
  go_ret2
  exact ⟨rt_,hx_⟩
 rw [if_neg c4] at H
 exact absurd H (by simp)

end Go.Proofs.Ytcnoccefdejphaa.QFnTrees
