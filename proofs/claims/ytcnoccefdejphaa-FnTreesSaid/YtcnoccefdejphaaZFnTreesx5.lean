/- Lean functions for the Go functions that the law FnTrees reaches, and that each Go function comes to just its Lean function's answer; by a program of this session. -/
import Derived.Test.YtcnoccefdejphaaZFnTreesx0
import Derived.Test.YtcnoccefdejphaaZFnTreesx3
import Derived.Test.YtcnoccefdejphaaZFnTreesx4
namespace Go.Proofs.Ytcnoccefdejphaa.QFnTrees
open Go.RowKit Go.Proofs.YtcnoccefdejphaaW.PrintWords Go.Proofs.YtcnoccefdejphaaW.PrintLast Go.Proofs.YtcnoccefdejphaaW.PrintMore
attribute [local go_sem] max2_int min2_int max_two min_two max_three min_three max_four min_four   -- for this text's walks alone
set_option linter.unusedVariables false
set_option linter.unusedSimpArgs false

/-! ### impl_PageText: function 71 -/
mutual
def impl_PageText.j0 : Nat → Bool → Int → List (S71) → Option (ByteArray × Bool)
 | 0,_,_,_=>none
 | k + 1,x29,x168000,x168001=>if x29 = true then (some ((⟨#[]⟩ : ByteArray),false)) else ((impl_VarText.f k (x168001.length : Int)).bind fun bt168=>((some (([(x168000) % 256] : List Int) : List Int)).bind fun y170=>(if (strOfNums y170).size + bt168.1.size ≤ 9223372036854775807 then (impl_PageText.l0 k ((strOfNums y170) ++ bt168.1) 0 x168001 (x168001.length : Int) 0 x168000 x168001) else (none))))
def impl_PageText.l0 : Nat → ByteArray → Int → List (S71) → Int → Int → Int → List (S71) → Option (ByteArray × Bool)
 | 0,_,_,_,_,_,_,_=>none
 | k + 1,x6,x7,x45,x46,x47,x168000,x168001=>if x47 < x46 then (if 0 ≤ x47 then (if x47 < (x45.length : Int) then ((impl_itemOk.f x168000 ((rd_T71 x45 x47).f0) ((rd_T71 x45 x47).f1) ((rd_T71 x45 x47).f2)).bind fun t177=>(if t177 = true then (if x47 > 0 then (if 0 ≤ (wrap64 (x47 - 1)) then (if (wrap64 (x47 - 1)) < (x168001.length : Int) then (if ((Op.bytesLess (((rd_T71 x168001 (wrap64 (x47 - 1))).f0).toList) (((rd_T71 x45 x47).f0).toList)) = true) then (if (((rd_T71 x45 x47).f0).size : Int) > 54 then (impl_PageText.j2 k x6 x7 x45 x46 x47 true x168000 x168001 ((rd_T71 x45 x47).f0) ((rd_T71 x45 x47).f1) ((rd_T71 x45 x47).f2)) else (impl_PageText.j2 k x6 x7 x45 x46 x47 (decide ((((rd_T71 x45 x47).f1).size : Int) > 54)) x168000 x168001 ((rd_T71 x45 x47).f0) ((rd_T71 x45 x47).f1) ((rd_T71 x45 x47).f2))) else (impl_PageText.j2 k x6 x7 x45 x46 x47 true x168000 x168001 ((rd_T71 x45 x47).f0) ((rd_T71 x45 x47).f1) ((rd_T71 x45 x47).f2))) else (none)) else (none)) else (if (((rd_T71 x45 x47).f0).size : Int) > 54 then (impl_PageText.j2 k x6 x7 x45 x46 x47 true x168000 x168001 ((rd_T71 x45 x47).f0) ((rd_T71 x45 x47).f1) ((rd_T71 x45 x47).f2)) else (impl_PageText.j2 k x6 x7 x45 x46 x47 (decide ((((rd_T71 x45 x47).f1).size : Int) > 54)) x168000 x168001 ((rd_T71 x45 x47).f0) ((rd_T71 x45 x47).f1) ((rd_T71 x45 x47).f2)))) else (impl_PageText.j2 k x6 x7 x45 x46 x47 true x168000 x168001 ((rd_T71 x45 x47).f0) ((rd_T71 x45 x47).f1) ((rd_T71 x45 x47).f2)))) else (none)) else (none)) else (if x7 > 54 then (some ((⟨#[]⟩ : ByteArray),false)) else ((impl_Sealed.f k x6).bind fun bt173=>(some (bt173.1,bt173.2))))
def impl_PageText.j2 : Nat → ByteArray → Int → List (S71) → Int → Int → Bool → Int → List (S71) → ByteArray → ByteArray → Int → Option (ByteArray × Bool)
 | 0,_,_,_,_,_,_,_,_,_,_,_=>none
 | k + 1,x6,x7,x45,x46,x47,x84,x168000,x168001,x177000,x177001,x177002=>if x84 = true then (some ((⟨#[]⟩ : ByteArray),false)) else ((impl_ItemSize.f k x168000 x177000 x177001 x177002).bind fun t179=>((impl_ShortText.f k x177000).bind fun bt180=>((impl_ShortText.f k x177001).bind fun bt182=>(if x168000 = 2 then ((impl_VarText.f k x177002).bind fun bt184=>(if bt180.1.size + bt184.1.size ≤ 9223372036854775807 then (if x6.size + (bt180.1 ++ bt184.1).size ≤ 9223372036854775807 then (impl_PageText.l0 k (x6 ++ (bt180.1 ++ bt184.1)) (wrap64 (x7 + t179)) x45 x46 (wrap64 (x47 + 1)) x168000 x168001) else (none)) else (none))) else (if bt180.1.size + bt182.1.size ≤ 9223372036854775807 then (if x6.size + (bt180.1 ++ bt182.1).size ≤ 9223372036854775807 then (impl_PageText.l0 k (x6 ++ (bt180.1 ++ bt182.1)) (wrap64 (x7 + t179)) x45 x46 (wrap64 (x47 + 1)) x168000 x168001) else (none)) else (none))))))
end
def impl_PageText.f (k : Nat) (a0_0 : Int) (l0_1 : List (S71)) : Option (ByteArray × Bool):=if a0_0 = 1 then (impl_PageText.j0 k ((l0_1.length : Int) == 0) a0_0 l0_1) else (if a0_0 = 2 then (impl_PageText.j0 k ((l0_1.length : Int) == 0) a0_0 l0_1) else (impl_PageText.j0 k true a0_0 l0_1))
theorem impl_PageText.mono_l : ∀ k,(∀ y0 y1 y2,LeO (impl_PageText.j0 k y0 y1 y2) (impl_PageText.j0 (k + 1) y0 y1 y2)) ∧ (∀ y0 y1 y2 y3 y4 y5 y6,LeO (impl_PageText.l0 k y0 y1 y2 y3 y4 y5 y6) (impl_PageText.l0 (k + 1) y0 y1 y2 y3 y4 y5 y6)) ∧ (∀ y0 y1 y2 y3 y4 y5 y6 y7 y8 y9 y10,LeO (impl_PageText.j2 k y0 y1 y2 y3 y4 y5 y6 y7 y8 y9 y10) (impl_PageText.j2 (k + 1) y0 y1 y2 y3 y4 y5 y6 y7 y8 y9 y10))
 | 0=>⟨fun _ _ _ r h=>by simp [impl_PageText.j0] at h,fun _ _ _ _ _ _ _ r h=>by simp [impl_PageText.l0] at h,fun _ _ _ _ _ _ _ _ _ _ _ r h=>by simp [impl_PageText.j2] at h⟩
 | k + 1=>by
  obtain ⟨ih0,ih1,ih2⟩:=impl_PageText.mono_l k
  refine ⟨?_,?_,?_⟩ <;> intros <;> first|unfold impl_PageText.j0|unfold impl_PageText.l0|unfold impl_PageText.j2
  all_goals repeat' first|(with_reducible first|exact ih0 _ _ _|exact ih1 _ _ _ _ _ _ _|exact ih2 _ _ _ _ _ _ _ _ _ _ _|exact impl_ItemSize.mono _ _ _ _ _|exact impl_Sealed.mono _ _|exact impl_ShortText.mono _ _|exact impl_VarText.mono _ _|exact LeO.refl _|exact LeO.none _|refine LeO.ite ?_ ?_|refine LeO.bind ?_ (fun _=>?_))|exact ih0 _ _ _|exact ih1 _ _ _ _ _ _ _|exact ih2 _ _ _ _ _ _ _ _ _ _ _|exact impl_ItemSize.mono _ _ _ _ _|exact impl_Sealed.mono _ _|exact impl_ShortText.mono _ _|exact impl_VarText.mono _ _|exact LeO.none _|refine LeO.ite ?_ ?_|refine LeO.bind ?_ (fun _=>?_)
theorem impl_PageText.mono : ∀ a0 a1 k,LeO (impl_PageText.f k a0 a1) (impl_PageText.f (k + 1) a0 a1):=by
 intro a0 a1 k
 obtain ⟨ih0,ih1,ih2⟩:=impl_PageText.mono_l k
 unfold impl_PageText.f
 repeat' first|(with_reducible first|exact ih0 _ _ _|exact ih1 _ _ _ _ _ _ _|exact ih2 _ _ _ _ _ _ _ _ _ _ _|exact impl_ItemSize.mono _ _ _ _ _|exact impl_Sealed.mono _ _|exact impl_ShortText.mono _ _|exact impl_VarText.mono _ _|exact LeO.refl _|exact LeO.none _|refine LeO.ite ?_ ?_|refine LeO.bind ?_ (fun _=>?_))|exact ih0 _ _ _|exact ih1 _ _ _ _ _ _ _|exact ih2 _ _ _ _ _ _ _ _ _ _ _|exact impl_ItemSize.mono _ _ _ _ _|exact impl_Sealed.mono _ _|exact impl_ShortText.mono _ _|exact impl_VarText.mono _ _|exact LeO.none _|refine LeO.ite ?_ ?_|refine LeO.bind ?_ (fun _=>?_)
def impl_PageText.T9 : Bool × List (List Nat × List Nat):=(true,[([],[]),([0],[0]),([],[]),([1,2],[1,2]),([3],[3]),([4,3],[4]),([5],[5]),([6,5],[5,6]),([7,5,5],[5,7]),([8],[8]),([9,8],[8,9]),([8],[8]),([11,8],[8,11]),([10,12,8],[8,10,12]),([13,8],[8,13]),([14,8],[8,14]),([8],[8]),([16,8],[8,16]),([15,17,8],[8,15,17]),([8,18,5],[5,8,18]),([5,19],[5,19]),([20,8],[20]),([21],[21]),([22,21],[21,22]),([23,21],[21,23]),([24,21],[21,24]),([21,25],[21,25]),([26,21],[26]),([27],[27]),([28,27],[27,28]),([29,27],[27,29]),([30,27],[27,30]),([27,31],[27,31])])
def impl_PageText.B9 : List Nat:=[0,1,0,7,15,31,63,127,255,511,1023,511,2559,8191,16383,32767,511,66047,262143,524287,1048575,2097151,4194303,8388607,16777215,33554431,67108863,134217727,268435455,536870911,1073741823,2147483647,4294967295]
theorem impl_PageText.tab9 : rtab .any (opsOf Try.f71 9) = impl_PageText.T9:=by kernel_rfl
theorem impl_PageText.bits9 : waitsOk impl_PageText.T9.2 impl_PageText.B9 = true:=by kernel_rfl
set_option maxHeartbeats 8000000 in
set_option maxRecDepth 100000 in
theorem impl_PageText.calls (k : Nat) (a0_0 : Int) (A0_1 : Option Addr) (c0_1 : Nat) (l0_1 : List (S71)) (r1 : ByteArray) (r2 : Bool) (w : World) (hr0_1 : Kd.C k71 w A0_1 l0_1.length l0_1) (hc0_1 : l0_1.length ≤ c0_1) (h : impl_PageText.f k a0_0 l0_1 = some (r1,r2)) :
  Calls Try.prog 71 #[.agg #[.int .i64 a0_0,.slice A0_1 l0_1.length c0_1]] w fun e w'=>e = .returned (.tuple #[.string r1,.bool r2]) ∧ Below w.heap.size w w':=by
 have hu76:=Try.underlying76
 have hu71:=Try.underlying71
 have HR0_1:=qo.mk hr0_1
 have HC0_1:=qo.mk hc0_1
 clear hr0_1 hc0_1
 have HB:=qo.mk (Below.refl w.heap.size w)
 have H : (if a0_0 = 1 then (impl_PageText.j0 k ((l0_1.length : Int) == 0) a0_0 l0_1) else (if a0_0 = 2 then (impl_PageText.j0 k ((l0_1.length : Int) == 0) a0_0 l0_1) else (impl_PageText.j0 k true a0_0 l0_1))) = some (r1,r2):=h
 clear h
 have HC2:=qo.mk H
 clear H
 go_enter Try.func71,Try.ntmps71
 go_upto_region 1 with (first|((with_reducible refine gate_dst (N:=1) rfl ?_);(try (refine gate_guard (by rfl) ?_;dsimp only));refine box_event ?hg (N:=1) ?hd (cs:=#[.int .i64 a0_0,.slice A0_1 l0_1.length c0_1]) (t:=76) ?hr ?_;(case hd=>rfl);(case hg=>rfl);(case hr=>first|(go_simp;done)|(go_simp;rfl));intro gb167 hg w3 hbox hb;have BK167:=qo.mk (hbox);have GW167:=hl_ (w:=w) hg;have GE167:=hl_ (w:=w) hg;replace HB:=hs_ HB hb;clear hb hbox hg))
 (try simp only [Act.put,List.setIfInBounds_toArray,List.set_cons_zero,List.set_cons_succ])
 go_cut [29] (fun v29 wc=>∃ (kq : Nat) (x29_1 : Bool),v29 = .bool x29_1 ∧ qo (impl_PageText.j0 kq x29_1 a0_0 l0_1 = some (r1,r2)) ∧ qo (kq ≤ k) ∧ qo (wc.heap[gb167]? = some (.cells #[.int .i64 a0_0,(.slice A0_1 l0_1.length c0_1)] 76 (0,0))) ∧ qo (Below w.heap.size w wc))
 case first =>
  have H:=HC2.out
  clear HC2
  by_cases c4 : a0_0 = 1
  ·rw [if_pos c4] at H
   have c4b0 : (a0_0 == 1) = true:=beq_iff_eq.mpr c4
   have c4b1 : (a0_0 != 1) = false:=bne_eq_false_iff_eq.mpr c4
   clear c4
   (first|rw [c4b0]|(simp only [i64_w,i32_w];rw [c4b0])|skip)
   have H':=qo.mk H
   clear H
   obtain ⟨hcz5_0,hcz5_1,hfz5_0,hfz5_1⟩:=c2f_ BK167.out
   go_wp2
   go_meet
   case rel=>exact ⟨_,(((l0_1.length : Int) == 0)),rs_,H',⟨by first|omega|exact Nat.le_refl _⟩,(bx_ BK167),⟨hx_⟩⟩
  rw [if_neg c4] at H
  have c4b0 : (a0_0 == 1) = false:=beq_eq_false_iff_ne.mpr c4
  have c4b1 : (a0_0 != 1) = true:=bne_iff_ne.mpr c4
  (first|rw [c4b0]|(simp only [i64_w,i32_w];rw [c4b0])|skip)
  by_cases c6 : a0_0 = 2
  ·rw [if_pos c6] at H
   have c6b0 : (a0_0 == 2) = true:=beq_iff_eq.mpr c6
   have c6b1 : (a0_0 != 2) = false:=bne_eq_false_iff_eq.mpr c6
   clear c6
   have H':=qo.mk H
   clear H
   obtain ⟨hcz7_0,hcz7_1,hfz7_0,hfz7_1⟩:=c2f_ BK167.out
   go_wp2
   go_meet
   case rel=>exact ⟨_,(((l0_1.length : Int) == 0)),rs_,H',⟨by first|omega|exact Nat.le_refl _⟩,(bx_ BK167),⟨hx_⟩⟩
  rw [if_neg c6] at H
  have c6b0 : (a0_0 == 2) = false:=beq_eq_false_iff_ne.mpr c6
  have c6b1 : (a0_0 != 2) = true:=bne_iff_ne.mpr c6
  have H':=qo.mk H
  clear H
  obtain ⟨hcz8_0,hcz8_1,hfz8_0,hfz8_1⟩:=c2f_ BK167.out
  go_wp2
  go_meet
  case rel=>exact ⟨_,(true),rs_,H',⟨by first|omega|exact Nat.le_refl _⟩,(bx_ BK167),⟨hx_⟩⟩
 clear HC2
 try clear p2
 try clear c4
 try clear c4b0
 try clear c4b1
 try clear c6
 try clear c6b0
 try clear c6b1
 try clear c7
 try clear hcz5_0
 try clear hcz5_1
 try clear hcz7_0
 try clear hcz7_1
 try clear hcz8_0
 try clear hcz8_1
 try clear hfz5_0
 try clear hfz5_1
 try clear hfz7_0
 try clear hfz7_1
 try clear hfz8_0
 try clear hfz8_1
 obtain ⟨kq,x29_1,rfl,HA,HJ1,BK167,HB⟩:=hcut
 obtain _|kj1:=kq
 ·exact absurd HA.out (by simp [impl_PageText.j0])
 have H:=HA.out
 clear HA
 simp only [impl_PageText.j0] at H
 by_cases c9 : x29_1 = true
 ·subst c9
  have H1 : (some ((⟨#[]⟩ : ByteArray),false)) = some (r1,r2):=by rw [if_pos rfl] at H;exact H
  clear H
  have H:=H1
  clear H1
  simp only [Option.some.injEq,Prod.mk.injEq] at H
  obtain ⟨rfl,rfl⟩:=H
  go_wp2
  go_ret2
  exact ⟨rt_,hx_⟩
 replace c9:=Bool.eq_false_iff.mpr c9
 subst c9
 have H1 : ((impl_VarText.f kj1 (l0_1.length : Int)).bind fun bt168=>((some (([(a0_0) % 256] : List Int) : List Int)).bind fun y170=>(if (strOfNums y170).size + bt168.1.size ≤ 9223372036854775807 then (impl_PageText.l0 kj1 ((strOfNums y170) ++ bt168.1) 0 l0_1 (l0_1.length : Int) 0 a0_0 l0_1) else (none)))) = some (r1,r2):=by rw [if_neg (show ¬ (false = true) by decide)] at H;exact H
 clear H
 have H:=H1
 clear H1
 replace H:=Option.bind_eq_some_iff.mp H
 obtain ⟨⟨t168,t169⟩,A100,H⟩:=H
 replace H : ((some (([(a0_0) % 256] : List Int) : List Int)).bind fun y170=>(if (strOfNums y170).size + t168.size ≤ 9223372036854775807 then (impl_PageText.l0 kj1 ((strOfNums y170) ++ t168) 0 l0_1 (l0_1.length : Int) 0 a0_0 l0_1) else (none))) = some (r1,r2):=H
 have A10:=qo.mk A100
 clear A100
 obtain ⟨y170,hy170⟩ : ∃ y_ : List Int,y_ = (([(a0_0) % 256] : List Int)):=⟨_,rfl⟩
 replace H : (if (strOfNums y170).size + t168.size ≤ 9223372036854775807 then (impl_PageText.l0 kj1 ((strOfNums y170) ++ t168) 0 l0_1 (l0_1.length : Int) 0 a0_0 l0_1) else (none)) = some (r1,r2):=by first|(rw [hy170];with_reducible exact H)|(have H2_:=(Option.bind_some _ _).symm.trans H;rw [hy170];with_reducible exact H2_)|(have H2_:=(Option.bind_some _ _).symm.trans H;with_reducible exact H2_)|with_reducible exact H|(rw [hy170];exact H)|exact H
 have Ny170:=qo.mk hy170
 clear hy170
 by_cases c11 : (strOfNums y170).size + t168.size ≤ 9223372036854775807
 ·rw [if_pos c11] at H
  have c11b0:=eq_true c11
  have c11b1 : decide ((strOfNums y170).size + t168.size ≤ 9223372036854775807) = true:=decide_eq_true c11
  try have c11b2 : (9223372036854775807 < (strOfNums y170).size + t168.size) = False:=eq_false (Nat.not_lt.2 c11)
  have H':=qo.mk H
  clear H
  obtain ⟨hcz12_0,hcz12_1,hfz12_0,hfz12_1⟩:=c2f_ BK167.out
  go_wp2_with (first|((with_reducible refine gate_callee (f:=89) rfl ?_);refine goesL_ (some 34) rfl rfl Try.func89 (by kernel_rfl) rfl #[.int .i64 (l0_1.length : Int)] rfl sm_ ?_;(with_reducible refine (impl_VarText.calls kj1 (l0_1.length : Int) t168 t169 _ A10.out).mono ?_);rintro e w13 ⟨rfl,hb⟩;refine ⟨_,rfl,?_⟩;replace BK167:=bb_ BK167 hb;replace HB:=hs_ HB hb;(try clear hb);(try clear hb2);(try clear hk);(try clear hi);obtain ⟨hcz14_0,hcz14_1,hfz14_0,hfz14_1⟩:=c2f_ BK167.out)|((with_reducible refine gate_dst (N:=40) rfl ?_);(try (refine gate_guard (by rfl) ?_;dsimp only));refine Kd.R_lit (Kd.int .u8) _ 5 ?hg (N:=40) ?hd (xs:=([(a0_0) % 256] : List Int)) (inner:=[.int .u8 ((a0_0) % 256)]) (ok:=fun _=>True) (okp:=fun _=>True) ?hr ?hp (fun _ hk=>hk) trivial (Below.refl _ _) (Nat.le_refl _) (by simp) ?_;(case hd=>rfl);(case hg=>rfl);(case hr=>first|(go_simp;done)|(go_simp;rfl));(case hp=>exact (Reps.one (show Kd.M (Kd.int .u8) _ _ _ ((a0_0) % 256) [.int .u8 ((a0_0) % 256)] from rfl) (Reps.none _ _)));intro v171 w15 ho16 hb hg_ hnew_;clear hg_ hnew_;(first|rw [← Ny170.out] at ho16|(simp only [Int.reduceToNat] at ho16;rw [← Ny170.out] at ho16));have HO172:=qo.mk (Kd.R_lower ho16 (qk hx_));replace BK167:=bb_ BK167 hb;replace HB:=hs_ HB hb;clear hb ho16;have hcv17:=own_string (P:=Try.prog) Try.underlying46 Try.underlying5 Try.underlying9 (Kd.own_of_R HO172.out);obtain ⟨hcz18_0,hcz18_1,hfz18_0,hfz18_1⟩:=c2f_ BK167.out))
  go_loopg [6,7,47] kj1 (fun kq v6 v7 v47 w'=>∃ (x6_2 : ByteArray) (x7_2 : Int) (x47_2 : Int),v6 = .string x6_2 ∧ v7 = .int .i64 x7_2 ∧ v47 = .int .i64 x47_2 ∧ qo (impl_PageText.l0 kq x6_2 x7_2 l0_1 (l0_1.length : Int) x47_2 a0_0 l0_1 = some (r1,r2)) ∧ qo (kq ≤ kj1) ∧ qo (w'.heap[gb167]? = some (.cells #[.int .i64 a0_0,(.slice A0_1 l0_1.length c0_1)] 76 (0,0))) ∧ qo (Below w.heap.size w w'))
  case atStart=>exact ⟨((strOfNums y170) ++ t168),(0),(0),rs_,rs_,rs_,H',⟨Nat.le_refl _⟩,(bx_ BK167),⟨hx_⟩⟩
  clear H'
  try clear c1
  try clear hcv1
  try clear p2
  try clear c4
  try clear c4b0
  try clear c4b1
  try clear c6
  try clear c6b0
  try clear c6b1
  try clear c7
  try clear c8
  try clear c9
  try clear c11
  try clear c11b0
  try clear c11b1
  try clear c11b2
  try clear hcv17
  try clear hcz12_0
  try clear hcz12_1
  try clear hcz14_0
  try clear hcz14_1
  try clear hcz18_0
  try clear hcz18_1
  try clear hcz5_0
  try clear hcz5_1
  try clear hcz7_0
  try clear hcz7_1
  try clear hcz8_0
  try clear hcz8_1
  try clear hfz12_0
  try clear hfz12_1
  try clear hfz14_0
  try clear hfz14_1
  try clear hfz18_0
  try clear hfz18_1
  try clear hfz5_0
  try clear hfz5_1
  try clear hfz7_0
  try clear hfz7_1
  try clear hfz8_0
  try clear hfz8_1
  try clear p2
  obtain ⟨x6_2,x7_2,x47_2,rfl,rfl,rfl,HA,HK2,BK167,HB⟩:=hrel
  obtain _|k2:=gk
  ·exact absurd HA.out (by simp [impl_PageText.l0])
  have H:=HA.out
  clear HA
  simp only [impl_PageText.l0] at H
  by_cases c19 : x47_2 < (l0_1.length : Int)
  ·rw [if_pos c19] at H
   have c19b0 : decide (x47_2 < (l0_1.length : Int)) = true:=decide_eq_true c19
   clear c19
   by_cases c20 : 0 ≤ x47_2
   ·rw [if_pos c20] at H
    have c20b0 : decide (0 ≤ x47_2) = true:=decide_eq_true c20
    clear c20
    by_cases c21 : x47_2 < (l0_1.length : Int)
    ·rw [if_pos c21] at H
     have c21b0 : decide (x47_2 < (l0_1.length : Int)) = true:=decide_eq_true c21
     clear c21
     have HC22:=qo.mk H
     clear H
     have p175 : 0 ≤ (x47_2 : Int):=dt_
     have q175 : x47_2 < (l0_1.length : Int):=dt_
     obtain ⟨ad175,e175,hx175_0,hx175_1,hx175_2⟩:=at_T71 HR0_1.out x47_2 p175 q175
     cases e175
     replace hx175_0:=cb_ HB hx175_0
     replace hx175_1:=cb_ HB hx175_1
     replace hx175_2:=cb_ HB hx175_2
     replace p175:=eq_true p175
     replace q175:=eq_true q175
     go_upto_region 9 with (first|((with_reducible refine gate_dst (N:=9) rfl ?_);(try (refine gate_guard (by rfl) ?_;dsimp only));refine box_event ?hg (N:=9) ?hd (cs:=#[.string (⟨#[]⟩ : ByteArray),.string (⟨#[]⟩ : ByteArray),.int .i64 0]) (t:=71) ?hr ?_;(case hd=>rfl);(case hg=>rfl);(case hr=>first|(go_simp;done)|(go_simp;rfl));intro gb176 hg w23 hbox hb;have BK176:=qo.mk (hbox);have GW176:=hl_ (w:=w) hg;have GE176:=hl_ (w:=w) hg;have NB167_176:=qo.mk ((by rw [hg];exact nl_ BK167 : gb167 ≠ gb176));have NB176_167:=qo.mk ((by rw [hg];exact ng_ BK167 : gb176 ≠ gb167));replace BK167:=bb_ BK167 hb;replace HB:=hs_ HB hb;clear hb hbox hg;have hnb24:=NB176_167.out;have hnc24:=NB167_176.out;obtain ⟨hcz25_0,hcz25_1,hcz25_2,hfz25_0,hfz25_1,hfz25_2⟩:=c3f_ BK176.out))
     (try simp only [Act.put,List.setIfInBounds_toArray,List.set_cons_zero,List.set_cons_succ])
     go_cut [84] (fun v84 wc=>∃ (kq : Nat) (x84_21 : Bool),v84 = .bool x84_21 ∧ qo (impl_PageText.j2 kq x6_2 x7_2 l0_1 (l0_1.length : Int) x47_2 x84_21 a0_0 l0_1 ((rd_T71 l0_1 x47_2).f0) ((rd_T71 l0_1 x47_2).f1) ((rd_T71 l0_1 x47_2).f2) = some (r1,r2)) ∧ qo (kq ≤ k2) ∧ qo (wc.heap[gb167]? = some (.cells #[.int .i64 a0_0,(.slice (some ad175) l0_1.length c0_1)] 76 (0,0))) ∧ qo (wc.heap[gb176]? = some (.cells #[.string ((rd_T71 l0_1 x47_2).f0),.string ((rd_T71 l0_1 x47_2).f1),.int .i64 ((rd_T71 l0_1 x47_2).f2)] 71 (0,0))) ∧ qo (Below w.heap.size w wc))
     case first =>
      have H:=HC22.out
      clear HC22
      replace H:=Option.bind_eq_some_iff.mp H
      obtain ⟨t177,A260,H⟩:=H
      replace H : (if t177 = true then (if x47_2 > 0 then (if 0 ≤ (wrap64 (x47_2 - 1)) then (if (wrap64 (x47_2 - 1)) < (l0_1.length : Int) then (if ((Op.bytesLess (((rd_T71 l0_1 (wrap64 (x47_2 - 1))).f0).toList) (((rd_T71 l0_1 x47_2).f0).toList)) = true) then (if (((rd_T71 l0_1 x47_2).f0).size : Int) > 54 then (impl_PageText.j2 k2 x6_2 x7_2 l0_1 (l0_1.length : Int) x47_2 true a0_0 l0_1 ((rd_T71 l0_1 x47_2).f0) ((rd_T71 l0_1 x47_2).f1) ((rd_T71 l0_1 x47_2).f2)) else (impl_PageText.j2 k2 x6_2 x7_2 l0_1 (l0_1.length : Int) x47_2 (decide ((((rd_T71 l0_1 x47_2).f1).size : Int) > 54)) a0_0 l0_1 ((rd_T71 l0_1 x47_2).f0) ((rd_T71 l0_1 x47_2).f1) ((rd_T71 l0_1 x47_2).f2))) else (impl_PageText.j2 k2 x6_2 x7_2 l0_1 (l0_1.length : Int) x47_2 true a0_0 l0_1 ((rd_T71 l0_1 x47_2).f0) ((rd_T71 l0_1 x47_2).f1) ((rd_T71 l0_1 x47_2).f2))) else (none)) else (none)) else (if (((rd_T71 l0_1 x47_2).f0).size : Int) > 54 then (impl_PageText.j2 k2 x6_2 x7_2 l0_1 (l0_1.length : Int) x47_2 true a0_0 l0_1 ((rd_T71 l0_1 x47_2).f0) ((rd_T71 l0_1 x47_2).f1) ((rd_T71 l0_1 x47_2).f2)) else (impl_PageText.j2 k2 x6_2 x7_2 l0_1 (l0_1.length : Int) x47_2 (decide ((((rd_T71 l0_1 x47_2).f1).size : Int) > 54)) a0_0 l0_1 ((rd_T71 l0_1 x47_2).f0) ((rd_T71 l0_1 x47_2).f1) ((rd_T71 l0_1 x47_2).f2)))) else (impl_PageText.j2 k2 x6_2 x7_2 l0_1 (l0_1.length : Int) x47_2 true a0_0 l0_1 ((rd_T71 l0_1 x47_2).f0) ((rd_T71 l0_1 x47_2).f1) ((rd_T71 l0_1 x47_2).f2))) = some (r1,r2):=H
      have A26:=qo.mk A260
      clear A260
      by_cases c27 : t177 = true
      ·subst c27
       have H1 : (if x47_2 > 0 then (if 0 ≤ (wrap64 (x47_2 - 1)) then (if (wrap64 (x47_2 - 1)) < (l0_1.length : Int) then (if ((Op.bytesLess (((rd_T71 l0_1 (wrap64 (x47_2 - 1))).f0).toList) (((rd_T71 l0_1 x47_2).f0).toList)) = true) then (if (((rd_T71 l0_1 x47_2).f0).size : Int) > 54 then (impl_PageText.j2 k2 x6_2 x7_2 l0_1 (l0_1.length : Int) x47_2 true a0_0 l0_1 ((rd_T71 l0_1 x47_2).f0) ((rd_T71 l0_1 x47_2).f1) ((rd_T71 l0_1 x47_2).f2)) else (impl_PageText.j2 k2 x6_2 x7_2 l0_1 (l0_1.length : Int) x47_2 (decide ((((rd_T71 l0_1 x47_2).f1).size : Int) > 54)) a0_0 l0_1 ((rd_T71 l0_1 x47_2).f0) ((rd_T71 l0_1 x47_2).f1) ((rd_T71 l0_1 x47_2).f2))) else (impl_PageText.j2 k2 x6_2 x7_2 l0_1 (l0_1.length : Int) x47_2 true a0_0 l0_1 ((rd_T71 l0_1 x47_2).f0) ((rd_T71 l0_1 x47_2).f1) ((rd_T71 l0_1 x47_2).f2))) else (none)) else (none)) else (if (((rd_T71 l0_1 x47_2).f0).size : Int) > 54 then (impl_PageText.j2 k2 x6_2 x7_2 l0_1 (l0_1.length : Int) x47_2 true a0_0 l0_1 ((rd_T71 l0_1 x47_2).f0) ((rd_T71 l0_1 x47_2).f1) ((rd_T71 l0_1 x47_2).f2)) else (impl_PageText.j2 k2 x6_2 x7_2 l0_1 (l0_1.length : Int) x47_2 (decide ((((rd_T71 l0_1 x47_2).f1).size : Int) > 54)) a0_0 l0_1 ((rd_T71 l0_1 x47_2).f0) ((rd_T71 l0_1 x47_2).f1) ((rd_T71 l0_1 x47_2).f2)))) = some (r1,r2):=by rw [if_pos rfl] at H;exact H
       clear H
       have H:=H1
       clear H1
       by_cases c28 : x47_2 > 0
       ·rw [if_pos c28] at H
        have c28b0 : decide (0 < x47_2) = true:=decide_eq_true c28
        clear c28
        (first|rw [c28b0]|(simp only [i64_w,i32_w];rw [c28b0])|skip)
        obtain ⟨ji29,hji29⟩ : ∃ j_ : Int,(wrap64 (x47_2 - 1)) = j_:=⟨_,rfl⟩
        replace H : (if 0 ≤ (ji29) then (if (ji29) < (l0_1.length : Int) then (if ((Op.bytesLess (((rd_T71 l0_1 (ji29)).f0).toList) (((rd_T71 l0_1 x47_2).f0).toList)) = true) then (if (((rd_T71 l0_1 x47_2).f0).size : Int) > 54 then (impl_PageText.j2 k2 x6_2 x7_2 l0_1 (l0_1.length : Int) x47_2 true a0_0 l0_1 ((rd_T71 l0_1 x47_2).f0) ((rd_T71 l0_1 x47_2).f1) ((rd_T71 l0_1 x47_2).f2)) else (impl_PageText.j2 k2 x6_2 x7_2 l0_1 (l0_1.length : Int) x47_2 (decide ((((rd_T71 l0_1 x47_2).f1).size : Int) > 54)) a0_0 l0_1 ((rd_T71 l0_1 x47_2).f0) ((rd_T71 l0_1 x47_2).f1) ((rd_T71 l0_1 x47_2).f2))) else (impl_PageText.j2 k2 x6_2 x7_2 l0_1 (l0_1.length : Int) x47_2 true a0_0 l0_1 ((rd_T71 l0_1 x47_2).f0) ((rd_T71 l0_1 x47_2).f1) ((rd_T71 l0_1 x47_2).f2))) else (none)) else (none)) = some (r1,r2):=by first|(rw [hji29] at H;exact H)|(simp only [hji29] at H ⊢;exact H)
        (try rw [hji29] at A26)
        have hji29w : (IntKind.i64.wrap (x47_2 - 1)) = ji29:=(i64_w _).trans hji29
        by_cases c30 : 0 ≤ (ji29)
        ·rw [if_pos c30] at H
         have c30b0 : decide (0 ≤ (ji29)) = true:=decide_eq_true c30
         clear c30
         by_cases c31 : (ji29) < (l0_1.length : Int)
         ·rw [if_pos c31] at H
          have c31b0 : decide ((ji29) < (l0_1.length : Int)) = true:=decide_eq_true c31
          clear c31
          by_cases c32 : ((Op.bytesLess (((rd_T71 l0_1 (ji29)).f0).toList) (((rd_T71 l0_1 x47_2).f0).toList)) = true)
          ·rw [if_pos c32] at H
           have c32b0 : (Op.bytesLess (((rd_T71 l0_1 (ji29)).f0).toList) (((rd_T71 l0_1 x47_2).f0).toList)) = true:=c32
           clear c32
           by_cases c33 : (((rd_T71 l0_1 x47_2).f0).size : Int) > 54
           ·rw [if_pos c33] at H
            have c33b0 : decide (54 < (((rd_T71 l0_1 x47_2).f0).size : Int)) = true:=decide_eq_true c33
            have c33b1 : decide (54 < ((rd_T71 l0_1 x47_2).f0).size) = true:=decide_eq_true (by omega)
            clear c33
            have H':=qo.mk H
            clear H
            try go_wp2
            have n0_ : qo ((((w23.setCell ⟨gb176,0,none⟩ (.string ((rd_T71 l0_1 x47_2).f0))).setCell ⟨gb176,1,none⟩ (.string ((rd_T71 l0_1 x47_2).f1))).setCell ⟨gb176,2,none⟩ (.int .i64 ((rd_T71 l0_1 x47_2).f2))).heap[gb167]? = some (.cells #[.int .i64 a0_0,.slice (some ad175) l0_1.length c0_1] 76 (0,0))):=⟨by (with_reducible repeat (first|refine qb ?_ _|refine qe ?_|refine qc ?_ _));refine blk_far ?_ NB167_176.out _;(with_reducible repeat (first|refine qb ?_ _|refine qe ?_|refine qc ?_ _));refine blk_far ?_ NB167_176.out _;(with_reducible repeat (first|refine qb ?_ _|refine qe ?_|refine qc ?_ _));refine blk_far ?_ NB167_176.out _;(with_reducible repeat (first|refine qb ?_ _|refine qe ?_|refine qc ?_ _));exact BK167.out⟩
            have n1_ : qo ((((w23.setCell ⟨gb176,0,none⟩ (.string ((rd_T71 l0_1 x47_2).f0))).setCell ⟨gb176,1,none⟩ (.string ((rd_T71 l0_1 x47_2).f1))).setCell ⟨gb176,2,none⟩ (.int .i64 ((rd_T71 l0_1 x47_2).f2))).heap[gb176]? = some (.cells #[.string ((rd_T71 l0_1 x47_2).f0),.string ((rd_T71 l0_1 x47_2).f1),.int .i64 ((rd_T71 l0_1 x47_2).f2)] 71 (0,0))):=⟨by (with_reducible repeat (first|refine qb ?_ _|refine qe ?_|refine qc ?_ _));refine blk_put (cs:=#[.string ((rd_T71 l0_1 x47_2).f0),.string ((rd_T71 l0_1 x47_2).f1),.int .i64 0]) ?_ 2 _ rfl;(with_reducible repeat (first|refine qb ?_ _|refine qe ?_|refine qc ?_ _));refine blk_put (cs:=#[.string ((rd_T71 l0_1 x47_2).f0),.string (⟨#[]⟩ : ByteArray),.int .i64 0]) ?_ 1 _ rfl;(with_reducible repeat (first|refine qb ?_ _|refine qe ?_|refine qc ?_ _));refine blk_put (cs:=#[.string (⟨#[]⟩ : ByteArray),.string (⟨#[]⟩ : ByteArray),.int .i64 0]) ?_ 0 _ rfl;(with_reducible repeat (first|refine qb ?_ _|refine qe ?_|refine qc ?_ _));exact BK176.out⟩
            have n2_ : qo (Below w.heap.size w (((w23.setCell ⟨gb176,0,none⟩ (.string ((rd_T71 l0_1 x47_2).f0))).setCell ⟨gb176,1,none⟩ (.string ((rd_T71 l0_1 x47_2).f1))).setCell ⟨gb176,2,none⟩ (.int .i64 ((rd_T71 l0_1 x47_2).f2)))):=⟨hx_⟩
            (try clear BK167)
            (try clear BK176)
            (try clear HB)
            generalize (((w23.setCell ⟨gb176,0,none⟩ (.string ((rd_T71 l0_1 x47_2).f0))).setCell ⟨gb176,1,none⟩ (.string ((rd_T71 l0_1 x47_2).f1))).setCell ⟨gb176,2,none⟩ (.int .i64 ((rd_T71 l0_1 x47_2).f2))) = w34 at n0_ n1_ n2_ ⊢
            have BK167:=n0_
            have BK176:=n1_
            have HB:=n2_
            clear n0_ n1_ n2_
            replace BK167:=qo.mk (qe BK167.out);replace BK176:=qo.mk (qe BK176.out);replace HB:=qo.mk (qd HB.out)
            have p178 : 0 ≤ ((ji29) : Int):=dt_
            have q178 : (ji29) < (l0_1.length : Int):=dt_
            obtain ⟨ad178,e178,hx178_0,hx178_1,hx178_2⟩:=at_T71 HR0_1.out (ji29) p178 q178
            have hw178_2:=hx178_2
            have hw178_1:=hx178_1
            have hw178_0:=hx178_0
            obtain rfl : ad175 = ad178:=(by injection e178)
            replace hx178_0:=cb_ HB hx178_0
            replace hx178_1:=cb_ HB hx178_1
            replace hx178_2:=cb_ HB hx178_2
            replace p178:=eq_true p178
            replace q178:=eq_true q178
            refine start_ (n:=33) (S:=fun w'=>w'.cell? ⟨gb167,0,none⟩ = some (.int .i64 a0_0) ∧ w'.cell? ⟨gb167,1,none⟩ = some (.slice (some ad175) l0_1.length c0_1) ∧ w'.cell? ⟨gb176,0,none⟩ = some (.string ((rd_T71 l0_1 x47_2).f0)) ∧ w'.cell? ⟨gb176,1,none⟩ = some (.string ((rd_T71 l0_1 x47_2).f1)) ∧ w'.cell? ⟨gb176,2,none⟩ = some (.int .i64 ((rd_T71 l0_1 x47_2).f2)) ∧ w'.cell? (ad175.add (((ji29)).toNat * 3)) = some (.string ((rd_T71 l0_1 (ji29)).f0)) ∧ w'.cell? ⟨(ad175.add (((ji29)).toNat * 3)).block,(ad175.add (((ji29)).toNat * 3)).off + 1,none⟩ = some (.string ((rd_T71 l0_1 (ji29)).f1)) ∧ w'.cell? ⟨(ad175.add (((ji29)).toNat * 3)).block,(ad175.add (((ji29)).toNat * 3)).off + 2,none⟩ = some (.int .i64 ((rd_T71 l0_1 (ji29)).f2))) (ds:=[]) (Array.replicate 33 false) (by kernel_rfl) rfl rfl ⟨(qh BK167.out 0).trans rfl,(qh BK167.out 1).trans rfl,(qh BK176.out 0).trans rfl,(qh BK176.out 1).trans rfl,(qh BK176.out 2).trans rfl,(cb_ HB hw178_0:),(cb_ HB hw178_1:),(cb_ HB hw178_2:)⟩ (fun hHeld=>?_);refine with_tabW impl_PageText.tab9 impl_PageText.bits9 (fun HT_ HW_=>?_)
            generalize w34.drew = w35 at BK167 BK176 HB hx178_0 hx178_1 hx178_2 hHeld ⊢
            refine pt_ 0 52 (bz_ 33 1) ?_
            refine tt_ 1 53 (bz_ 33 3) hHeld (hy:=Or.inl ⟨by rfl,by rintro w' ⟨s0,s1,s2,s3,s4,s5,s6,s7⟩;go_simp;with_reducible rfl⟩) (h:=?_)
            refine tt_ 2 54 (bz_ 33 7) hHeld (hy:=Or.inl ⟨by rfl,by rintro w' ⟨s0,s1,s2,s3,s4,s5,s6,s7⟩;go_simp;with_reducible rfl⟩) (h:=?_)
            refine one_ (i:=3) (N:=some 55) (bz_ 33 15) rfl rfl (one_of HT_.out (by kernel_rfl)) (by decide) (fun K hK=>?_)
            refine goes_ Try.func91 (by kernel_rfl) rfl #[.int .i64 a0_0,.agg #[.string ((rd_T71 l0_1 x47_2).f0),.string ((rd_T71 l0_1 x47_2).f1),.int .i64 ((rd_T71 l0_1 x47_2).f2)]] (by rfl) rfl rfl sm_ ?_
            with_reducible refine (impl_itemOk.calls a0_0 ((rd_T71 l0_1 x47_2).f0) ((rd_T71 l0_1 x47_2).f1) ((rd_T71 l0_1 x47_2).f2) true _ A26.out).mono ?_
            rintro e w36 ⟨rfl,hb⟩
            refine ⟨_,rfl,?_⟩
            replace BK167:=bb_ BK167 hb;replace BK176:=bb_ BK176 hb;replace HB:=hs_ HB hb
            (try clear hb)
            (try clear hb2)
            (try clear hk)
            (try clear hi)
            refine hK.out _ _ ⟨(qh BK167.out 0).trans rfl,(qh BK167.out 1).trans rfl,(qh BK176.out 0).trans rfl,(qh BK176.out 1).trans rfl,(qh BK176.out 2).trans rfl,(cb_ HB hw178_0:),(cb_ HB hw178_1:),(cb_ HB hw178_2:)⟩ (fun hHeld=>?_)
            clear hK K
            refine norm_ (a':=?_) ?_ ?_
            rotate_left
            ·show Act.put _ (some 55) _ = _
             simp only [Act.put,List.setIfInBounds_toArray,List.set_cons_zero,List.set_cons_succ,i64_w,i32_w]
             rfl
            refine pt_ 4 56 (bz_ 33 31) ?_
            refine pt_ 5 57 (bz_ 33 63) ?_
            refine pt_ 6 58 (bz_ 33 127) ?_
            refine pt_ 7 59 (bz_ 33 255) ?_
            refine pt_ 8 60 (bz_ 33 511) ?_
            refine pt_ 9 61 (bz_ 33 1023) ?_
            refine pt_ 11 63 (bz_ 33 3071) ?_
            refine pt_ 12 64 (bz_ 33 7167) ?_
            refine pt_ 16 68 (bz_ 33 72703) ?_
            refine tt_ 10 62 (bz_ 33 73727) hHeld (hy:=Or.inl ⟨by rfl,by rintro w' ⟨s0,s1,s2,s3,s4,s5,s6,s7⟩;go_simp;with_reducible rfl⟩) (h:=?_)
            refine pt_ 13 65 (bz_ 33 81919) ?_
            refine pt_ 14 66 (bz_ 33 98303) ?_
            refine tt_ 15 67 (bz_ 33 131071) hHeld (hy:=Or.inl ⟨by rfl,by rintro w' ⟨s0,s1,s2,s3,s4,s5,s6,s7⟩;go_simp;with_reducible rfl⟩) (h:=?_)
            refine tt_ 17 69 (bz_ 33 262143) hHeld (hy:=Or.inl ⟨by rfl,by rintro w' ⟨s0,s1,s2,s3,s4,s5,s6,s7⟩;go_simp;with_reducible rfl⟩) (h:=?_)
            refine pt_ 18 70 (bz_ 33 524287) ?_
            refine pt_ 19 71 (bz_ 33 1048575) ?_
            refine pt_ 20 72 (bz_ 33 2097151) ?_
            refine pt_ 21 73 (bz_ 33 4194303) ?_
            refine pt_ 22 74 (bz_ 33 8388607) ?_
            refine tt_ 23 75 (bz_ 33 16777215) hHeld (hy:=Or.inl ⟨by rfl,by rintro w' ⟨s0,s1,s2,s3,s4,s5,s6,s7⟩;go_simp;with_reducible rfl⟩) (h:=?_)
            refine pt_ 24 76 (bz_ 33 33554431) ?_
            refine pt_ 25 77 (bz_ 33 67108863) ?_
            refine pt_ 26 78 (bz_ 33 134217727) ?_
            refine pt_ 27 79 (bz_ 33 268435455) ?_
            refine pu_ 28 80 (bz_ 33 536870911) ?_
            refine pu_ 29 81 (bz_ 33 1073741823) ?_
            refine pu_ 30 82 (bz_ 33 2147483647) ?_
            refine pu_ 31 83 (bz_ 33 4294967295) ?_
            refine pt_ 32 84 (bz_ 33 8589934591) ?_
            refine done_ (done_of HT_.out (by kernel_rfl)) ?_
            try go_wp2
            go_meet
            case rel=>exact ⟨_,(true),rs_,H',⟨by have:=HJ1.out;have:=HK2.out;first|omega|exact Nat.le_refl _⟩,(bx_ BK167),(bx_ BK176),⟨hx_⟩⟩
           rw [if_neg c33] at H
           have c33b0 : decide (54 < (((rd_T71 l0_1 x47_2).f0).size : Int)) = false:=decide_eq_false c33
           have c33b1 : decide (54 < ((rd_T71 l0_1 x47_2).f0).size) = false:=decide_eq_false (by omega)
           clear c33
           have H':=qo.mk H
           clear H
           try go_wp2
           have n0_ : qo ((((w23.setCell ⟨gb176,0,none⟩ (.string ((rd_T71 l0_1 x47_2).f0))).setCell ⟨gb176,1,none⟩ (.string ((rd_T71 l0_1 x47_2).f1))).setCell ⟨gb176,2,none⟩ (.int .i64 ((rd_T71 l0_1 x47_2).f2))).heap[gb167]? = some (.cells #[.int .i64 a0_0,.slice (some ad175) l0_1.length c0_1] 76 (0,0))):=⟨by (with_reducible repeat (first|refine qb ?_ _|refine qe ?_|refine qc ?_ _));refine blk_far ?_ NB167_176.out _;(with_reducible repeat (first|refine qb ?_ _|refine qe ?_|refine qc ?_ _));refine blk_far ?_ NB167_176.out _;(with_reducible repeat (first|refine qb ?_ _|refine qe ?_|refine qc ?_ _));refine blk_far ?_ NB167_176.out _;(with_reducible repeat (first|refine qb ?_ _|refine qe ?_|refine qc ?_ _));exact BK167.out⟩
           have n1_ : qo ((((w23.setCell ⟨gb176,0,none⟩ (.string ((rd_T71 l0_1 x47_2).f0))).setCell ⟨gb176,1,none⟩ (.string ((rd_T71 l0_1 x47_2).f1))).setCell ⟨gb176,2,none⟩ (.int .i64 ((rd_T71 l0_1 x47_2).f2))).heap[gb176]? = some (.cells #[.string ((rd_T71 l0_1 x47_2).f0),.string ((rd_T71 l0_1 x47_2).f1),.int .i64 ((rd_T71 l0_1 x47_2).f2)] 71 (0,0))):=⟨by (with_reducible repeat (first|refine qb ?_ _|refine qe ?_|refine qc ?_ _));refine blk_put (cs:=#[.string ((rd_T71 l0_1 x47_2).f0),.string ((rd_T71 l0_1 x47_2).f1),.int .i64 0]) ?_ 2 _ rfl;(with_reducible repeat (first|refine qb ?_ _|refine qe ?_|refine qc ?_ _));refine blk_put (cs:=#[.string ((rd_T71 l0_1 x47_2).f0),.string (⟨#[]⟩ : ByteArray),.int .i64 0]) ?_ 1 _ rfl;(with_reducible repeat (first|refine qb ?_ _|refine qe ?_|refine qc ?_ _));refine blk_put (cs:=#[.string (⟨#[]⟩ : ByteArray),.string (⟨#[]⟩ : ByteArray),.int .i64 0]) ?_ 0 _ rfl;(with_reducible repeat (first|refine qb ?_ _|refine qe ?_|refine qc ?_ _));exact BK176.out⟩
           have n2_ : qo (Below w.heap.size w (((w23.setCell ⟨gb176,0,none⟩ (.string ((rd_T71 l0_1 x47_2).f0))).setCell ⟨gb176,1,none⟩ (.string ((rd_T71 l0_1 x47_2).f1))).setCell ⟨gb176,2,none⟩ (.int .i64 ((rd_T71 l0_1 x47_2).f2)))):=⟨hx_⟩
           (try clear BK167)
           (try clear BK176)
           (try clear HB)
           generalize (((w23.setCell ⟨gb176,0,none⟩ (.string ((rd_T71 l0_1 x47_2).f0))).setCell ⟨gb176,1,none⟩ (.string ((rd_T71 l0_1 x47_2).f1))).setCell ⟨gb176,2,none⟩ (.int .i64 ((rd_T71 l0_1 x47_2).f2))) = w37 at n0_ n1_ n2_ ⊢
           have BK167:=n0_
           have BK176:=n1_
           have HB:=n2_
           clear n0_ n1_ n2_
           replace BK167:=qo.mk (qe BK167.out);replace BK176:=qo.mk (qe BK176.out);replace HB:=qo.mk (qd HB.out)
           have p178 : 0 ≤ ((ji29) : Int):=dt_
           have q178 : (ji29) < (l0_1.length : Int):=dt_
           obtain ⟨ad178,e178,hx178_0,hx178_1,hx178_2⟩:=at_T71 HR0_1.out (ji29) p178 q178
           have hw178_2:=hx178_2
           have hw178_1:=hx178_1
           have hw178_0:=hx178_0
           obtain rfl : ad175 = ad178:=(by injection e178)
           replace hx178_0:=cb_ HB hx178_0
           replace hx178_1:=cb_ HB hx178_1
           replace hx178_2:=cb_ HB hx178_2
           replace p178:=eq_true p178
           replace q178:=eq_true q178
           refine start_ (n:=33) (S:=fun w'=>w'.cell? ⟨gb167,0,none⟩ = some (.int .i64 a0_0) ∧ w'.cell? ⟨gb167,1,none⟩ = some (.slice (some ad175) l0_1.length c0_1) ∧ w'.cell? ⟨gb176,0,none⟩ = some (.string ((rd_T71 l0_1 x47_2).f0)) ∧ w'.cell? ⟨gb176,1,none⟩ = some (.string ((rd_T71 l0_1 x47_2).f1)) ∧ w'.cell? ⟨gb176,2,none⟩ = some (.int .i64 ((rd_T71 l0_1 x47_2).f2)) ∧ w'.cell? (ad175.add (((ji29)).toNat * 3)) = some (.string ((rd_T71 l0_1 (ji29)).f0)) ∧ w'.cell? ⟨(ad175.add (((ji29)).toNat * 3)).block,(ad175.add (((ji29)).toNat * 3)).off + 1,none⟩ = some (.string ((rd_T71 l0_1 (ji29)).f1)) ∧ w'.cell? ⟨(ad175.add (((ji29)).toNat * 3)).block,(ad175.add (((ji29)).toNat * 3)).off + 2,none⟩ = some (.int .i64 ((rd_T71 l0_1 (ji29)).f2))) (ds:=[]) (Array.replicate 33 false) (by kernel_rfl) rfl rfl ⟨(qh BK167.out 0).trans rfl,(qh BK167.out 1).trans rfl,(qh BK176.out 0).trans rfl,(qh BK176.out 1).trans rfl,(qh BK176.out 2).trans rfl,(cb_ HB hw178_0:),(cb_ HB hw178_1:),(cb_ HB hw178_2:)⟩ (fun hHeld=>?_);refine with_tabW impl_PageText.tab9 impl_PageText.bits9 (fun HT_ HW_=>?_)
           generalize w37.drew = w38 at BK167 BK176 HB hx178_0 hx178_1 hx178_2 hHeld ⊢
           refine pt_ 0 52 (bz_ 33 1) ?_
           refine tt_ 1 53 (bz_ 33 3) hHeld (hy:=Or.inl ⟨by rfl,by rintro w' ⟨s0,s1,s2,s3,s4,s5,s6,s7⟩;go_simp;with_reducible rfl⟩) (h:=?_)
           refine tt_ 2 54 (bz_ 33 7) hHeld (hy:=Or.inl ⟨by rfl,by rintro w' ⟨s0,s1,s2,s3,s4,s5,s6,s7⟩;go_simp;with_reducible rfl⟩) (h:=?_)
           refine one_ (i:=3) (N:=some 55) (bz_ 33 15) rfl rfl (one_of HT_.out (by kernel_rfl)) (by decide) (fun K hK=>?_)
           refine goes_ Try.func91 (by kernel_rfl) rfl #[.int .i64 a0_0,.agg #[.string ((rd_T71 l0_1 x47_2).f0),.string ((rd_T71 l0_1 x47_2).f1),.int .i64 ((rd_T71 l0_1 x47_2).f2)]] (by rfl) rfl rfl sm_ ?_
           with_reducible refine (impl_itemOk.calls a0_0 ((rd_T71 l0_1 x47_2).f0) ((rd_T71 l0_1 x47_2).f1) ((rd_T71 l0_1 x47_2).f2) true _ A26.out).mono ?_
           rintro e w39 ⟨rfl,hb⟩
           refine ⟨_,rfl,?_⟩
           replace BK167:=bb_ BK167 hb;replace BK176:=bb_ BK176 hb;replace HB:=hs_ HB hb
           (try clear hb)
           (try clear hb2)
           (try clear hk)
           (try clear hi)
           refine hK.out _ _ ⟨(qh BK167.out 0).trans rfl,(qh BK167.out 1).trans rfl,(qh BK176.out 0).trans rfl,(qh BK176.out 1).trans rfl,(qh BK176.out 2).trans rfl,(cb_ HB hw178_0:),(cb_ HB hw178_1:),(cb_ HB hw178_2:)⟩ (fun hHeld=>?_)
           clear hK K
           refine norm_ (a':=?_) ?_ ?_
           rotate_left
           ·show Act.put _ (some 55) _ = _
            simp only [Act.put,List.setIfInBounds_toArray,List.set_cons_zero,List.set_cons_succ,i64_w,i32_w]
            rfl
           refine pt_ 4 56 (bz_ 33 31) ?_
           refine pt_ 5 57 (bz_ 33 63) ?_
           refine pt_ 6 58 (bz_ 33 127) ?_
           refine pt_ 7 59 (bz_ 33 255) ?_
           refine pt_ 8 60 (bz_ 33 511) ?_
           refine pt_ 9 61 (bz_ 33 1023) ?_
           refine pt_ 11 63 (bz_ 33 3071) ?_
           refine pt_ 12 64 (bz_ 33 7167) ?_
           refine pt_ 16 68 (bz_ 33 72703) ?_
           refine tt_ 10 62 (bz_ 33 73727) hHeld (hy:=Or.inl ⟨by rfl,by rintro w' ⟨s0,s1,s2,s3,s4,s5,s6,s7⟩;go_simp;with_reducible rfl⟩) (h:=?_)
           refine pt_ 13 65 (bz_ 33 81919) ?_
           refine pt_ 14 66 (bz_ 33 98303) ?_
           refine tt_ 15 67 (bz_ 33 131071) hHeld (hy:=Or.inl ⟨by rfl,by rintro w' ⟨s0,s1,s2,s3,s4,s5,s6,s7⟩;go_simp;with_reducible rfl⟩) (h:=?_)
           refine tt_ 17 69 (bz_ 33 262143) hHeld (hy:=Or.inl ⟨by rfl,by rintro w' ⟨s0,s1,s2,s3,s4,s5,s6,s7⟩;go_simp;with_reducible rfl⟩) (h:=?_)
           refine pt_ 18 70 (bz_ 33 524287) ?_
           refine pt_ 19 71 (bz_ 33 1048575) ?_
           refine pt_ 20 72 (bz_ 33 2097151) ?_
           refine pt_ 21 73 (bz_ 33 4194303) ?_
           refine pt_ 22 74 (bz_ 33 8388607) ?_
           refine tt_ 23 75 (bz_ 33 16777215) hHeld (hy:=Or.inl ⟨by rfl,by rintro w' ⟨s0,s1,s2,s3,s4,s5,s6,s7⟩;go_simp;with_reducible rfl⟩) (h:=?_)
           refine pt_ 24 76 (bz_ 33 33554431) ?_
           refine pt_ 25 77 (bz_ 33 67108863) ?_
           refine pt_ 26 78 (bz_ 33 134217727) ?_
           refine pt_ 27 79 (bz_ 33 268435455) ?_
           refine pt_ 28 80 (bz_ 33 536870911) ?_
           refine tt_ 29 81 (bz_ 33 1073741823) hHeld (hy:=Or.inl ⟨by rfl,by rintro w' ⟨s0,s1,s2,s3,s4,s5,s6,s7⟩;go_simp;with_reducible rfl⟩) (h:=?_)
           refine pt_ 30 82 (bz_ 33 2147483647) ?_
           refine pt_ 31 83 (bz_ 33 4294967295) ?_
           refine pt_ 32 84 (bz_ 33 8589934591) ?_
           refine done_ (done_of HT_.out (by kernel_rfl)) ?_
           try go_wp2
           go_meet
           case rel=>exact ⟨_,(decide ((((rd_T71 l0_1 x47_2).f1).size : Int) > 54)),rs_,H',⟨by have:=HJ1.out;have:=HK2.out;first|omega|exact Nat.le_refl _⟩,(bx_ BK167),(bx_ BK176),⟨hx_⟩⟩
          rw [if_neg c32] at H
          have c32b0 : (Op.bytesLess (((rd_T71 l0_1 (ji29)).f0).toList) (((rd_T71 l0_1 x47_2).f0).toList)) = false:=by simpa using c32
          clear c32
          have H':=qo.mk H
          clear H
          try go_wp2
          have n0_ : qo ((((w23.setCell ⟨gb176,0,none⟩ (.string ((rd_T71 l0_1 x47_2).f0))).setCell ⟨gb176,1,none⟩ (.string ((rd_T71 l0_1 x47_2).f1))).setCell ⟨gb176,2,none⟩ (.int .i64 ((rd_T71 l0_1 x47_2).f2))).heap[gb167]? = some (.cells #[.int .i64 a0_0,.slice (some ad175) l0_1.length c0_1] 76 (0,0))):=⟨by (with_reducible repeat (first|refine qb ?_ _|refine qe ?_|refine qc ?_ _));refine blk_far ?_ NB167_176.out _;(with_reducible repeat (first|refine qb ?_ _|refine qe ?_|refine qc ?_ _));refine blk_far ?_ NB167_176.out _;(with_reducible repeat (first|refine qb ?_ _|refine qe ?_|refine qc ?_ _));refine blk_far ?_ NB167_176.out _;(with_reducible repeat (first|refine qb ?_ _|refine qe ?_|refine qc ?_ _));exact BK167.out⟩
          have n1_ : qo ((((w23.setCell ⟨gb176,0,none⟩ (.string ((rd_T71 l0_1 x47_2).f0))).setCell ⟨gb176,1,none⟩ (.string ((rd_T71 l0_1 x47_2).f1))).setCell ⟨gb176,2,none⟩ (.int .i64 ((rd_T71 l0_1 x47_2).f2))).heap[gb176]? = some (.cells #[.string ((rd_T71 l0_1 x47_2).f0),.string ((rd_T71 l0_1 x47_2).f1),.int .i64 ((rd_T71 l0_1 x47_2).f2)] 71 (0,0))):=⟨by (with_reducible repeat (first|refine qb ?_ _|refine qe ?_|refine qc ?_ _));refine blk_put (cs:=#[.string ((rd_T71 l0_1 x47_2).f0),.string ((rd_T71 l0_1 x47_2).f1),.int .i64 0]) ?_ 2 _ rfl;(with_reducible repeat (first|refine qb ?_ _|refine qe ?_|refine qc ?_ _));refine blk_put (cs:=#[.string ((rd_T71 l0_1 x47_2).f0),.string (⟨#[]⟩ : ByteArray),.int .i64 0]) ?_ 1 _ rfl;(with_reducible repeat (first|refine qb ?_ _|refine qe ?_|refine qc ?_ _));refine blk_put (cs:=#[.string (⟨#[]⟩ : ByteArray),.string (⟨#[]⟩ : ByteArray),.int .i64 0]) ?_ 0 _ rfl;(with_reducible repeat (first|refine qb ?_ _|refine qe ?_|refine qc ?_ _));exact BK176.out⟩
          have n2_ : qo (Below w.heap.size w (((w23.setCell ⟨gb176,0,none⟩ (.string ((rd_T71 l0_1 x47_2).f0))).setCell ⟨gb176,1,none⟩ (.string ((rd_T71 l0_1 x47_2).f1))).setCell ⟨gb176,2,none⟩ (.int .i64 ((rd_T71 l0_1 x47_2).f2)))):=⟨hx_⟩
          (try clear BK167)
          (try clear BK176)
          (try clear HB)
          generalize (((w23.setCell ⟨gb176,0,none⟩ (.string ((rd_T71 l0_1 x47_2).f0))).setCell ⟨gb176,1,none⟩ (.string ((rd_T71 l0_1 x47_2).f1))).setCell ⟨gb176,2,none⟩ (.int .i64 ((rd_T71 l0_1 x47_2).f2))) = w40 at n0_ n1_ n2_ ⊢
          have BK167:=n0_
          have BK176:=n1_
          have HB:=n2_
          clear n0_ n1_ n2_
          replace BK167:=qo.mk (qe BK167.out);replace BK176:=qo.mk (qe BK176.out);replace HB:=qo.mk (qd HB.out)
          have p178 : 0 ≤ ((ji29) : Int):=dt_
          have q178 : (ji29) < (l0_1.length : Int):=dt_
          obtain ⟨ad178,e178,hx178_0,hx178_1,hx178_2⟩:=at_T71 HR0_1.out (ji29) p178 q178
          have hw178_2:=hx178_2
          have hw178_1:=hx178_1
          have hw178_0:=hx178_0
          obtain rfl : ad175 = ad178:=(by injection e178)
          replace hx178_0:=cb_ HB hx178_0
          replace hx178_1:=cb_ HB hx178_1
          replace hx178_2:=cb_ HB hx178_2
          replace p178:=eq_true p178
          replace q178:=eq_true q178
          refine start_ (n:=33) (S:=fun w'=>w'.cell? ⟨gb167,0,none⟩ = some (.int .i64 a0_0) ∧ w'.cell? ⟨gb167,1,none⟩ = some (.slice (some ad175) l0_1.length c0_1) ∧ w'.cell? ⟨gb176,0,none⟩ = some (.string ((rd_T71 l0_1 x47_2).f0)) ∧ w'.cell? ⟨gb176,1,none⟩ = some (.string ((rd_T71 l0_1 x47_2).f1)) ∧ w'.cell? ⟨gb176,2,none⟩ = some (.int .i64 ((rd_T71 l0_1 x47_2).f2)) ∧ w'.cell? (ad175.add (((ji29)).toNat * 3)) = some (.string ((rd_T71 l0_1 (ji29)).f0)) ∧ w'.cell? ⟨(ad175.add (((ji29)).toNat * 3)).block,(ad175.add (((ji29)).toNat * 3)).off + 1,none⟩ = some (.string ((rd_T71 l0_1 (ji29)).f1)) ∧ w'.cell? ⟨(ad175.add (((ji29)).toNat * 3)).block,(ad175.add (((ji29)).toNat * 3)).off + 2,none⟩ = some (.int .i64 ((rd_T71 l0_1 (ji29)).f2))) (ds:=[]) (Array.replicate 33 false) (by kernel_rfl) rfl rfl ⟨(qh BK167.out 0).trans rfl,(qh BK167.out 1).trans rfl,(qh BK176.out 0).trans rfl,(qh BK176.out 1).trans rfl,(qh BK176.out 2).trans rfl,(cb_ HB hw178_0:),(cb_ HB hw178_1:),(cb_ HB hw178_2:)⟩ (fun hHeld=>?_);refine with_tabW impl_PageText.tab9 impl_PageText.bits9 (fun HT_ HW_=>?_)
          generalize w40.drew = w41 at BK167 BK176 HB hx178_0 hx178_1 hx178_2 hHeld ⊢
          refine pt_ 0 52 (bz_ 33 1) ?_
          refine tt_ 1 53 (bz_ 33 3) hHeld (hy:=Or.inl ⟨by rfl,by rintro w' ⟨s0,s1,s2,s3,s4,s5,s6,s7⟩;go_simp;with_reducible rfl⟩) (h:=?_)
          refine tt_ 2 54 (bz_ 33 7) hHeld (hy:=Or.inl ⟨by rfl,by rintro w' ⟨s0,s1,s2,s3,s4,s5,s6,s7⟩;go_simp;with_reducible rfl⟩) (h:=?_)
          refine one_ (i:=3) (N:=some 55) (bz_ 33 15) rfl rfl (one_of HT_.out (by kernel_rfl)) (by decide) (fun K hK=>?_)
          refine goes_ Try.func91 (by kernel_rfl) rfl #[.int .i64 a0_0,.agg #[.string ((rd_T71 l0_1 x47_2).f0),.string ((rd_T71 l0_1 x47_2).f1),.int .i64 ((rd_T71 l0_1 x47_2).f2)]] (by rfl) rfl rfl sm_ ?_
          with_reducible refine (impl_itemOk.calls a0_0 ((rd_T71 l0_1 x47_2).f0) ((rd_T71 l0_1 x47_2).f1) ((rd_T71 l0_1 x47_2).f2) true _ A26.out).mono ?_
          rintro e w42 ⟨rfl,hb⟩
          refine ⟨_,rfl,?_⟩
          replace BK167:=bb_ BK167 hb;replace BK176:=bb_ BK176 hb;replace HB:=hs_ HB hb
          (try clear hb)
          (try clear hb2)
          (try clear hk)
          (try clear hi)
          refine hK.out _ _ ⟨(qh BK167.out 0).trans rfl,(qh BK167.out 1).trans rfl,(qh BK176.out 0).trans rfl,(qh BK176.out 1).trans rfl,(qh BK176.out 2).trans rfl,(cb_ HB hw178_0:),(cb_ HB hw178_1:),(cb_ HB hw178_2:)⟩ (fun hHeld=>?_)
          clear hK K
          refine norm_ (a':=?_) ?_ ?_
          rotate_left
          ·show Act.put _ (some 55) _ = _
           simp only [Act.put,List.setIfInBounds_toArray,List.set_cons_zero,List.set_cons_succ,i64_w,i32_w]
           rfl
          refine pt_ 4 56 (bz_ 33 31) ?_
          refine pt_ 5 57 (bz_ 33 63) ?_
          refine pt_ 6 58 (bz_ 33 127) ?_
          refine pt_ 7 59 (bz_ 33 255) ?_
          refine pt_ 8 60 (bz_ 33 511) ?_
          refine pt_ 9 61 (bz_ 33 1023) ?_
          refine pt_ 11 63 (bz_ 33 3071) ?_
          refine pt_ 12 64 (bz_ 33 7167) ?_
          refine pt_ 16 68 (bz_ 33 72703) ?_
          refine tt_ 10 62 (bz_ 33 73727) hHeld (hy:=Or.inl ⟨by rfl,by rintro w' ⟨s0,s1,s2,s3,s4,s5,s6,s7⟩;go_simp;with_reducible rfl⟩) (h:=?_)
          refine pt_ 13 65 (bz_ 33 81919) ?_
          refine pt_ 14 66 (bz_ 33 98303) ?_
          refine tt_ 15 67 (bz_ 33 131071) hHeld (hy:=Or.inl ⟨by rfl,by rintro w' ⟨s0,s1,s2,s3,s4,s5,s6,s7⟩;go_simp;with_reducible rfl⟩) (h:=?_)
          refine tt_ 17 69 (bz_ 33 262143) hHeld (hy:=Or.inl ⟨by rfl,by rintro w' ⟨s0,s1,s2,s3,s4,s5,s6,s7⟩;go_simp;with_reducible rfl⟩) (h:=?_)
          refine pt_ 18 70 (bz_ 33 524287) ?_
          refine pt_ 19 71 (bz_ 33 1048575) ?_
          refine pt_ 20 72 (bz_ 33 2097151) ?_
          refine pt_ 21 73 (bz_ 33 4194303) ?_
          refine pu_ 22 74 (bz_ 33 8388607) ?_
          refine pu_ 23 75 (bz_ 33 16777215) ?_
          refine pu_ 24 76 (bz_ 33 33554431) ?_
          refine pu_ 25 77 (bz_ 33 67108863) ?_
          refine pt_ 26 78 (bz_ 33 134217727) ?_
          refine pt_ 27 79 (bz_ 33 268435455) ?_
          refine pu_ 28 80 (bz_ 33 536870911) ?_
          refine pu_ 29 81 (bz_ 33 1073741823) ?_
          refine pu_ 30 82 (bz_ 33 2147483647) ?_
          refine pu_ 31 83 (bz_ 33 4294967295) ?_
          refine pt_ 32 84 (bz_ 33 8589934591) ?_
          refine done_ (done_of HT_.out (by kernel_rfl)) ?_
          try go_wp2
          go_meet
          case rel=>exact ⟨_,(true),rs_,H',⟨by have:=HJ1.out;have:=HK2.out;first|omega|exact Nat.le_refl _⟩,(bx_ BK167),(bx_ BK176),⟨hx_⟩⟩
         rw [if_neg c31] at H
         exact absurd H (by simp)
        rw [if_neg c30] at H
        exact absurd H (by simp)
       rw [if_neg c28] at H
       have c28b0 : decide (0 < x47_2) = false:=decide_eq_false c28
       clear c28
       (first|rw [c28b0]|(simp only [i64_w,i32_w];rw [c28b0])|skip)
       by_cases c43 : (((rd_T71 l0_1 x47_2).f0).size : Int) > 54
       ·rw [if_pos c43] at H
        have c43b0 : decide (54 < (((rd_T71 l0_1 x47_2).f0).size : Int)) = true:=decide_eq_true c43
        have c43b1 : decide (54 < ((rd_T71 l0_1 x47_2).f0).size) = true:=decide_eq_true (by omega)
        clear c43
        have H':=qo.mk H
        clear H
        try go_wp2
        have n0_ : qo ((((w23.setCell ⟨gb176,0,none⟩ (.string ((rd_T71 l0_1 x47_2).f0))).setCell ⟨gb176,1,none⟩ (.string ((rd_T71 l0_1 x47_2).f1))).setCell ⟨gb176,2,none⟩ (.int .i64 ((rd_T71 l0_1 x47_2).f2))).heap[gb167]? = some (.cells #[.int .i64 a0_0,.slice (some ad175) l0_1.length c0_1] 76 (0,0))):=⟨by (with_reducible repeat (first|refine qb ?_ _|refine qe ?_|refine qc ?_ _));refine blk_far ?_ NB167_176.out _;(with_reducible repeat (first|refine qb ?_ _|refine qe ?_|refine qc ?_ _));refine blk_far ?_ NB167_176.out _;(with_reducible repeat (first|refine qb ?_ _|refine qe ?_|refine qc ?_ _));refine blk_far ?_ NB167_176.out _;(with_reducible repeat (first|refine qb ?_ _|refine qe ?_|refine qc ?_ _));exact BK167.out⟩
        have n1_ : qo ((((w23.setCell ⟨gb176,0,none⟩ (.string ((rd_T71 l0_1 x47_2).f0))).setCell ⟨gb176,1,none⟩ (.string ((rd_T71 l0_1 x47_2).f1))).setCell ⟨gb176,2,none⟩ (.int .i64 ((rd_T71 l0_1 x47_2).f2))).heap[gb176]? = some (.cells #[.string ((rd_T71 l0_1 x47_2).f0),.string ((rd_T71 l0_1 x47_2).f1),.int .i64 ((rd_T71 l0_1 x47_2).f2)] 71 (0,0))):=⟨by (with_reducible repeat (first|refine qb ?_ _|refine qe ?_|refine qc ?_ _));refine blk_put (cs:=#[.string ((rd_T71 l0_1 x47_2).f0),.string ((rd_T71 l0_1 x47_2).f1),.int .i64 0]) ?_ 2 _ rfl;(with_reducible repeat (first|refine qb ?_ _|refine qe ?_|refine qc ?_ _));refine blk_put (cs:=#[.string ((rd_T71 l0_1 x47_2).f0),.string (⟨#[]⟩ : ByteArray),.int .i64 0]) ?_ 1 _ rfl;(with_reducible repeat (first|refine qb ?_ _|refine qe ?_|refine qc ?_ _));refine blk_put (cs:=#[.string (⟨#[]⟩ : ByteArray),.string (⟨#[]⟩ : ByteArray),.int .i64 0]) ?_ 0 _ rfl;(with_reducible repeat (first|refine qb ?_ _|refine qe ?_|refine qc ?_ _));exact BK176.out⟩
        have n2_ : qo (Below w.heap.size w (((w23.setCell ⟨gb176,0,none⟩ (.string ((rd_T71 l0_1 x47_2).f0))).setCell ⟨gb176,1,none⟩ (.string ((rd_T71 l0_1 x47_2).f1))).setCell ⟨gb176,2,none⟩ (.int .i64 ((rd_T71 l0_1 x47_2).f2)))):=⟨hx_⟩
        (try clear BK167)
        (try clear BK176)
        (try clear HB)
        generalize (((w23.setCell ⟨gb176,0,none⟩ (.string ((rd_T71 l0_1 x47_2).f0))).setCell ⟨gb176,1,none⟩ (.string ((rd_T71 l0_1 x47_2).f1))).setCell ⟨gb176,2,none⟩ (.int .i64 ((rd_T71 l0_1 x47_2).f2))) = w44 at n0_ n1_ n2_ ⊢
        have BK167:=n0_
        have BK176:=n1_
        have HB:=n2_
        clear n0_ n1_ n2_
        replace BK167:=qo.mk (qe BK167.out);replace BK176:=qo.mk (qe BK176.out);replace HB:=qo.mk (qd HB.out)
        refine start_ (n:=33) (S:=fun w'=>w'.cell? ⟨gb167,0,none⟩ = some (.int .i64 a0_0) ∧ w'.cell? ⟨gb167,1,none⟩ = some (.slice (some ad175) l0_1.length c0_1) ∧ w'.cell? ⟨gb176,0,none⟩ = some (.string ((rd_T71 l0_1 x47_2).f0)) ∧ w'.cell? ⟨gb176,1,none⟩ = some (.string ((rd_T71 l0_1 x47_2).f1)) ∧ w'.cell? ⟨gb176,2,none⟩ = some (.int .i64 ((rd_T71 l0_1 x47_2).f2))) (ds:=[]) (Array.replicate 33 false) (by kernel_rfl) rfl rfl ⟨(qh BK167.out 0).trans rfl,(qh BK167.out 1).trans rfl,(qh BK176.out 0).trans rfl,(qh BK176.out 1).trans rfl,(qh BK176.out 2).trans rfl⟩ (fun hHeld=>?_);refine with_tabW impl_PageText.tab9 impl_PageText.bits9 (fun HT_ HW_=>?_)
        generalize w44.drew = w45 at BK167 BK176 HB hHeld ⊢
        refine pt_ 0 52 (bz_ 33 1) ?_
        refine tt_ 1 53 (bz_ 33 3) hHeld (hy:=Or.inl ⟨by rfl,by rintro w' ⟨s0,s1,s2,s3,s4⟩;go_simp;with_reducible rfl⟩) (h:=?_)
        refine tt_ 2 54 (bz_ 33 7) hHeld (hy:=Or.inl ⟨by rfl,by rintro w' ⟨s0,s1,s2,s3,s4⟩;go_simp;with_reducible rfl⟩) (h:=?_)
        refine one_ (i:=3) (N:=some 55) (bz_ 33 15) rfl rfl (one_of HT_.out (by kernel_rfl)) (by decide) (fun K hK=>?_)
        refine goes_ Try.func91 (by kernel_rfl) rfl #[.int .i64 a0_0,.agg #[.string ((rd_T71 l0_1 x47_2).f0),.string ((rd_T71 l0_1 x47_2).f1),.int .i64 ((rd_T71 l0_1 x47_2).f2)]] (by rfl) rfl rfl sm_ ?_
        with_reducible refine (impl_itemOk.calls a0_0 ((rd_T71 l0_1 x47_2).f0) ((rd_T71 l0_1 x47_2).f1) ((rd_T71 l0_1 x47_2).f2) true _ A26.out).mono ?_
        rintro e w46 ⟨rfl,hb⟩
        refine ⟨_,rfl,?_⟩
        replace BK167:=bb_ BK167 hb;replace BK176:=bb_ BK176 hb;replace HB:=hs_ HB hb
        (try clear hb)
        (try clear hb2)
        (try clear hk)
        (try clear hi)
        refine hK.out _ _ ⟨(qh BK167.out 0).trans rfl,(qh BK167.out 1).trans rfl,(qh BK176.out 0).trans rfl,(qh BK176.out 1).trans rfl,(qh BK176.out 2).trans rfl⟩ (fun hHeld=>?_)
        clear hK K
        refine norm_ (a':=?_) ?_ ?_
        rotate_left
        ·show Act.put _ (some 55) _ = _
         simp only [Act.put,List.setIfInBounds_toArray,List.set_cons_zero,List.set_cons_succ,i64_w,i32_w]
         rfl
        refine pt_ 4 56 (bz_ 33 31) ?_
        refine pt_ 5 57 (bz_ 33 63) ?_
        refine pt_ 6 58 (bz_ 33 127) ?_
        refine pt_ 7 59 (bz_ 33 255) ?_
        refine pt_ 8 60 (bz_ 33 511) ?_
        refine pu_ 9 61 (bz_ 33 1023) ?_
        refine pu_ 10 62 (bz_ 33 2047) ?_
        refine pu_ 11 63 (bz_ 33 4095) ?_
        refine pu_ 12 64 (bz_ 33 8191) ?_
        refine pu_ 13 65 (bz_ 33 16383) ?_
        refine pu_ 14 66 (bz_ 33 32767) ?_
        refine pu_ 15 67 (bz_ 33 65535) ?_
        refine pu_ 16 68 (bz_ 33 131071) ?_
        refine pu_ 17 69 (bz_ 33 262143) ?_
        refine pu_ 18 70 (bz_ 33 524287) ?_
        refine pt_ 19 71 (bz_ 33 1048575) ?_
        refine pt_ 20 72 (bz_ 33 2097151) ?_
        refine pt_ 21 73 (bz_ 33 4194303) ?_
        refine pt_ 22 74 (bz_ 33 8388607) ?_
        refine tt_ 23 75 (bz_ 33 16777215) hHeld (hy:=Or.inl ⟨by rfl,by rintro w' ⟨s0,s1,s2,s3,s4⟩;go_simp;with_reducible rfl⟩) (h:=?_)
        refine pt_ 24 76 (bz_ 33 33554431) ?_
        refine pt_ 25 77 (bz_ 33 67108863) ?_
        refine pt_ 26 78 (bz_ 33 134217727) ?_
        refine pt_ 27 79 (bz_ 33 268435455) ?_
        refine pu_ 28 80 (bz_ 33 536870911) ?_
        refine pu_ 29 81 (bz_ 33 1073741823) ?_
        refine pu_ 30 82 (bz_ 33 2147483647) ?_
        refine pu_ 31 83 (bz_ 33 4294967295) ?_
        refine pt_ 32 84 (bz_ 33 8589934591) ?_
        refine done_ (done_of HT_.out (by kernel_rfl)) ?_
        try go_wp2
        go_meet
        case rel=>exact ⟨_,(true),rs_,H',⟨by have:=HJ1.out;have:=HK2.out;first|omega|exact Nat.le_refl _⟩,(bx_ BK167),(bx_ BK176),⟨hx_⟩⟩
       rw [if_neg c43] at H
       have c43b0 : decide (54 < (((rd_T71 l0_1 x47_2).f0).size : Int)) = false:=decide_eq_false c43
       have c43b1 : decide (54 < ((rd_T71 l0_1 x47_2).f0).size) = false:=decide_eq_false (by omega)
       clear c43
       have H':=qo.mk H
       clear H
       try go_wp2
       have n0_ : qo ((((w23.setCell ⟨gb176,0,none⟩ (.string ((rd_T71 l0_1 x47_2).f0))).setCell ⟨gb176,1,none⟩ (.string ((rd_T71 l0_1 x47_2).f1))).setCell ⟨gb176,2,none⟩ (.int .i64 ((rd_T71 l0_1 x47_2).f2))).heap[gb167]? = some (.cells #[.int .i64 a0_0,.slice (some ad175) l0_1.length c0_1] 76 (0,0))):=⟨by (with_reducible repeat (first|refine qb ?_ _|refine qe ?_|refine qc ?_ _));refine blk_far ?_ NB167_176.out _;(with_reducible repeat (first|refine qb ?_ _|refine qe ?_|refine qc ?_ _));refine blk_far ?_ NB167_176.out _;(with_reducible repeat (first|refine qb ?_ _|refine qe ?_|refine qc ?_ _));refine blk_far ?_ NB167_176.out _;(with_reducible repeat (first|refine qb ?_ _|refine qe ?_|refine qc ?_ _));exact BK167.out⟩
       have n1_ : qo ((((w23.setCell ⟨gb176,0,none⟩ (.string ((rd_T71 l0_1 x47_2).f0))).setCell ⟨gb176,1,none⟩ (.string ((rd_T71 l0_1 x47_2).f1))).setCell ⟨gb176,2,none⟩ (.int .i64 ((rd_T71 l0_1 x47_2).f2))).heap[gb176]? = some (.cells #[.string ((rd_T71 l0_1 x47_2).f0),.string ((rd_T71 l0_1 x47_2).f1),.int .i64 ((rd_T71 l0_1 x47_2).f2)] 71 (0,0))):=⟨by (with_reducible repeat (first|refine qb ?_ _|refine qe ?_|refine qc ?_ _));refine blk_put (cs:=#[.string ((rd_T71 l0_1 x47_2).f0),.string ((rd_T71 l0_1 x47_2).f1),.int .i64 0]) ?_ 2 _ rfl;(with_reducible repeat (first|refine qb ?_ _|refine qe ?_|refine qc ?_ _));refine blk_put (cs:=#[.string ((rd_T71 l0_1 x47_2).f0),.string (⟨#[]⟩ : ByteArray),.int .i64 0]) ?_ 1 _ rfl;(with_reducible repeat (first|refine qb ?_ _|refine qe ?_|refine qc ?_ _));refine blk_put (cs:=#[.string (⟨#[]⟩ : ByteArray),.string (⟨#[]⟩ : ByteArray),.int .i64 0]) ?_ 0 _ rfl;(with_reducible repeat (first|refine qb ?_ _|refine qe ?_|refine qc ?_ _));exact BK176.out⟩
       have n2_ : qo (Below w.heap.size w (((w23.setCell ⟨gb176,0,none⟩ (.string ((rd_T71 l0_1 x47_2).f0))).setCell ⟨gb176,1,none⟩ (.string ((rd_T71 l0_1 x47_2).f1))).setCell ⟨gb176,2,none⟩ (.int .i64 ((rd_T71 l0_1 x47_2).f2)))):=⟨hx_⟩
       (try clear BK167)
       (try clear BK176)
       (try clear HB)
       generalize (((w23.setCell ⟨gb176,0,none⟩ (.string ((rd_T71 l0_1 x47_2).f0))).setCell ⟨gb176,1,none⟩ (.string ((rd_T71 l0_1 x47_2).f1))).setCell ⟨gb176,2,none⟩ (.int .i64 ((rd_T71 l0_1 x47_2).f2))) = w47 at n0_ n1_ n2_ ⊢
       have BK167:=n0_
       have BK176:=n1_
       have HB:=n2_
       clear n0_ n1_ n2_
       replace BK167:=qo.mk (qe BK167.out);replace BK176:=qo.mk (qe BK176.out);replace HB:=qo.mk (qd HB.out)
       refine start_ (n:=33) (S:=fun w'=>w'.cell? ⟨gb167,0,none⟩ = some (.int .i64 a0_0) ∧ w'.cell? ⟨gb167,1,none⟩ = some (.slice (some ad175) l0_1.length c0_1) ∧ w'.cell? ⟨gb176,0,none⟩ = some (.string ((rd_T71 l0_1 x47_2).f0)) ∧ w'.cell? ⟨gb176,1,none⟩ = some (.string ((rd_T71 l0_1 x47_2).f1)) ∧ w'.cell? ⟨gb176,2,none⟩ = some (.int .i64 ((rd_T71 l0_1 x47_2).f2))) (ds:=[]) (Array.replicate 33 false) (by kernel_rfl) rfl rfl ⟨(qh BK167.out 0).trans rfl,(qh BK167.out 1).trans rfl,(qh BK176.out 0).trans rfl,(qh BK176.out 1).trans rfl,(qh BK176.out 2).trans rfl⟩ (fun hHeld=>?_);refine with_tabW impl_PageText.tab9 impl_PageText.bits9 (fun HT_ HW_=>?_)
       generalize w47.drew = w48 at BK167 BK176 HB hHeld ⊢
       refine pt_ 0 52 (bz_ 33 1) ?_
       refine tt_ 1 53 (bz_ 33 3) hHeld (hy:=Or.inl ⟨by rfl,by rintro w' ⟨s0,s1,s2,s3,s4⟩;go_simp;with_reducible rfl⟩) (h:=?_)
       refine tt_ 2 54 (bz_ 33 7) hHeld (hy:=Or.inl ⟨by rfl,by rintro w' ⟨s0,s1,s2,s3,s4⟩;go_simp;with_reducible rfl⟩) (h:=?_)
       refine one_ (i:=3) (N:=some 55) (bz_ 33 15) rfl rfl (one_of HT_.out (by kernel_rfl)) (by decide) (fun K hK=>?_)
       refine goes_ Try.func91 (by kernel_rfl) rfl #[.int .i64 a0_0,.agg #[.string ((rd_T71 l0_1 x47_2).f0),.string ((rd_T71 l0_1 x47_2).f1),.int .i64 ((rd_T71 l0_1 x47_2).f2)]] (by rfl) rfl rfl sm_ ?_
       with_reducible refine (impl_itemOk.calls a0_0 ((rd_T71 l0_1 x47_2).f0) ((rd_T71 l0_1 x47_2).f1) ((rd_T71 l0_1 x47_2).f2) true _ A26.out).mono ?_
       rintro e w49 ⟨rfl,hb⟩
       refine ⟨_,rfl,?_⟩
       replace BK167:=bb_ BK167 hb;replace BK176:=bb_ BK176 hb;replace HB:=hs_ HB hb
       (try clear hb)
       (try clear hb2)
       (try clear hk)
       (try clear hi)
       refine hK.out _ _ ⟨(qh BK167.out 0).trans rfl,(qh BK167.out 1).trans rfl,(qh BK176.out 0).trans rfl,(qh BK176.out 1).trans rfl,(qh BK176.out 2).trans rfl⟩ (fun hHeld=>?_)
       clear hK K
       refine norm_ (a':=?_) ?_ ?_
       rotate_left
       ·show Act.put _ (some 55) _ = _
        simp only [Act.put,List.setIfInBounds_toArray,List.set_cons_zero,List.set_cons_succ,i64_w,i32_w]
        rfl
       refine pt_ 4 56 (bz_ 33 31) ?_
       refine pt_ 5 57 (bz_ 33 63) ?_
       refine pt_ 6 58 (bz_ 33 127) ?_
       refine pt_ 7 59 (bz_ 33 255) ?_
       refine pt_ 8 60 (bz_ 33 511) ?_
       refine pu_ 9 61 (bz_ 33 1023) ?_
       refine pu_ 10 62 (bz_ 33 2047) ?_
       refine pu_ 11 63 (bz_ 33 4095) ?_
       refine pu_ 12 64 (bz_ 33 8191) ?_
       refine pu_ 13 65 (bz_ 33 16383) ?_
       refine pu_ 14 66 (bz_ 33 32767) ?_
       refine pu_ 15 67 (bz_ 33 65535) ?_
       refine pu_ 16 68 (bz_ 33 131071) ?_
       refine pu_ 17 69 (bz_ 33 262143) ?_
       refine pu_ 18 70 (bz_ 33 524287) ?_
       refine pt_ 19 71 (bz_ 33 1048575) ?_
       refine pt_ 20 72 (bz_ 33 2097151) ?_
       refine pt_ 21 73 (bz_ 33 4194303) ?_
       refine pt_ 22 74 (bz_ 33 8388607) ?_
       refine tt_ 23 75 (bz_ 33 16777215) hHeld (hy:=Or.inl ⟨by rfl,by rintro w' ⟨s0,s1,s2,s3,s4⟩;go_simp;with_reducible rfl⟩) (h:=?_)
       refine pt_ 24 76 (bz_ 33 33554431) ?_
       refine pt_ 25 77 (bz_ 33 67108863) ?_
       refine pt_ 26 78 (bz_ 33 134217727) ?_
       refine pt_ 27 79 (bz_ 33 268435455) ?_
       refine pt_ 28 80 (bz_ 33 536870911) ?_
       refine tt_ 29 81 (bz_ 33 1073741823) hHeld (hy:=Or.inl ⟨by rfl,by rintro w' ⟨s0,s1,s2,s3,s4⟩;go_simp;with_reducible rfl⟩) (h:=?_)
       refine pt_ 30 82 (bz_ 33 2147483647) ?_
       refine pt_ 31 83 (bz_ 33 4294967295) ?_
       refine pt_ 32 84 (bz_ 33 8589934591) ?_
       refine done_ (done_of HT_.out (by kernel_rfl)) ?_
       try go_wp2
       go_meet
       case rel=>exact ⟨_,(decide ((((rd_T71 l0_1 x47_2).f1).size : Int) > 54)),rs_,H',⟨by have:=HJ1.out;have:=HK2.out;first|omega|exact Nat.le_refl _⟩,(bx_ BK167),(bx_ BK176),⟨hx_⟩⟩
      replace c27:=Bool.eq_false_iff.mpr c27
      subst c27
      have H1 : (impl_PageText.j2 k2 x6_2 x7_2 l0_1 (l0_1.length : Int) x47_2 true a0_0 l0_1 ((rd_T71 l0_1 x47_2).f0) ((rd_T71 l0_1 x47_2).f1) ((rd_T71 l0_1 x47_2).f2)) = some (r1,r2):=by rw [if_neg (show ¬ (false = true) by decide)] at H;exact H
      clear H
      have H:=H1
      clear H1
      have H':=qo.mk H
      clear H
      try go_wp2
      have n0_ : qo ((((w23.setCell ⟨gb176,0,none⟩ (.string ((rd_T71 l0_1 x47_2).f0))).setCell ⟨gb176,1,none⟩ (.string ((rd_T71 l0_1 x47_2).f1))).setCell ⟨gb176,2,none⟩ (.int .i64 ((rd_T71 l0_1 x47_2).f2))).heap[gb167]? = some (.cells #[.int .i64 a0_0,.slice (some ad175) l0_1.length c0_1] 76 (0,0))):=⟨by (with_reducible repeat (first|refine qb ?_ _|refine qe ?_|refine qc ?_ _));refine blk_far ?_ NB167_176.out _;(with_reducible repeat (first|refine qb ?_ _|refine qe ?_|refine qc ?_ _));refine blk_far ?_ NB167_176.out _;(with_reducible repeat (first|refine qb ?_ _|refine qe ?_|refine qc ?_ _));refine blk_far ?_ NB167_176.out _;(with_reducible repeat (first|refine qb ?_ _|refine qe ?_|refine qc ?_ _));exact BK167.out⟩
      have n1_ : qo ((((w23.setCell ⟨gb176,0,none⟩ (.string ((rd_T71 l0_1 x47_2).f0))).setCell ⟨gb176,1,none⟩ (.string ((rd_T71 l0_1 x47_2).f1))).setCell ⟨gb176,2,none⟩ (.int .i64 ((rd_T71 l0_1 x47_2).f2))).heap[gb176]? = some (.cells #[.string ((rd_T71 l0_1 x47_2).f0),.string ((rd_T71 l0_1 x47_2).f1),.int .i64 ((rd_T71 l0_1 x47_2).f2)] 71 (0,0))):=⟨by (with_reducible repeat (first|refine qb ?_ _|refine qe ?_|refine qc ?_ _));refine blk_put (cs:=#[.string ((rd_T71 l0_1 x47_2).f0),.string ((rd_T71 l0_1 x47_2).f1),.int .i64 0]) ?_ 2 _ rfl;(with_reducible repeat (first|refine qb ?_ _|refine qe ?_|refine qc ?_ _));refine blk_put (cs:=#[.string ((rd_T71 l0_1 x47_2).f0),.string (⟨#[]⟩ : ByteArray),.int .i64 0]) ?_ 1 _ rfl;(with_reducible repeat (first|refine qb ?_ _|refine qe ?_|refine qc ?_ _));refine blk_put (cs:=#[.string (⟨#[]⟩ : ByteArray),.string (⟨#[]⟩ : ByteArray),.int .i64 0]) ?_ 0 _ rfl;(with_reducible repeat (first|refine qb ?_ _|refine qe ?_|refine qc ?_ _));exact BK176.out⟩
      have n2_ : qo (Below w.heap.size w (((w23.setCell ⟨gb176,0,none⟩ (.string ((rd_T71 l0_1 x47_2).f0))).setCell ⟨gb176,1,none⟩ (.string ((rd_T71 l0_1 x47_2).f1))).setCell ⟨gb176,2,none⟩ (.int .i64 ((rd_T71 l0_1 x47_2).f2)))):=⟨hx_⟩
      (try clear BK167)
      (try clear BK176)
      (try clear HB)
      generalize (((w23.setCell ⟨gb176,0,none⟩ (.string ((rd_T71 l0_1 x47_2).f0))).setCell ⟨gb176,1,none⟩ (.string ((rd_T71 l0_1 x47_2).f1))).setCell ⟨gb176,2,none⟩ (.int .i64 ((rd_T71 l0_1 x47_2).f2))) = w50 at n0_ n1_ n2_ ⊢
      have BK167:=n0_
      have BK176:=n1_
      have HB:=n2_
      clear n0_ n1_ n2_
      replace BK167:=qo.mk (qe BK167.out);replace BK176:=qo.mk (qe BK176.out);replace HB:=qo.mk (qd HB.out)
      refine start_ (n:=33) (S:=fun w'=>w'.cell? ⟨gb167,0,none⟩ = some (.int .i64 a0_0) ∧ w'.cell? ⟨gb167,1,none⟩ = some (.slice (some ad175) l0_1.length c0_1) ∧ w'.cell? ⟨gb176,0,none⟩ = some (.string ((rd_T71 l0_1 x47_2).f0)) ∧ w'.cell? ⟨gb176,1,none⟩ = some (.string ((rd_T71 l0_1 x47_2).f1)) ∧ w'.cell? ⟨gb176,2,none⟩ = some (.int .i64 ((rd_T71 l0_1 x47_2).f2))) (ds:=[]) (Array.replicate 33 false) (by kernel_rfl) rfl rfl ⟨(qh BK167.out 0).trans rfl,(qh BK167.out 1).trans rfl,(qh BK176.out 0).trans rfl,(qh BK176.out 1).trans rfl,(qh BK176.out 2).trans rfl⟩ (fun hHeld=>?_);refine with_tabW impl_PageText.tab9 impl_PageText.bits9 (fun HT_ HW_=>?_)
      generalize w50.drew = w51 at BK167 BK176 HB hHeld ⊢
      refine pt_ 0 52 (bz_ 33 1) ?_
      refine tt_ 1 53 (bz_ 33 3) hHeld (hy:=Or.inl ⟨by rfl,by rintro w' ⟨s0,s1,s2,s3,s4⟩;go_simp;with_reducible rfl⟩) (h:=?_)
      refine tt_ 2 54 (bz_ 33 7) hHeld (hy:=Or.inl ⟨by rfl,by rintro w' ⟨s0,s1,s2,s3,s4⟩;go_simp;with_reducible rfl⟩) (h:=?_)
      refine one_ (i:=3) (N:=some 55) (bz_ 33 15) rfl rfl (one_of HT_.out (by kernel_rfl)) (by decide) (fun K hK=>?_)
      refine goes_ Try.func91 (by kernel_rfl) rfl #[.int .i64 a0_0,.agg #[.string ((rd_T71 l0_1 x47_2).f0),.string ((rd_T71 l0_1 x47_2).f1),.int .i64 ((rd_T71 l0_1 x47_2).f2)]] (by rfl) rfl rfl sm_ ?_
      with_reducible refine (impl_itemOk.calls a0_0 ((rd_T71 l0_1 x47_2).f0) ((rd_T71 l0_1 x47_2).f1) ((rd_T71 l0_1 x47_2).f2) false _ A26.out).mono ?_
      rintro e w52 ⟨rfl,hb⟩
      refine ⟨_,rfl,?_⟩
      replace BK167:=bb_ BK167 hb;replace BK176:=bb_ BK176 hb;replace HB:=hs_ HB hb
      (try clear hb)
      (try clear hb2)
      (try clear hk)
      (try clear hi)
      refine hK.out _ _ ⟨(qh BK167.out 0).trans rfl,(qh BK167.out 1).trans rfl,(qh BK176.out 0).trans rfl,(qh BK176.out 1).trans rfl,(qh BK176.out 2).trans rfl⟩ (fun hHeld=>?_)
      clear hK K
      refine norm_ (a':=?_) ?_ ?_
      rotate_left
      ·show Act.put _ (some 55) _ = _
       simp only [Act.put,List.setIfInBounds_toArray,List.set_cons_zero,List.set_cons_succ,i64_w,i32_w]
       rfl
      refine pt_ 4 56 (bz_ 33 31) ?_
      refine pt_ 5 57 (bz_ 33 63) ?_
      refine pu_ 6 58 (bz_ 33 127) ?_
      refine pu_ 7 59 (bz_ 33 255) ?_
      refine pu_ 8 60 (bz_ 33 511) ?_
      refine pu_ 9 61 (bz_ 33 1023) ?_
      refine pu_ 10 62 (bz_ 33 2047) ?_
      refine pu_ 11 63 (bz_ 33 4095) ?_
      refine pu_ 12 64 (bz_ 33 8191) ?_
      refine pu_ 13 65 (bz_ 33 16383) ?_
      refine pu_ 14 66 (bz_ 33 32767) ?_
      refine pu_ 15 67 (bz_ 33 65535) ?_
      refine pu_ 16 68 (bz_ 33 131071) ?_
      refine pu_ 17 69 (bz_ 33 262143) ?_
      refine pu_ 18 70 (bz_ 33 524287) ?_
      refine pu_ 19 71 (bz_ 33 1048575) ?_
      refine pt_ 20 72 (bz_ 33 2097151) ?_
      refine pt_ 21 73 (bz_ 33 4194303) ?_
      refine pu_ 22 74 (bz_ 33 8388607) ?_
      refine pu_ 23 75 (bz_ 33 16777215) ?_
      refine pu_ 24 76 (bz_ 33 33554431) ?_
      refine pu_ 25 77 (bz_ 33 67108863) ?_
      refine pt_ 26 78 (bz_ 33 134217727) ?_
      refine pt_ 27 79 (bz_ 33 268435455) ?_
      refine pu_ 28 80 (bz_ 33 536870911) ?_
      refine pu_ 29 81 (bz_ 33 1073741823) ?_
      refine pu_ 30 82 (bz_ 33 2147483647) ?_
      refine pu_ 31 83 (bz_ 33 4294967295) ?_
      refine pt_ 32 84 (bz_ 33 8589934591) ?_
      refine done_ (done_of HT_.out (by kernel_rfl)) ?_
      try go_wp2
      go_meet
      case rel=>exact ⟨_,(true),rs_,H',⟨by have:=HJ1.out;have:=HK2.out;first|omega|exact Nat.le_refl _⟩,(bx_ BK167),(bx_ BK176),⟨hx_⟩⟩
     clear HC22
     try clear c2
     try clear p2
     try clear c4
     try clear c9
     try clear c27
     try clear c43
     try clear c43b0
     try clear c43b1
     obtain ⟨kq,x84_21,rfl,HA,HJ21,BK167,BK176,HB⟩:=hcut
     obtain _|kj21:=kq
     ·exact absurd HA.out (by simp [impl_PageText.j2])
     have H:=HA.out
     clear HA
     simp only [impl_PageText.j2] at H
     by_cases c53 : x84_21 = true
     ·subst c53
      have H1 : (some ((⟨#[]⟩ : ByteArray),false)) = some (r1,r2):=by rw [if_pos rfl] at H;exact H
      clear H
      have H:=H1
      clear H1
      simp only [Option.some.injEq,Prod.mk.injEq] at H
      obtain ⟨rfl,rfl⟩:=H
      go_wp2
      go_ret2
      exact ⟨rt_,hx_⟩
     replace c53:=Bool.eq_false_iff.mpr c53
     subst c53
     have H1 : ((impl_ItemSize.f kj21 a0_0 ((rd_T71 l0_1 x47_2).f0) ((rd_T71 l0_1 x47_2).f1) ((rd_T71 l0_1 x47_2).f2)).bind fun t179=>((impl_ShortText.f kj21 ((rd_T71 l0_1 x47_2).f0)).bind fun bt180=>((impl_ShortText.f kj21 ((rd_T71 l0_1 x47_2).f1)).bind fun bt182=>(if a0_0 = 2 then ((impl_VarText.f kj21 ((rd_T71 l0_1 x47_2).f2)).bind fun bt184=>(if bt180.1.size + bt184.1.size ≤ 9223372036854775807 then (if x6_2.size + (bt180.1 ++ bt184.1).size ≤ 9223372036854775807 then (impl_PageText.l0 kj21 (x6_2 ++ (bt180.1 ++ bt184.1)) (wrap64 (x7_2 + t179)) l0_1 (l0_1.length : Int) (wrap64 (x47_2 + 1)) a0_0 l0_1) else (none)) else (none))) else (if bt180.1.size + bt182.1.size ≤ 9223372036854775807 then (if x6_2.size + (bt180.1 ++ bt182.1).size ≤ 9223372036854775807 then (impl_PageText.l0 kj21 (x6_2 ++ (bt180.1 ++ bt182.1)) (wrap64 (x7_2 + t179)) l0_1 (l0_1.length : Int) (wrap64 (x47_2 + 1)) a0_0 l0_1) else (none)) else (none)))))) = some (r1,r2):=by rw [if_neg (show ¬ (false = true) by decide)] at H;exact H
     clear H
     have H:=H1
     clear H1
     replace H:=Option.bind_eq_some_iff.mp H
     obtain ⟨t179,A540,H⟩:=H
     replace H : ((impl_ShortText.f kj21 ((rd_T71 l0_1 x47_2).f0)).bind fun bt180=>((impl_ShortText.f kj21 ((rd_T71 l0_1 x47_2).f1)).bind fun bt182=>(if a0_0 = 2 then ((impl_VarText.f kj21 ((rd_T71 l0_1 x47_2).f2)).bind fun bt184=>(if bt180.1.size + bt184.1.size ≤ 9223372036854775807 then (if x6_2.size + (bt180.1 ++ bt184.1).size ≤ 9223372036854775807 then (impl_PageText.l0 kj21 (x6_2 ++ (bt180.1 ++ bt184.1)) (wrap64 (x7_2 + t179)) l0_1 (l0_1.length : Int) (wrap64 (x47_2 + 1)) a0_0 l0_1) else (none)) else (none))) else (if bt180.1.size + bt182.1.size ≤ 9223372036854775807 then (if x6_2.size + (bt180.1 ++ bt182.1).size ≤ 9223372036854775807 then (impl_PageText.l0 kj21 (x6_2 ++ (bt180.1 ++ bt182.1)) (wrap64 (x7_2 + t179)) l0_1 (l0_1.length : Int) (wrap64 (x47_2 + 1)) a0_0 l0_1) else (none)) else (none))))) = some (r1,r2):=H
     have A54:=qo.mk A540
     clear A540
     replace H:=Option.bind_eq_some_iff.mp H
     obtain ⟨⟨t180,t181⟩,A550,H⟩:=H
     replace H : ((impl_ShortText.f kj21 ((rd_T71 l0_1 x47_2).f1)).bind fun bt182=>(if a0_0 = 2 then ((impl_VarText.f kj21 ((rd_T71 l0_1 x47_2).f2)).bind fun bt184=>(if t180.size + bt184.1.size ≤ 9223372036854775807 then (if x6_2.size + (t180 ++ bt184.1).size ≤ 9223372036854775807 then (impl_PageText.l0 kj21 (x6_2 ++ (t180 ++ bt184.1)) (wrap64 (x7_2 + t179)) l0_1 (l0_1.length : Int) (wrap64 (x47_2 + 1)) a0_0 l0_1) else (none)) else (none))) else (if t180.size + bt182.1.size ≤ 9223372036854775807 then (if x6_2.size + (t180 ++ bt182.1).size ≤ 9223372036854775807 then (impl_PageText.l0 kj21 (x6_2 ++ (t180 ++ bt182.1)) (wrap64 (x7_2 + t179)) l0_1 (l0_1.length : Int) (wrap64 (x47_2 + 1)) a0_0 l0_1) else (none)) else (none)))) = some (r1,r2):=H
     have A55:=qo.mk A550
     clear A550
     replace H:=Option.bind_eq_some_iff.mp H
     obtain ⟨⟨t182,t183⟩,A560,H⟩:=H
     replace H : (if a0_0 = 2 then ((impl_VarText.f kj21 ((rd_T71 l0_1 x47_2).f2)).bind fun bt184=>(if t180.size + bt184.1.size ≤ 9223372036854775807 then (if x6_2.size + (t180 ++ bt184.1).size ≤ 9223372036854775807 then (impl_PageText.l0 kj21 (x6_2 ++ (t180 ++ bt184.1)) (wrap64 (x7_2 + t179)) l0_1 (l0_1.length : Int) (wrap64 (x47_2 + 1)) a0_0 l0_1) else (none)) else (none))) else (if t180.size + t182.size ≤ 9223372036854775807 then (if x6_2.size + (t180 ++ t182).size ≤ 9223372036854775807 then (impl_PageText.l0 kj21 (x6_2 ++ (t180 ++ t182)) (wrap64 (x7_2 + t179)) l0_1 (l0_1.length : Int) (wrap64 (x47_2 + 1)) a0_0 l0_1) else (none)) else (none))) = some (r1,r2):=H
     have A56:=qo.mk A560
     clear A560
     by_cases c57 : a0_0 = 2
     ·rw [if_pos c57] at H
      have c57b0 : (a0_0 == 2) = true:=beq_iff_eq.mpr c57
      have c57b1 : (a0_0 != 2) = false:=bne_eq_false_iff_eq.mpr c57
      clear c57
      replace H:=Option.bind_eq_some_iff.mp H
      obtain ⟨⟨t184,t185⟩,A580,H⟩:=H
      replace H : (if t180.size + t184.size ≤ 9223372036854775807 then (if x6_2.size + (t180 ++ t184).size ≤ 9223372036854775807 then (impl_PageText.l0 kj21 (x6_2 ++ (t180 ++ t184)) (wrap64 (x7_2 + t179)) l0_1 (l0_1.length : Int) (wrap64 (x47_2 + 1)) a0_0 l0_1) else (none)) else (none)) = some (r1,r2):=H
      have A58:=qo.mk A580
      clear A580
      by_cases c59 : t180.size + t184.size ≤ 9223372036854775807
      ·rw [if_pos c59] at H
       have c59b0:=eq_true c59
       have c59b1 : decide (t180.size + t184.size ≤ 9223372036854775807) = true:=decide_eq_true c59
       try have c59b2 : (9223372036854775807 < t180.size + t184.size) = False:=eq_false (Nat.not_lt.2 c59)
       by_cases c60 : x6_2.size + (t180 ++ t184).size ≤ 9223372036854775807
       ·rw [if_pos c60] at H
        have c60b0:=eq_true c60
        have c60b1 : decide (x6_2.size + (t180 ++ t184).size ≤ 9223372036854775807) = true:=decide_eq_true c60
        try have c60b2 : (9223372036854775807 < x6_2.size + (t180 ++ t184).size) = False:=eq_false (Nat.not_lt.2 c60)
        have H':=qo.mk H
        clear H
        have hnb61:=NB167_176.out
        have hnc61:=NB176_167.out
        obtain ⟨hcz62_0,hcz62_1,hfz62_0,hfz62_1⟩:=c2f_ BK167.out
        obtain ⟨hcz63_0,hcz63_1,hcz63_2,hfz63_0,hfz63_1,hfz63_2⟩:=c3f_ BK176.out
        go_wp2_with (first|((with_reducible refine gate_callee (f:=69) rfl ?_);refine goesL_ (some 89) rfl rfl Try.func69 (by kernel_rfl) rfl #[.int .i64 a0_0,.agg #[.string ((rd_T71 l0_1 x47_2).f0),.string ((rd_T71 l0_1 x47_2).f1),.int .i64 ((rd_T71 l0_1 x47_2).f2)]] rfl sm_ ?_;(with_reducible refine (impl_ItemSize.calls kj21 a0_0 ((rd_T71 l0_1 x47_2).f0) ((rd_T71 l0_1 x47_2).f1) ((rd_T71 l0_1 x47_2).f2) t179 _ A54.out).mono ?_);rintro e w64 ⟨rfl,hb⟩;refine ⟨_,rfl,?_⟩;replace BK167:=bb_ BK167 hb;replace BK176:=bb_ BK176 hb;replace HB:=hs_ HB hb;(try clear hb);(try clear hb2);(try clear hk);(try clear hi);obtain ⟨hcz65_0,hcz65_1,hcz65_2,hfz65_0,hfz65_1,hfz65_2⟩:=c3f_ BK176.out)|((with_reducible refine gate_callee (f:=88) rfl ?_);refine goesL_ (some 94) rfl rfl Try.func88 (by kernel_rfl) rfl #[.string ((rd_T71 l0_1 x47_2).f0)] rfl sm_ ?_;(with_reducible refine (impl_ShortText.calls kj21 ((rd_T71 l0_1 x47_2).f0) t180 t181 _ A55.out).mono ?_);rintro e w66 ⟨rfl,hb⟩;refine ⟨_,rfl,?_⟩;replace BK167:=bb_ BK167 hb;replace BK176:=bb_ BK176 hb;replace HB:=hs_ HB hb;(try clear hb);(try clear hb2);(try clear hk);(try clear hi);obtain ⟨hcz67_0,hcz67_1,hcz67_2,hfz67_0,hfz67_1,hfz67_2⟩:=c3f_ BK176.out)|((with_reducible refine gate_callee (f:=88) rfl ?_);refine goesL_ (some 100) rfl rfl Try.func88 (by kernel_rfl) rfl #[.string ((rd_T71 l0_1 x47_2).f1)] rfl sm_ ?_;(with_reducible refine (impl_ShortText.calls kj21 ((rd_T71 l0_1 x47_2).f1) t182 t183 _ A56.out).mono ?_);rintro e w68 ⟨rfl,hb⟩;refine ⟨_,rfl,?_⟩;replace BK167:=bb_ BK167 hb;replace BK176:=bb_ BK176 hb;replace HB:=hs_ HB hb;(try clear hb);(try clear hb2);(try clear hk);(try clear hi);obtain ⟨hcz69_0,hcz69_1,hfz69_0,hfz69_1⟩:=c2f_ BK167.out;obtain ⟨hcz70_0,hcz70_1,hcz70_2,hfz70_0,hfz70_1,hfz70_2⟩:=c3f_ BK176.out)|((with_reducible refine gate_callee (f:=89) rfl ?_);refine goesL_ (some 109) rfl rfl Try.func89 (by kernel_rfl) rfl #[.int .i64 ((rd_T71 l0_1 x47_2).f2)] rfl sm_ ?_;(with_reducible refine (impl_VarText.calls kj21 ((rd_T71 l0_1 x47_2).f2) t184 t185 _ A58.out).mono ?_);rintro e w71 ⟨rfl,hb⟩;refine ⟨_,rfl,?_⟩;replace BK167:=bb_ BK167 hb;replace BK176:=bb_ BK176 hb;replace HB:=hs_ HB hb;(try clear hb);(try clear hb2);(try clear hk);(try clear hi)))
        go_roundg kj21
        case measure=>have:=HJ1.out;have:=HK2.out;have:=HJ21.out;omega
        case rel=>exact ⟨(x6_2 ++ (t180 ++ t184)),(wrap64 (x7_2 + t179)),(wrap64 (x47_2 + 1)),rs_,rs_,rs_,H',⟨by have:=HJ1.out;have:=HK2.out;have:=HJ21.out;omega⟩,(bx_ BK167),⟨hx_⟩⟩
       rw [if_neg c60] at H
       exact absurd H (by simp)
      rw [if_neg c59] at H
      exact absurd H (by simp)
     rw [if_neg c57] at H
     have c57b0 : (a0_0 == 2) = false:=beq_eq_false_iff_ne.mpr c57
     have c57b1 : (a0_0 != 2) = true:=bne_iff_ne.mpr c57
     by_cases c72 : t180.size + t182.size ≤ 9223372036854775807
     ·rw [if_pos c72] at H
      have c72b0:=eq_true c72
      have c72b1 : decide (t180.size + t182.size ≤ 9223372036854775807) = true:=decide_eq_true c72
      try have c72b2 : (9223372036854775807 < t180.size + t182.size) = False:=eq_false (Nat.not_lt.2 c72)
      by_cases c73 : x6_2.size + (t180 ++ t182).size ≤ 9223372036854775807
      ·rw [if_pos c73] at H
       have c73b0:=eq_true c73
       have c73b1 : decide (x6_2.size + (t180 ++ t182).size ≤ 9223372036854775807) = true:=decide_eq_true c73
       try have c73b2 : (9223372036854775807 < x6_2.size + (t180 ++ t182).size) = False:=eq_false (Nat.not_lt.2 c73)
       have H':=qo.mk H
       clear H
       have hnb74:=NB167_176.out
       have hnc74:=NB176_167.out
       obtain ⟨hcz75_0,hcz75_1,hfz75_0,hfz75_1⟩:=c2f_ BK167.out
       obtain ⟨hcz76_0,hcz76_1,hcz76_2,hfz76_0,hfz76_1,hfz76_2⟩:=c3f_ BK176.out
       go_wp2_with (first|((with_reducible refine gate_callee (f:=69) rfl ?_);refine goesL_ (some 89) rfl rfl Try.func69 (by kernel_rfl) rfl #[.int .i64 a0_0,.agg #[.string ((rd_T71 l0_1 x47_2).f0),.string ((rd_T71 l0_1 x47_2).f1),.int .i64 ((rd_T71 l0_1 x47_2).f2)]] rfl sm_ ?_;(with_reducible refine (impl_ItemSize.calls kj21 a0_0 ((rd_T71 l0_1 x47_2).f0) ((rd_T71 l0_1 x47_2).f1) ((rd_T71 l0_1 x47_2).f2) t179 _ A54.out).mono ?_);rintro e w77 ⟨rfl,hb⟩;refine ⟨_,rfl,?_⟩;replace BK167:=bb_ BK167 hb;replace BK176:=bb_ BK176 hb;replace HB:=hs_ HB hb;(try clear hb);(try clear hb2);(try clear hk);(try clear hi);obtain ⟨hcz78_0,hcz78_1,hcz78_2,hfz78_0,hfz78_1,hfz78_2⟩:=c3f_ BK176.out)|((with_reducible refine gate_callee (f:=88) rfl ?_);refine goesL_ (some 94) rfl rfl Try.func88 (by kernel_rfl) rfl #[.string ((rd_T71 l0_1 x47_2).f0)] rfl sm_ ?_;(with_reducible refine (impl_ShortText.calls kj21 ((rd_T71 l0_1 x47_2).f0) t180 t181 _ A55.out).mono ?_);rintro e w79 ⟨rfl,hb⟩;refine ⟨_,rfl,?_⟩;replace BK167:=bb_ BK167 hb;replace BK176:=bb_ BK176 hb;replace HB:=hs_ HB hb;(try clear hb);(try clear hb2);(try clear hk);(try clear hi);obtain ⟨hcz80_0,hcz80_1,hcz80_2,hfz80_0,hfz80_1,hfz80_2⟩:=c3f_ BK176.out)|((with_reducible refine gate_callee (f:=88) rfl ?_);refine goesL_ (some 100) rfl rfl Try.func88 (by kernel_rfl) rfl #[.string ((rd_T71 l0_1 x47_2).f1)] rfl sm_ ?_;(with_reducible refine (impl_ShortText.calls kj21 ((rd_T71 l0_1 x47_2).f1) t182 t183 _ A56.out).mono ?_);rintro e w81 ⟨rfl,hb⟩;refine ⟨_,rfl,?_⟩;replace BK167:=bb_ BK167 hb;replace BK176:=bb_ BK176 hb;replace HB:=hs_ HB hb;(try clear hb);(try clear hb2);(try clear hk);(try clear hi);obtain ⟨hcz82_0,hcz82_1,hfz82_0,hfz82_1⟩:=c2f_ BK167.out))
       go_roundg kj21
       case measure=>have:=HJ1.out;have:=HK2.out;have:=HJ21.out;omega
       case rel=>exact ⟨(x6_2 ++ (t180 ++ t182)),(wrap64 (x7_2 + t179)),(wrap64 (x47_2 + 1)),rs_,rs_,rs_,H',⟨by have:=HJ1.out;have:=HK2.out;have:=HJ21.out;omega⟩,(bx_ BK167),⟨hx_⟩⟩
      rw [if_neg c73] at H
      exact absurd H (by simp)
     rw [if_neg c72] at H
     exact absurd H (by simp)
    rw [if_neg c21] at H
    exact absurd H (by simp)
   rw [if_neg c20] at H
   exact absurd H (by simp)
  rw [if_neg c19] at H
  have c19b0 : decide (x47_2 < (l0_1.length : Int)) = false:=decide_eq_false c19
  clear c19
  by_cases c83 : x7_2 > 54
  ·rw [if_pos c83] at H
   have c83b0 : decide (54 < x7_2) = true:=decide_eq_true c83
   clear c83
   simp only [Option.some.injEq,Prod.mk.injEq] at H
   obtain ⟨rfl,rfl⟩:=H
   go_wp2
   go_ret2
   exact ⟨rt_,hx_⟩
  rw [if_neg c83] at H
  have c83b0 : decide (54 < x7_2) = false:=decide_eq_false c83
  clear c83
  replace H:=Option.bind_eq_some_iff.mp H
  obtain ⟨⟨t173,t174⟩,A840,H⟩:=H
  replace H : (some (t173,t174)) = some (r1,r2):=H
  have A84:=qo.mk A840
  clear A840
  simp only [Option.some.injEq,Prod.mk.injEq] at H
  obtain ⟨rfl,rfl⟩:=H
  go_wp2_with (first|((with_reducible refine gate_callee (f:=92) rfl ?_);refine goesL_ (some 122) rfl rfl Try.func92 (by kernel_rfl) rfl #[.string x6_2] rfl sm_ ?_;(with_reducible refine (impl_Sealed.calls k2 x6_2 t173 t174 _ A84.out).mono ?_);rintro e w85 ⟨rfl,hb⟩;refine ⟨_,rfl,?_⟩;replace BK167:=bb_ BK167 hb;replace HB:=hs_ HB hb;(try clear hb);(try clear hb2);(try clear hk);(try clear hi)))
  go_ret2
  exact ⟨rt_,hx_⟩
 rw [if_neg c11] at H
 exact absurd H (by simp)

end Go.Proofs.Ytcnoccefdejphaa.QFnTrees
