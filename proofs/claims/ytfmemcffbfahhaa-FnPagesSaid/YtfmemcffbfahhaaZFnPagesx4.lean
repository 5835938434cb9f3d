/- Lean functions for the Go functions that the law FnPages reaches, and that each Go function comes to just its Lean function's answer; by a program of this session. -/
import Derived.Test.YtfmemcffbfahhaaZFnPagesx0
import Derived.Test.YtfmemcffbfahhaaZFnPagesx2
import Derived.Test.YtfmemcffbfahhaaZFnPagesx3
namespace Go.Proofs.Ytfmemcffbfahhaa.QFnPages
open Go.RowKit Go.Proofs.YtfmemcffbfahhaaW.PrintWords Go.Proofs.YtfmemcffbfahhaaW.PrintLast Go.Proofs.YtfmemcffbfahhaaW.PrintMore
attribute [local go_sem] max2_int min2_int max_two min_two max_three min_three max_four min_four   -- for this text's walks alone
set_option linter.unusedVariables false
set_option linter.unusedSimpArgs false

/-! ### impl_PageText: function 52 -/
mutual
def impl_PageText.j0 : Nat → Bool → Int → List (S61) → Option (ByteArray × Bool)
 | 0,_,_,_=>none
 | k + 1,x29,x162000,x162001=>if x29 = true then (some ((⟨#[]⟩ : ByteArray),false)) else ((impl_VarText.f k (x162001.length : Int)).bind fun bt162=>((some (([(x162000) % 256] : List Int) : List Int)).bind fun y164=>(if (strOfNums y164).size + bt162.1.size ≤ 9223372036854775807 then (impl_PageText.l0 k ((strOfNums y164) ++ bt162.1) 0 x162001 (x162001.length : Int) 0 x162000 x162001) else (none))))
def impl_PageText.l0 : Nat → ByteArray → Int → List (S61) → Int → Int → Int → List (S61) → Option (ByteArray × Bool)
 | 0,_,_,_,_,_,_,_=>none
 | k + 1,x6,x7,x45,x46,x47,x162000,x162001=>if x47 < x46 then (if 0 ≤ x47 then (if x47 < (x45.length : Int) then ((impl_itemOk.f x162000 ((rd_T61 x45 x47).f0) ((rd_T61 x45 x47).f1) ((rd_T61 x45 x47).f2)).bind fun t171=>(if t171 = true then (if x47 > 0 then (if 0 ≤ (wrap64 (x47 - 1)) then (if (wrap64 (x47 - 1)) < (x162001.length : Int) then (if ((Op.bytesLess (((rd_T61 x162001 (wrap64 (x47 - 1))).f0).toList) (((rd_T61 x45 x47).f0).toList)) = true) then (if (((rd_T61 x45 x47).f0).size : Int) > 54 then (impl_PageText.j2 k x6 x7 x45 x46 x47 true x162000 x162001 ((rd_T61 x45 x47).f0) ((rd_T61 x45 x47).f1) ((rd_T61 x45 x47).f2)) else (impl_PageText.j2 k x6 x7 x45 x46 x47 (decide ((((rd_T61 x45 x47).f1).size : Int) > 54)) x162000 x162001 ((rd_T61 x45 x47).f0) ((rd_T61 x45 x47).f1) ((rd_T61 x45 x47).f2))) else (impl_PageText.j2 k x6 x7 x45 x46 x47 true x162000 x162001 ((rd_T61 x45 x47).f0) ((rd_T61 x45 x47).f1) ((rd_T61 x45 x47).f2))) else (none)) else (none)) else (if (((rd_T61 x45 x47).f0).size : Int) > 54 then (impl_PageText.j2 k x6 x7 x45 x46 x47 true x162000 x162001 ((rd_T61 x45 x47).f0) ((rd_T61 x45 x47).f1) ((rd_T61 x45 x47).f2)) else (impl_PageText.j2 k x6 x7 x45 x46 x47 (decide ((((rd_T61 x45 x47).f1).size : Int) > 54)) x162000 x162001 ((rd_T61 x45 x47).f0) ((rd_T61 x45 x47).f1) ((rd_T61 x45 x47).f2)))) else (impl_PageText.j2 k x6 x7 x45 x46 x47 true x162000 x162001 ((rd_T61 x45 x47).f0) ((rd_T61 x45 x47).f1) ((rd_T61 x45 x47).f2)))) else (none)) else (none)) else (if x7 > 54 then (some ((⟨#[]⟩ : ByteArray),false)) else ((impl_Sealed.f k x6).bind fun bt167=>(some (bt167.1,bt167.2))))
def impl_PageText.j2 : Nat → ByteArray → Int → List (S61) → Int → Int → Bool → Int → List (S61) → ByteArray → ByteArray → Int → Option (ByteArray × Bool)
 | 0,_,_,_,_,_,_,_,_,_,_,_=>none
 | k + 1,x6,x7,x45,x46,x47,x84,x162000,x162001,x171000,x171001,x171002=>if x84 = true then (some ((⟨#[]⟩ : ByteArray),false)) else ((impl_ItemSize.f k x162000 x171000 x171001 x171002).bind fun t173=>((impl_ShortText.f k x171000).bind fun bt174=>((impl_ShortText.f k x171001).bind fun bt176=>(if x162000 = 2 then ((impl_VarText.f k x171002).bind fun bt178=>(if bt174.1.size + bt178.1.size ≤ 9223372036854775807 then (if x6.size + (bt174.1 ++ bt178.1).size ≤ 9223372036854775807 then (impl_PageText.l0 k (x6 ++ (bt174.1 ++ bt178.1)) (wrap64 (x7 + t173)) x45 x46 (wrap64 (x47 + 1)) x162000 x162001) else (none)) else (none))) else (if bt174.1.size + bt176.1.size ≤ 9223372036854775807 then (if x6.size + (bt174.1 ++ bt176.1).size ≤ 9223372036854775807 then (impl_PageText.l0 k (x6 ++ (bt174.1 ++ bt176.1)) (wrap64 (x7 + t173)) x45 x46 (wrap64 (x47 + 1)) x162000 x162001) else (none)) else (none))))))
end
def impl_PageText.f (k : Nat) (a0_0 : Int) (l0_1 : List (S61)) : Option (ByteArray × Bool):=if a0_0 = 1 then (impl_PageText.j0 k ((l0_1.length : Int) == 0) a0_0 l0_1) else (if a0_0 = 2 then (impl_PageText.j0 k ((l0_1.length : Int) == 0) a0_0 l0_1) else (impl_PageText.j0 k true a0_0 l0_1))
theorem impl_PageText.mono_l : ∀ k,(∀ y0 y1 y2,LeO (impl_PageText.j0 k y0 y1 y2) (impl_PageText.j0 (k + 1) y0 y1 y2)) ∧ (∀ y0 y1 y2 y3 y4 y5 y6,LeO (impl_PageText.l0 k y0 y1 y2 y3 y4 y5 y6) (impl_PageText.l0 (k + 1) y0 y1 y2 y3 y4 y5 y6)) ∧ (∀ y0 y1 y2 y3 y4 y5 y6 y7 y8 y9 y10,LeO (impl_PageText.j2 k y0 y1 y2 y3 y4 y5 y6 y7 y8 y9 y10) (impl_PageText.j2 (k + 1) y0 y1 y2 y3 y4 y5 y6 y7 y8 y9 y10))
 | 0=>⟨fun _ _ _ r h=>by simp [impl_PageText.j0] at h,fun _ _ _ _ _ _ _ r h=>by simp [impl_PageText.l0] at h,fun _ _ _ _ _ _ _ _ _ _ _ r h=>by simp [impl_PageText.j2] at h⟩
 | k + 1=>by
  obtain ⟨ih0,ih1,ih2⟩:=impl_PageText.mono_l k
  refine ⟨?_,?_,?_⟩
  ·intro y0 y1 y2
   unfold impl_PageText.j0
   repeat' first
   | (with_reducible exact ih0 _ _ _)
   | (with_reducible exact ih1 _ _ _ _ _ _ _)
   | (with_reducible exact ih2 _ _ _ _ _ _ _ _ _ _ _)
   | (with_reducible exact impl_ItemSize.mono _ _ _ _ _)
   | (with_reducible exact impl_Sealed.mono _ _)
   | (with_reducible exact impl_ShortText.mono _ _)
   | (with_reducible exact impl_VarText.mono _ _)
   | (with_reducible exact LeO.refl _)
   | (with_reducible exact LeO.none _)
   | (with_reducible refine LeO.ite ?_ ?_)
   | (with_reducible refine LeO.bind ?_ (fun _=>?_))
   | exact ih0 _ _ _
   | exact ih1 _ _ _ _ _ _ _
   | exact ih2 _ _ _ _ _ _ _ _ _ _ _
   | exact impl_ItemSize.mono _ _ _ _ _
   | exact impl_Sealed.mono _ _
   | exact impl_ShortText.mono _ _
   | exact impl_VarText.mono _ _
   | exact LeO.none _
   | refine LeO.ite ?_ ?_
   | refine LeO.bind ?_ (fun _=>?_)
  ·intro y0 y1 y2 y3 y4 y5 y6
   unfold impl_PageText.l0
   repeat' first
   | (with_reducible exact ih0 _ _ _)
   | (with_reducible exact ih1 _ _ _ _ _ _ _)
   | (with_reducible exact ih2 _ _ _ _ _ _ _ _ _ _ _)
   | (with_reducible exact impl_ItemSize.mono _ _ _ _ _)
   | (with_reducible exact impl_Sealed.mono _ _)
   | (with_reducible exact impl_ShortText.mono _ _)
   | (with_reducible exact impl_VarText.mono _ _)
   | (with_reducible exact LeO.refl _)
   | (with_reducible exact LeO.none _)
   | (with_reducible refine LeO.ite ?_ ?_)
   | (with_reducible refine LeO.bind ?_ (fun _=>?_))
   | exact ih0 _ _ _
   | exact ih1 _ _ _ _ _ _ _
   | exact ih2 _ _ _ _ _ _ _ _ _ _ _
   | exact impl_ItemSize.mono _ _ _ _ _
   | exact impl_Sealed.mono _ _
   | exact impl_ShortText.mono _ _
   | exact impl_VarText.mono _ _
   | exact LeO.none _
   | refine LeO.ite ?_ ?_
   | refine LeO.bind ?_ (fun _=>?_)
  ·intro y0 y1 y2 y3 y4 y5 y6 y7 y8 y9 y10
   unfold impl_PageText.j2
   repeat' first
   | (with_reducible exact ih0 _ _ _)
   | (with_reducible exact ih1 _ _ _ _ _ _ _)
   | (with_reducible exact ih2 _ _ _ _ _ _ _ _ _ _ _)
   | (with_reducible exact impl_ItemSize.mono _ _ _ _ _)
   | (with_reducible exact impl_Sealed.mono _ _)
   | (with_reducible exact impl_ShortText.mono _ _)
   | (with_reducible exact impl_VarText.mono _ _)
   | (with_reducible exact LeO.refl _)
   | (with_reducible exact LeO.none _)
   | (with_reducible refine LeO.ite ?_ ?_)
   | (with_reducible refine LeO.bind ?_ (fun _=>?_))
   | exact ih0 _ _ _
   | exact ih1 _ _ _ _ _ _ _
   | exact ih2 _ _ _ _ _ _ _ _ _ _ _
   | exact impl_ItemSize.mono _ _ _ _ _
   | exact impl_Sealed.mono _ _
   | exact impl_ShortText.mono _ _
   | exact impl_VarText.mono _ _
   | exact LeO.none _
   | refine LeO.ite ?_ ?_
   | refine LeO.bind ?_ (fun _=>?_)
theorem impl_PageText.mono : ∀ a0 a1 k,LeO (impl_PageText.f k a0 a1) (impl_PageText.f (k + 1) a0 a1):=by
 intro a0 a1 k
 obtain ⟨ih0,ih1,ih2⟩:=impl_PageText.mono_l k
 unfold impl_PageText.f
 repeat' first
   | (with_reducible exact ih0 _ _ _)
   | (with_reducible exact ih1 _ _ _ _ _ _ _)
   | (with_reducible exact ih2 _ _ _ _ _ _ _ _ _ _ _)
   | (with_reducible exact impl_ItemSize.mono _ _ _ _ _)
   | (with_reducible exact impl_Sealed.mono _ _)
   | (with_reducible exact impl_ShortText.mono _ _)
   | (with_reducible exact impl_VarText.mono _ _)
   | (with_reducible exact LeO.refl _)
   | (with_reducible exact LeO.none _)
   | (with_reducible refine LeO.ite ?_ ?_)
   | (with_reducible refine LeO.bind ?_ (fun _=>?_))
   | exact ih0 _ _ _
   | exact ih1 _ _ _ _ _ _ _
   | exact ih2 _ _ _ _ _ _ _ _ _ _ _
   | exact impl_ItemSize.mono _ _ _ _ _
   | exact impl_Sealed.mono _ _
   | exact impl_ShortText.mono _ _
   | exact impl_VarText.mono _ _
   | exact LeO.none _
   | refine LeO.ite ?_ ?_
   | refine LeO.bind ?_ (fun _=>?_)
def impl_PageText.T9 : Bool × List (List Nat × List Nat):=(true,[([],[]),([0],[0]),([],[]),([1,2],[1,2]),([3],[3]),([4,3],[4]),([5],[5]),([6,5],[5,6]),([7,5,5],[5,7]),([8],[8]),([9,8],[8,9]),([8],[8]),([11,8],[8,11]),([10,12,8],[8,10,12]),([13,8],[8,13]),([14,8],[8,14]),([8],[8]),([16,8],[8,16]),([15,17,8],[8,15,17]),([8,18,5],[5,8,18]),([5,19],[5,19]),([20,8],[20]),([21],[21]),([22,21],[21,22]),([23,21],[21,23]),([24,21],[21,24]),([21,25],[21,25]),([26,21],[26]),([27],[27]),([28,27],[27,28]),([29,27],[27,29]),([30,27],[27,30]),([27,31],[27,31])])
def impl_PageText.B9 : List Nat:=[0,1,0,7,15,31,63,127,255,511,1023,511,2559,8191,16383,32767,511,66047,262143,524287,1048575,2097151,4194303,8388607,16777215,33554431,67108863,134217727,268435455,536870911,1073741823,2147483647,4294967295]
theorem impl_PageText.tab9 : rtab .any (opsOf Try.f52 9) = impl_PageText.T9:=by kernel_rfl
theorem impl_PageText.bits9 : waitsOk impl_PageText.T9.2 impl_PageText.B9 = true:=by kernel_rfl
set_option maxHeartbeats 8000000 in
set_option maxRecDepth 100000 in
theorem impl_PageText.calls (k : Nat) (a0_0 : Int) (A0_1 : Option Addr) (c0_1 : Nat) (l0_1 : List (S61)) (r1 : ByteArray) (r2 : Bool) (w : World) (hr0_1 : Kd.C k61 w A0_1 l0_1.length l0_1) (hc0_1 : l0_1.length ≤ c0_1) (h : impl_PageText.f k a0_0 l0_1 = some (r1,r2)) :
  Calls Try.prog 52 #[.agg #[.int .i64 a0_0,.slice A0_1 l0_1.length c0_1]] w fun e w'=>e = .returned (.tuple #[.string r1,.bool r2]) ∧ Below w.heap.size w w':=by
 have hu50:=Try.underlying50
 have hu61:=Try.underlying61
 have HR0_1:=qn.mk hr0_1
 have HC0_1:=qn.mk hc0_1
 clear hr0_1 hc0_1
 have HB:=qn.mk (Below.refl w.heap.size w)
 have H : (if a0_0 = 1 then (impl_PageText.j0 k ((l0_1.length : Int) == 0) a0_0 l0_1) else (if a0_0 = 2 then (impl_PageText.j0 k ((l0_1.length : Int) == 0) a0_0 l0_1) else (impl_PageText.j0 k true a0_0 l0_1))) = some (r1,r2):=h
 clear h
 have HC2:=qn.mk H
 clear H
 go_enter Try.func52,Try.ntmps52
 go_upto_region 1 with (first|((with_reducible refine gate_dst (N:=1) rfl ?_);(try (refine gate_guard (by rfl) ?_;dsimp only));refine box_event ?hg (N:=1) ?hd (cs:=#[.int .i64 a0_0,.slice A0_1 l0_1.length c0_1]) (t:=50) ?hr ?_;(case hd=>rfl);(case hg=>rfl);(case hr=>first|(go_simp;done)|(go_simp;rfl));intro gb161 hg w3 hbox hb;have n0_:=hs_ HB hb;have n1_:=qn.mk (hbox);have n2_:=qn.mk ((by rw [hg];exact (qj (by repeat (first|(with_reducible first|exact HB.out|apply qf|apply qa|apply qd)|exact HB.out))) : w.heap.size ≤ gb161));have n3_:=qn.mk ((by rw [hg];exact (qj (by repeat (first|(with_reducible first|exact HB.out|apply qf|apply qa|apply qd)|exact HB.out))) : w.heap.size ≤ gb161));clear HB;have HB:=n0_;have BK161:=n1_;have GW161:=n2_;have GE161:=n3_;clear n0_ n1_ n2_ n3_;clear hb hbox hg))
 (try simp only [Act.put,List.setIfInBounds_toArray,List.set_cons_zero,List.set_cons_succ])
 go_cut [29] (fun v29 wc=>∃ (kq : Nat) (x29_1 : Bool),v29 = .bool x29_1 ∧ qn (impl_PageText.j0 kq x29_1 a0_0 l0_1 = some (r1,r2)) ∧ qn (kq ≤ k) ∧ qn (wc.heap[gb161]? = some (.cells #[.int .i64 a0_0,(.slice A0_1 l0_1.length c0_1)] 50 (0,0))) ∧ qn (Below w.heap.size w wc))
 case first =>
  have H:=HC2.out
  clear HC2
  by_cases c4 : a0_0 = 1
  ·rw [if_pos c4] at H
   have c4b0 : (a0_0 == 1) = true:=beq_iff_eq.mpr c4
   have c4b1 : (a0_0 != 1) = false:=bne_eq_false_iff_eq.mpr c4
   clear c4
   (first|rw [c4b0]|(simp only [i64_w,i32_w];rw [c4b0])|skip)
   have H':=qn.mk H
   clear H
   have hcz5_0 : w3.cell? ⟨gb161,0,none⟩ = some (.int .i64 a0_0):=(qh BK161.out 0).trans rfl
   have hcz5_1 : w3.cell? ⟨gb161,1,none⟩ = some (.slice A0_1 l0_1.length c0_1):=(qh BK161.out 1).trans rfl
   have hfz5_0:=qi BK161.out 0
   have hfz5_1:=qi BK161.out 1
   go_wp2
   go_meet
   case rel=>exact ⟨_,(((l0_1.length : Int) == 0)),(by first|rfl|(simp;done)|(simp [*];done)),H',⟨by first|omega|exact Nat.le_refl _⟩,⟨by (with_reducible repeat (first|refine qb ?_ _|refine qe ?_|refine qc ?_ _));exact BK161.out⟩,⟨by repeat (first|(with_reducible first|exact HB.out|apply qf|apply qa|apply qd|refine qg ?_ GE161.out)|exact HB.out)⟩⟩
  ·rw [if_neg c4] at H
   have c4b0 : (a0_0 == 1) = false:=beq_eq_false_iff_ne.mpr c4
   have c4b1 : (a0_0 != 1) = true:=bne_iff_ne.mpr c4
   (first|rw [c4b0]|(simp only [i64_w,i32_w];rw [c4b0])|skip)
   by_cases c6 : a0_0 = 2
   ·rw [if_pos c6] at H
    have c6b0 : (a0_0 == 2) = true:=beq_iff_eq.mpr c6
    have c6b1 : (a0_0 != 2) = false:=bne_eq_false_iff_eq.mpr c6
    clear c6
    have H':=qn.mk H
    clear H
    have hcz7_0 : w3.cell? ⟨gb161,0,none⟩ = some (.int .i64 a0_0):=(qh BK161.out 0).trans rfl
    have hcz7_1 : w3.cell? ⟨gb161,1,none⟩ = some (.slice A0_1 l0_1.length c0_1):=(qh BK161.out 1).trans rfl
    have hfz7_0:=qi BK161.out 0
    have hfz7_1:=qi BK161.out 1
    go_wp2
    go_meet
    case rel=>exact ⟨_,(((l0_1.length : Int) == 0)),(by first|rfl|(simp;done)|(simp [*];done)),H',⟨by first|omega|exact Nat.le_refl _⟩,⟨by (with_reducible repeat (first|refine qb ?_ _|refine qe ?_|refine qc ?_ _));exact BK161.out⟩,⟨by repeat (first|(with_reducible first|exact HB.out|apply qf|apply qa|apply qd|refine qg ?_ GE161.out)|exact HB.out)⟩⟩
   ·rw [if_neg c6] at H
    have c6b0 : (a0_0 == 2) = false:=beq_eq_false_iff_ne.mpr c6
    have c6b1 : (a0_0 != 2) = true:=bne_iff_ne.mpr c6
    have H':=qn.mk H
    clear H
    have hcz8_0 : w3.cell? ⟨gb161,0,none⟩ = some (.int .i64 a0_0):=(qh BK161.out 0).trans rfl
    have hcz8_1 : w3.cell? ⟨gb161,1,none⟩ = some (.slice A0_1 l0_1.length c0_1):=(qh BK161.out 1).trans rfl
    have hfz8_0:=qi BK161.out 0
    have hfz8_1:=qi BK161.out 1
    go_wp2
    go_meet
    case rel=>exact ⟨_,(true),(by first|rfl|(simp;done)|(simp [*];done)),H',⟨by first|omega|exact Nat.le_refl _⟩,⟨by (with_reducible repeat (first|refine qb ?_ _|refine qe ?_|refine qc ?_ _));exact BK161.out⟩,⟨by repeat (first|(with_reducible first|exact HB.out|apply qf|apply qa|apply qd|refine qg ?_ GE161.out)|exact HB.out)⟩⟩
 case rest =>
  clear HC2
  try clear p2
  try clear c4
  try clear c4b0
  try clear c4b1
  try clear c5
  try clear c6
  try clear c6b0
  try clear c6b1
  try clear hcz5_0
  try clear hcz5_1
  try clear hcz7_0
  try clear hcz7_1
  try clear hcz8_0
  try clear hcz8_1
  try clear hfz5_0
  try clear hfz5_1
  try clear hfz7_0
  try clear hfz7_1
  try clear hfz8_0
  try clear hfz8_1
  obtain ⟨kq,x29_1,rfl,HA,HJ1,BK161,HB⟩:=hcut
  cases kq with
  | zero=>exact absurd HA.out (by simp [impl_PageText.j0])
  | succ kj1 =>
   have H:=HA.out
   clear HA
   simp only [impl_PageText.j0] at H
   by_cases c9 : x29_1 = true
   ·subst c9
    have H1 : (some ((⟨#[]⟩ : ByteArray),false)) = some (r1,r2):=by rw [if_pos rfl] at H;exact H
    clear H
    have H:=H1
    clear H1
    simp only [Option.some.injEq,Prod.mk.injEq] at H
    obtain ⟨rfl,rfl⟩:=H
    go_wp2
    go_ret2
    exact ⟨by first|rfl|(simp [errW_none,errW_some] <;> rfl)|(simp [*,errW_none,errW_some] <;> rfl),by repeat (first|(with_reducible first|exact HB.out|apply qf|apply qa|apply qd|refine qg ?_ GE161.out)|exact HB.out)⟩
   ·replace c9:=Bool.eq_false_iff.mpr c9
    subst c9
    have H1 : ((impl_VarText.f kj1 (l0_1.length : Int)).bind fun bt162=>((some (([(a0_0) % 256] : List Int) : List Int)).bind fun y164=>(if (strOfNums y164).size + bt162.1.size ≤ 9223372036854775807 then (impl_PageText.l0 kj1 ((strOfNums y164) ++ bt162.1) 0 l0_1 (l0_1.length : Int) 0 a0_0 l0_1) else (none)))) = some (r1,r2):=by rw [if_neg (show ¬ (false = true) by decide)] at H;exact H
    clear H
    have H:=H1
    clear H1
    replace H:=Option.bind_eq_some_iff.mp H
    obtain ⟨⟨t162,t163⟩,A100,H⟩:=H
    replace H : ((some (([(a0_0) % 256] : List Int) : List Int)).bind fun y164=>(if (strOfNums y164).size + t162.size ≤ 9223372036854775807 then (impl_PageText.l0 kj1 ((strOfNums y164) ++ t162) 0 l0_1 (l0_1.length : Int) 0 a0_0 l0_1) else (none))) = some (r1,r2):=H
    have A10:=qn.mk A100
    clear A100
    obtain ⟨y164,hy164⟩ : ∃ y_ : List Int,y_ = (([(a0_0) % 256] : List Int)):=⟨_,rfl⟩
    replace H : (if (strOfNums y164).size + t162.size ≤ 9223372036854775807 then (impl_PageText.l0 kj1 ((strOfNums y164) ++ t162) 0 l0_1 (l0_1.length : Int) 0 a0_0 l0_1) else (none)) = some (r1,r2):=by first|(rw [hy164];with_reducible exact H)|(have H2_:=(Option.bind_some _ _).symm.trans H;rw [hy164];with_reducible exact H2_)|(have H2_:=(Option.bind_some _ _).symm.trans H;with_reducible exact H2_)|with_reducible exact H|(rw [hy164];exact H)|exact H
    have Ny164:=qn.mk hy164
    clear hy164
    by_cases c11 : (strOfNums y164).size + t162.size ≤ 9223372036854775807
    ·rw [if_pos c11] at H
     have c11b0:=eq_true c11
     have c11b1 : decide ((strOfNums y164).size + t162.size ≤ 9223372036854775807) = true:=decide_eq_true c11
     try have c11b2 : (9223372036854775807 < (strOfNums y164).size + t162.size) = False:=eq_false (Nat.not_lt.2 c11)
     have H':=qn.mk H
     clear H
     have hcz12_0 : wc.cell? ⟨gb161,0,none⟩ = some (.int .i64 a0_0):=(qh BK161.out 0).trans rfl
     have hcz12_1 : wc.cell? ⟨gb161,1,none⟩ = some (.slice A0_1 l0_1.length c0_1):=(qh BK161.out 1).trans rfl
     have hfz12_0:=qi BK161.out 0
     have hfz12_1:=qi BK161.out 1
     go_wp2_with (first|((with_reducible refine gate_callee (f:=95) rfl ?_);refine goesL_ (some 34) rfl rfl Try.func95 (by kernel_rfl) rfl #[.int .i64 (l0_1.length : Int)] rfl (by (try simp only [List.map_toArray,List.map_cons,List.map_nil]);first|done|rfl|(simp only [List.length_drop,List.length_take];rfl)) ?_;(with_reducible refine (impl_VarText.calls kj1 (l0_1.length : Int) t162 t163 _ A10.out).mono ?_);rintro e w13 ⟨rfl,hb⟩;refine ⟨_,rfl,?_⟩;have n0_:=bb_ BK161 hb;have n1_:=hs_ HB hb;clear BK161;clear HB;have BK161:=n0_;have HB:=n1_;clear n0_ n1_;(try clear hb);(try clear hb2);(try clear hk);(try clear hi);have hcz14_0 : w13.cell? ⟨gb161,0,none⟩ = some (.int .i64 a0_0):=(qh BK161.out 0).trans rfl;have hcz14_1 : w13.cell? ⟨gb161,1,none⟩ = some (.slice A0_1 l0_1.length c0_1):=(qh BK161.out 1).trans rfl;have hfz14_0:=qi BK161.out 0;have hfz14_1:=qi BK161.out 1)|((with_reducible refine gate_dst (N:=40) rfl ?_);(try (refine gate_guard (by rfl) ?_;dsimp only));refine Kd.R_lit (Kd.int .u8) _ 5 ?hg (N:=40) ?hd (xs:=([(a0_0) % 256] : List Int)) (inner:=[.int .u8 ((a0_0) % 256)]) (ok:=fun _=>True) (okp:=fun _=>True) ?hr ?hp (fun _ hk=>hk) trivial (Below.refl _ _) (Nat.le_refl _) (by simp) ?_;(case hd=>rfl);(case hg=>rfl);(case hr=>first|(go_simp;done)|(go_simp;rfl));(case hp=>exact (Reps.one (show Kd.M (Kd.int .u8) _ _ _ ((a0_0) % 256) [.int .u8 ((a0_0) % 256)] from rfl) (Reps.none _ _)));intro v165 w15 ho16 hb hg_ hnew_;clear hg_ hnew_;(first|rw [← Ny164.out] at ho16|(simp only [Int.reduceToNat] at ho16;rw [← Ny164.out] at ho16));have n0_:=qn.mk (Kd.R_lower ho16 (qj (by repeat (first|(with_reducible first|exact HB.out|apply qf|apply qa|apply qd|refine qg ?_ GE161.out)|exact HB.out))));have n1_:=bb_ BK161 hb;have n2_:=hs_ HB hb;clear BK161;clear HB;have HO166:=n0_;have BK161:=n1_;have HB:=n2_;clear n0_ n1_ n2_;clear hb ho16;have hcv17:=own_string (P:=Try.prog) Try.underlying22 Try.underlying5 Try.underlying9 (Kd.own_of_R HO166.out);have hcz18_0 : w15.cell? ⟨gb161,0,none⟩ = some (.int .i64 a0_0):=(qh BK161.out 0).trans rfl;have hcz18_1 : w15.cell? ⟨gb161,1,none⟩ = some (.slice A0_1 l0_1.length c0_1):=(qh BK161.out 1).trans rfl;have hfz18_0:=qi BK161.out 0;have hfz18_1:=qi BK161.out 1))
     go_loopg [6,7,47] kj1 (fun kq v6 v7 v47 w'=>∃ (x6_2 : ByteArray) (x7_2 : Int) (x47_2 : Int),v6 = .string x6_2 ∧ v7 = .int .i64 x7_2 ∧ v47 = .int .i64 x47_2 ∧ qn (impl_PageText.l0 kq x6_2 x7_2 l0_1 (l0_1.length : Int) x47_2 a0_0 l0_1 = some (r1,r2)) ∧ qn (kq ≤ kj1) ∧ qn (w'.heap[gb161]? = some (.cells #[.int .i64 a0_0,(.slice A0_1 l0_1.length c0_1)] 50 (0,0))) ∧ qn (Below w.heap.size w w'))
     case atStart=>exact ⟨((strOfNums y164) ++ t162),(0),(0),(by first|rfl|(simp;done)|(simp [*];done)),(by first|rfl|(simp;done)|(simp [*];done)),(by first|rfl|(simp;done)|(simp [*];done)),H',⟨Nat.le_refl _⟩,⟨by (with_reducible repeat (first|refine qb ?_ _|refine qe ?_|refine qc ?_ _));exact BK161.out⟩,⟨by repeat (first|(with_reducible first|exact HB.out|apply qf|apply qa|apply qd|refine qg ?_ GE161.out)|exact HB.out)⟩⟩
     case round =>
      clear H'
      try clear c1
      try clear hcv1
      try clear p2
      try clear c4
      try clear c4b0
      try clear c4b1
      try clear c5
      try clear c6
      try clear c6b0
      try clear c6b1
      try clear c9
      try clear c11
      try clear c11b0
      try clear c11b1
      try clear c11b2
      try clear hcv17
      try clear hcz12_0
      try clear hcz12_1
      try clear hcz14_0
      try clear hcz14_1
      try clear hcz18_0
      try clear hcz18_1
      try clear hcz5_0
      try clear hcz5_1
      try clear hcz7_0
      try clear hcz7_1
      try clear hcz8_0
      try clear hcz8_1
      try clear hfz12_0
      try clear hfz12_1
      try clear hfz14_0
      try clear hfz14_1
      try clear hfz18_0
      try clear hfz18_1
      try clear hfz5_0
      try clear hfz5_1
      try clear hfz7_0
      try clear hfz7_1
      try clear hfz8_0
      try clear hfz8_1
      try clear p2
      obtain ⟨x6_2,x7_2,x47_2,rfl,rfl,rfl,HA,HK2,BK161,HB⟩:=hrel
      cases gk with
      | zero=>exact absurd HA.out (by simp [impl_PageText.l0])
      | succ k2 =>
       have H:=HA.out
       clear HA
       simp only [impl_PageText.l0] at H
       by_cases c19 : x47_2 < (l0_1.length : Int)
       ·rw [if_pos c19] at H
        have c19b0 : decide (x47_2 < (l0_1.length : Int)) = true:=decide_eq_true c19
        clear c19
        by_cases c20 : 0 ≤ x47_2
        ·rw [if_pos c20] at H
         have c20b0 : decide (0 ≤ x47_2) = true:=decide_eq_true c20
         clear c20
         by_cases c21 : x47_2 < (l0_1.length : Int)
         ·rw [if_pos c21] at H
          have c21b0 : decide (x47_2 < (l0_1.length : Int)) = true:=decide_eq_true c21
          clear c21
          have HC22:=qn.mk H
          clear H
          have p169 : 0 ≤ (x47_2 : Int):=of_decide_eq_true (by first|(with_reducible assumption)|assumption)
          have q169 : x47_2 < (l0_1.length : Int):=of_decide_eq_true (by first|(with_reducible assumption)|assumption)
          obtain ⟨ad169,e169,hx169_0,hx169_1,hx169_2⟩:=at_T61 HR0_1.out x47_2 p169 q169
          cases e169
          replace hx169_0:=cb_ HB hx169_0
          replace hx169_1:=cb_ HB hx169_1
          replace hx169_2:=cb_ HB hx169_2
          replace p169:=eq_true p169
          replace q169:=eq_true q169
          go_upto_region 9 with (first|((with_reducible refine gate_dst (N:=9) rfl ?_);(try (refine gate_guard (by rfl) ?_;dsimp only));refine box_event ?hg (N:=9) ?hd (cs:=#[.string (⟨#[]⟩ : ByteArray),.string (⟨#[]⟩ : ByteArray),.int .i64 0]) (t:=61) ?hr ?_;(case hd=>rfl);(case hg=>rfl);(case hr=>first|(go_simp;done)|(go_simp;rfl));intro gb170 hg w23 hbox hb;have n0_:=bb_ BK161 hb;have n1_:=hs_ HB hb;have n2_:=qn.mk (hbox);have n3_:=qn.mk ((by rw [hg];exact (qj (by repeat (first|(with_reducible first|exact HB.out|apply qf|apply qa|apply qd|refine qg ?_ GE161.out)|exact HB.out))) : w.heap.size ≤ gb170));have n4_:=qn.mk ((by rw [hg];exact (qj (by repeat (first|(with_reducible first|exact HB.out|apply qf|apply qa|apply qd|refine qg ?_ GE161.out)|exact HB.out))) : w.heap.size ≤ gb170));have n5_:=qn.mk ((by rw [hg];exact nl_ BK161 : gb161 ≠ gb170));have n6_:=qn.mk ((by rw [hg];exact ng_ BK161 : gb170 ≠ gb161));clear BK161;clear HB;have BK161:=n0_;have HB:=n1_;have BK170:=n2_;have GW170:=n3_;have GE170:=n4_;have NB161_170:=n5_;have NB170_161:=n6_;clear n0_ n1_ n2_ n3_ n4_ n5_ n6_;clear hb hbox hg;have hnb24:=NB170_161.out;have hnc24:=NB161_170.out;have hcz25_0 : w23.cell? ⟨gb170,0,none⟩ = some (.string (⟨#[]⟩ : ByteArray)):=(qh BK170.out 0).trans rfl;have hcz25_1 : w23.cell? ⟨gb170,1,none⟩ = some (.string (⟨#[]⟩ : ByteArray)):=(qh BK170.out 1).trans rfl;have hcz25_2 : w23.cell? ⟨gb170,2,none⟩ = some (.int .i64 0):=(qh BK170.out 2).trans rfl;have hfz25_0:=qi BK170.out 0;have hfz25_1:=qi BK170.out 1;have hfz25_2:=qi BK170.out 2))
          (try simp only [Act.put,List.setIfInBounds_toArray,List.set_cons_zero,List.set_cons_succ])
          go_cut [84] (fun v84 wc=>∃ (kq : Nat) (x84_21 : Bool),v84 = .bool x84_21 ∧ qn (impl_PageText.j2 kq x6_2 x7_2 l0_1 (l0_1.length : Int) x47_2 x84_21 a0_0 l0_1 ((rd_T61 l0_1 x47_2).f0) ((rd_T61 l0_1 x47_2).f1) ((rd_T61 l0_1 x47_2).f2) = some (r1,r2)) ∧ qn (kq ≤ k2) ∧ qn (wc.heap[gb161]? = some (.cells #[.int .i64 a0_0,(.slice (some ad169) l0_1.length c0_1)] 50 (0,0))) ∧ qn (wc.heap[gb170]? = some (.cells #[.string ((rd_T61 l0_1 x47_2).f0),.string ((rd_T61 l0_1 x47_2).f1),.int .i64 ((rd_T61 l0_1 x47_2).f2)] 61 (0,0))) ∧ qn (Below w.heap.size w wc))
          case first =>
           have H:=HC22.out
           clear HC22
           replace H:=Option.bind_eq_some_iff.mp H
           obtain ⟨t171,A260,H⟩:=H
           replace H : (if t171 = true then (if x47_2 > 0 then (if 0 ≤ (wrap64 (x47_2 - 1)) then (if (wrap64 (x47_2 - 1)) < (l0_1.length : Int) then (if ((Op.bytesLess (((rd_T61 l0_1 (wrap64 (x47_2 - 1))).f0).toList) (((rd_T61 l0_1 x47_2).f0).toList)) = true) then (if (((rd_T61 l0_1 x47_2).f0).size : Int) > 54 then (impl_PageText.j2 k2 x6_2 x7_2 l0_1 (l0_1.length : Int) x47_2 true a0_0 l0_1 ((rd_T61 l0_1 x47_2).f0) ((rd_T61 l0_1 x47_2).f1) ((rd_T61 l0_1 x47_2).f2)) else (impl_PageText.j2 k2 x6_2 x7_2 l0_1 (l0_1.length : Int) x47_2 (decide ((((rd_T61 l0_1 x47_2).f1).size : Int) > 54)) a0_0 l0_1 ((rd_T61 l0_1 x47_2).f0) ((rd_T61 l0_1 x47_2).f1) ((rd_T61 l0_1 x47_2).f2))) else (impl_PageText.j2 k2 x6_2 x7_2 l0_1 (l0_1.length : Int) x47_2 true a0_0 l0_1 ((rd_T61 l0_1 x47_2).f0) ((rd_T61 l0_1 x47_2).f1) ((rd_T61 l0_1 x47_2).f2))) else (none)) else (none)) else (if (((rd_T61 l0_1 x47_2).f0).size : Int) > 54 then (impl_PageText.j2 k2 x6_2 x7_2 l0_1 (l0_1.length : Int) x47_2 true a0_0 l0_1 ((rd_T61 l0_1 x47_2).f0) ((rd_T61 l0_1 x47_2).f1) ((rd_T61 l0_1 x47_2).f2)) else (impl_PageText.j2 k2 x6_2 x7_2 l0_1 (l0_1.length : Int) x47_2 (decide ((((rd_T61 l0_1 x47_2).f1).size : Int) > 54)) a0_0 l0_1 ((rd_T61 l0_1 x47_2).f0) ((rd_T61 l0_1 x47_2).f1) ((rd_T61 l0_1 x47_2).f2)))) else (impl_PageText.j2 k2 x6_2 x7_2 l0_1 (l0_1.length : Int) x47_2 true a0_0 l0_1 ((rd_T61 l0_1 x47_2).f0) ((rd_T61 l0_1 x47_2).f1) ((rd_T61 l0_1 x47_2).f2))) = some (r1,r2):=H
           have A26:=qn.mk A260
           clear A260
           by_cases c27 : t171 = true
           ·subst c27
            have H1 : (if x47_2 > 0 then (if 0 ≤ (wrap64 (x47_2 - 1)) then (if (wrap64 (x47_2 - 1)) < (l0_1.length : Int) then (if ((Op.bytesLess (((rd_T61 l0_1 (wrap64 (x47_2 - 1))).f0).toList) (((rd_T61 l0_1 x47_2).f0).toList)) = true) then (if (((rd_T61 l0_1 x47_2).f0).size : Int) > 54 then (impl_PageText.j2 k2 x6_2 x7_2 l0_1 (l0_1.length : Int) x47_2 true a0_0 l0_1 ((rd_T61 l0_1 x47_2).f0) ((rd_T61 l0_1 x47_2).f1) ((rd_T61 l0_1 x47_2).f2)) else (impl_PageText.j2 k2 x6_2 x7_2 l0_1 (l0_1.length : Int) x47_2 (decide ((((rd_T61 l0_1 x47_2).f1).size : Int) > 54)) a0_0 l0_1 ((rd_T61 l0_1 x47_2).f0) ((rd_T61 l0_1 x47_2).f1) ((rd_T61 l0_1 x47_2).f2))) else (impl_PageText.j2 k2 x6_2 x7_2 l0_1 (l0_1.length : Int) x47_2 true a0_0 l0_1 ((rd_T61 l0_1 x47_2).f0) ((rd_T61 l0_1 x47_2).f1) ((rd_T61 l0_1 x47_2).f2))) else (none)) else (none)) else (if (((rd_T61 l0_1 x47_2).f0).size : Int) > 54 then (impl_PageText.j2 k2 x6_2 x7_2 l0_1 (l0_1.length : Int) x47_2 true a0_0 l0_1 ((rd_T61 l0_1 x47_2).f0) ((rd_T61 l0_1 x47_2).f1) ((rd_T61 l0_1 x47_2).f2)) else (impl_PageText.j2 k2 x6_2 x7_2 l0_1 (l0_1.length : Int) x47_2 (decide ((((rd_T61 l0_1 x47_2).f1).size : Int) > 54)) a0_0 l0_1 ((rd_T61 l0_1 x47_2).f0) ((rd_T61 l0_1 x47_2).f1) ((rd_T61 l0_1 x47_2).f2)))) = some (r1,r2):=by rw [if_pos rfl] at H;exact H
            clear H
            have H:=H1
            clear H1
            by_cases c28 : x47_2 > 0
            ·rw [if_pos c28] at H
             have c28b0 : decide (0 < x47_2) = true:=decide_eq_true c28
             clear c28
             (first|rw [c28b0]|(simp only [i64_w,i32_w];rw [c28b0])|skip)
             obtain ⟨ji29,hji29⟩ : ∃ j_ : Int,(wrap64 (x47_2 - 1)) = j_:=⟨_,rfl⟩
             replace H : (if 0 ≤ (ji29) then (if (ji29) < (l0_1.length : Int) then (if ((Op.bytesLess (((rd_T61 l0_1 (ji29)).f0).toList) (((rd_T61 l0_1 x47_2).f0).toList)) = true) then (if (((rd_T61 l0_1 x47_2).f0).size : Int) > 54 then (impl_PageText.j2 k2 x6_2 x7_2 l0_1 (l0_1.length : Int) x47_2 true a0_0 l0_1 ((rd_T61 l0_1 x47_2).f0) ((rd_T61 l0_1 x47_2).f1) ((rd_T61 l0_1 x47_2).f2)) else (impl_PageText.j2 k2 x6_2 x7_2 l0_1 (l0_1.length : Int) x47_2 (decide ((((rd_T61 l0_1 x47_2).f1).size : Int) > 54)) a0_0 l0_1 ((rd_T61 l0_1 x47_2).f0) ((rd_T61 l0_1 x47_2).f1) ((rd_T61 l0_1 x47_2).f2))) else (impl_PageText.j2 k2 x6_2 x7_2 l0_1 (l0_1.length : Int) x47_2 true a0_0 l0_1 ((rd_T61 l0_1 x47_2).f0) ((rd_T61 l0_1 x47_2).f1) ((rd_T61 l0_1 x47_2).f2))) else (none)) else (none)) = some (r1,r2):=by first|(rw [hji29] at H;exact H)|(simp only [hji29] at H ⊢;exact H)
             (try rw [hji29] at A26)
             have hji29w : (IntKind.i64.wrap (x47_2 - 1)) = ji29:=(i64_w _).trans hji29
             by_cases c30 : 0 ≤ (ji29)
             ·rw [if_pos c30] at H
              have c30b0 : decide (0 ≤ (ji29)) = true:=decide_eq_true c30
              clear c30
              by_cases c31 : (ji29) < (l0_1.length : Int)
              ·rw [if_pos c31] at H
               have c31b0 : decide ((ji29) < (l0_1.length : Int)) = true:=decide_eq_true c31
               clear c31
               by_cases c32 : ((Op.bytesLess (((rd_T61 l0_1 (ji29)).f0).toList) (((rd_T61 l0_1 x47_2).f0).toList)) = true)
               ·rw [if_pos c32] at H
                have c32b0 : (Op.bytesLess (((rd_T61 l0_1 (ji29)).f0).toList) (((rd_T61 l0_1 x47_2).f0).toList)) = true:=c32
                clear c32
                by_cases c33 : (((rd_T61 l0_1 x47_2).f0).size : Int) > 54
                ·rw [if_pos c33] at H
                 have c33b0 : decide (54 < (((rd_T61 l0_1 x47_2).f0).size : Int)) = true:=decide_eq_true c33
                 have c33b1 : decide (54 < ((rd_T61 l0_1 x47_2).f0).size) = true:=decide_eq_true (by omega)
                 clear c33
                 have H':=qn.mk H
                 clear H
                 try go_wp2
                 have n0_ : qn ((((w23.setCell ⟨gb170,0,none⟩ (.string ((rd_T61 l0_1 x47_2).f0))).setCell ⟨gb170,1,none⟩ (.string ((rd_T61 l0_1 x47_2).f1))).setCell ⟨gb170,2,none⟩ (.int .i64 ((rd_T61 l0_1 x47_2).f2))).heap[gb161]? = some (.cells #[.int .i64 a0_0,.slice (some ad169) l0_1.length c0_1] 50 (0,0))):=⟨by (with_reducible repeat (first|refine qb ?_ _|refine qe ?_|refine qc ?_ _));refine blk_far ?_ NB161_170.out _;(with_reducible repeat (first|refine qb ?_ _|refine qe ?_|refine qc ?_ _));refine blk_far ?_ NB161_170.out _;(with_reducible repeat (first|refine qb ?_ _|refine qe ?_|refine qc ?_ _));refine blk_far ?_ NB161_170.out _;(with_reducible repeat (first|refine qb ?_ _|refine qe ?_|refine qc ?_ _));exact BK161.out⟩
                 have n1_ : qn ((((w23.setCell ⟨gb170,0,none⟩ (.string ((rd_T61 l0_1 x47_2).f0))).setCell ⟨gb170,1,none⟩ (.string ((rd_T61 l0_1 x47_2).f1))).setCell ⟨gb170,2,none⟩ (.int .i64 ((rd_T61 l0_1 x47_2).f2))).heap[gb170]? = some (.cells #[.string ((rd_T61 l0_1 x47_2).f0),.string ((rd_T61 l0_1 x47_2).f1),.int .i64 ((rd_T61 l0_1 x47_2).f2)] 61 (0,0))):=⟨by (with_reducible repeat (first|refine qb ?_ _|refine qe ?_|refine qc ?_ _));refine blk_put (cs:=#[.string ((rd_T61 l0_1 x47_2).f0),.string ((rd_T61 l0_1 x47_2).f1),.int .i64 0]) ?_ 2 _ rfl;(with_reducible repeat (first|refine qb ?_ _|refine qe ?_|refine qc ?_ _));refine blk_put (cs:=#[.string ((rd_T61 l0_1 x47_2).f0),.string (⟨#[]⟩ : ByteArray),.int .i64 0]) ?_ 1 _ rfl;(with_reducible repeat (first|refine qb ?_ _|refine qe ?_|refine qc ?_ _));refine blk_put (cs:=#[.string (⟨#[]⟩ : ByteArray),.string (⟨#[]⟩ : ByteArray),.int .i64 0]) ?_ 0 _ rfl;(with_reducible repeat (first|refine qb ?_ _|refine qe ?_|refine qc ?_ _));exact BK170.out⟩
                 have n2_ : qn (Below w.heap.size w (((w23.setCell ⟨gb170,0,none⟩ (.string ((rd_T61 l0_1 x47_2).f0))).setCell ⟨gb170,1,none⟩ (.string ((rd_T61 l0_1 x47_2).f1))).setCell ⟨gb170,2,none⟩ (.int .i64 ((rd_T61 l0_1 x47_2).f2)))):=⟨by repeat (first|(with_reducible first|exact HB.out|apply qf|apply qa|apply qd|refine qg ?_ GE161.out|refine qg ?_ GE170.out)|exact HB.out)⟩
                 (try clear BK161)
                 (try clear BK170)
                 (try clear HB)
                 generalize (((w23.setCell ⟨gb170,0,none⟩ (.string ((rd_T61 l0_1 x47_2).f0))).setCell ⟨gb170,1,none⟩ (.string ((rd_T61 l0_1 x47_2).f1))).setCell ⟨gb170,2,none⟩ (.int .i64 ((rd_T61 l0_1 x47_2).f2))) = w34 at n0_ n1_ n2_ ⊢
                 have BK161:=n0_
                 have BK170:=n1_
                 have HB:=n2_
                 clear n0_ n1_ n2_
                 have n0_:=qn.mk (qe BK161.out)
                 have n1_:=qn.mk (qe BK170.out)
                 have n2_:=qn.mk (qd HB.out)
                 clear BK161
                 clear BK170
                 clear HB
                 have BK161:=n0_
                 have BK170:=n1_
                 have HB:=n2_
                 clear n0_ n1_ n2_
                 have p172 : 0 ≤ ((ji29) : Int):=of_decide_eq_true (by first|(with_reducible assumption)|assumption)
                 have q172 : (ji29) < (l0_1.length : Int):=of_decide_eq_true (by first|(with_reducible assumption)|assumption)
                 obtain ⟨ad172,e172,hx172_0,hx172_1,hx172_2⟩:=at_T61 HR0_1.out (ji29) p172 q172
                 have hw172_2:=hx172_2
                 have hw172_1:=hx172_1
                 have hw172_0:=hx172_0
                 obtain rfl : ad169 = ad172:=(by injection e172)
                 replace hx172_0:=cb_ HB hx172_0
                 replace hx172_1:=cb_ HB hx172_1
                 replace hx172_2:=cb_ HB hx172_2
                 replace p172:=eq_true p172
                 replace q172:=eq_true q172
                 refine start_ (n:=33) (S:=fun w'=>w'.cell? ⟨gb161,0,none⟩ = some (.int .i64 a0_0) ∧ w'.cell? ⟨gb161,1,none⟩ = some (.slice (some ad169) l0_1.length c0_1) ∧ w'.cell? ⟨gb170,0,none⟩ = some (.string ((rd_T61 l0_1 x47_2).f0)) ∧ w'.cell? ⟨gb170,1,none⟩ = some (.string ((rd_T61 l0_1 x47_2).f1)) ∧ w'.cell? ⟨gb170,2,none⟩ = some (.int .i64 ((rd_T61 l0_1 x47_2).f2)) ∧ w'.cell? (ad169.add (((ji29)).toNat * 3)) = some (.string ((rd_T61 l0_1 (ji29)).f0)) ∧ w'.cell? ⟨(ad169.add (((ji29)).toNat * 3)).block,(ad169.add (((ji29)).toNat * 3)).off + 1,none⟩ = some (.string ((rd_T61 l0_1 (ji29)).f1)) ∧ w'.cell? ⟨(ad169.add (((ji29)).toNat * 3)).block,(ad169.add (((ji29)).toNat * 3)).off + 2,none⟩ = some (.int .i64 ((rd_T61 l0_1 (ji29)).f2))) (ds:=[]) #[false,false,false,false,false,false,false,false,false,false,false,false,false,false,false,false,false,false,false,false,false,false,false,false,false,false,false,false,false,false,false,false,false] (by kernel_rfl) rfl rfl ⟨(qh BK161.out 0).trans rfl,(qh BK161.out 1).trans rfl,(qh BK170.out 0).trans rfl,(qh BK170.out 1).trans rfl,(qh BK170.out 2).trans rfl,(cb_ HB hw172_0:),(cb_ HB hw172_1:),(cb_ HB hw172_2:)⟩ (fun hHeld=>?_);refine with_tabW impl_PageText.tab9 impl_PageText.bits9 (fun HT_ HW_=>?_)
                 generalize w34.drew = w35 at BK161 BK170 HB hx172_0 hx172_1 hx172_2 hHeld ⊢
                 refine pure_ (i:=0) (N:=some 52) (v:=?_) (a':=?_) #[true,false,false,false,false,false,false,false,false,false,false,false,false,false,false,false,false,false,false,false,false,false,false,false,false,false,false,false,false,false,false,false,false] rfl rfl (any_of HT_.out (by kernel_rfl)) (fun _ _ _ h=>h) (Or.inl ⟨by rfl,?_⟩) ?_ ?_
                 rotate_left
                 ·intro w'
                  go_simp
                  with_reducible rfl
                 rotate_left
                 ·simp only [Act.put,List.setIfInBounds_toArray,List.set_cons_zero,List.set_cons_succ,i64_w,i32_w]
                  rfl
                 refine take_ (i:=1) (N:=some 53) (v:=?_) (a':=?_) #[true,true,false,false,false,false,false,false,false,false,false,false,false,false,false,false,false,false,false,false,false,false,false,false,false,false,false,false,false,false,false,false,false] rfl rfl (take_ofW HT_.out HW_.out (by kernel_rfl)) (fun _ _ _ h=>h) (Or.inl ⟨by rfl,?_⟩) hHeld ?_ ?_
                 rotate_left
                 ·rintro w' ⟨s0,s1,s2,s3,s4,s5,s6,s7⟩
                  go_simp
                  with_reducible rfl
                 rotate_left
                 ·simp only [Act.put,List.setIfInBounds_toArray,List.set_cons_zero,List.set_cons_succ,i64_w,i32_w]
                  rfl
                 refine take_ (i:=2) (N:=some 54) (v:=?_) (a':=?_) #[true,true,true,false,false,false,false,false,false,false,false,false,false,false,false,false,false,false,false,false,false,false,false,false,false,false,false,false,false,false,false,false,false] rfl rfl (take_ofW HT_.out HW_.out (by kernel_rfl)) (fun _ _ _ h=>h) (Or.inl ⟨by rfl,?_⟩) hHeld ?_ ?_
                 rotate_left
                 ·rintro w' ⟨s0,s1,s2,s3,s4,s5,s6,s7⟩
                  go_simp
                  with_reducible rfl
                 rotate_left
                 ·simp only [Act.put,List.setIfInBounds_toArray,List.set_cons_zero,List.set_cons_succ,i64_w,i32_w]
                  rfl
                 refine one_ (i:=3) (N:=some 55) #[true,true,true,true,false,false,false,false,false,false,false,false,false,false,false,false,false,false,false,false,false,false,false,false,false,false,false,false,false,false,false,false,false] rfl rfl (one_of HT_.out (by kernel_rfl)) (by decide) (fun K hK=>?_)
                 refine goes_ Try.func96 (by kernel_rfl) rfl #[.int .i64 a0_0,.agg #[.string ((rd_T61 l0_1 x47_2).f0),.string ((rd_T61 l0_1 x47_2).f1),.int .i64 ((rd_T61 l0_1 x47_2).f2)]] (by rfl) rfl rfl (by (try simp only [List.map_toArray,List.map_cons,List.map_nil]);first|done|rfl|(simp only [List.length_drop,List.length_take];rfl)) ?_
                 with_reducible refine (impl_itemOk.calls a0_0 ((rd_T61 l0_1 x47_2).f0) ((rd_T61 l0_1 x47_2).f1) ((rd_T61 l0_1 x47_2).f2) true _ A26.out).mono ?_
                 rintro e w36 ⟨rfl,hb⟩
                 refine ⟨_,rfl,?_⟩
                 have n0_:=bb_ BK161 hb
                 have n1_:=bb_ BK170 hb
                 have n2_:=hs_ HB hb
                 clear BK161
                 clear BK170
                 clear HB
                 have BK161:=n0_
                 have BK170:=n1_
                 have HB:=n2_
                 clear n0_ n1_ n2_
                 (try clear hb)
                 (try clear hb2)
                 (try clear hk)
                 (try clear hi)
                 refine hK.out _ _ ⟨(qh BK161.out 0).trans rfl,(qh BK161.out 1).trans rfl,(qh BK170.out 0).trans rfl,(qh BK170.out 1).trans rfl,(qh BK170.out 2).trans rfl,(cb_ HB hw172_0:),(cb_ HB hw172_1:),(cb_ HB hw172_2:)⟩ (fun hHeld=>?_)
                 clear hK K
                 refine norm_ (a':=?_) ?_ ?_
                 rotate_left
                 ·show Act.put _ (some 55) _ = _
                  simp only [Act.put,List.setIfInBounds_toArray,List.set_cons_zero,List.set_cons_succ,i64_w,i32_w]
                  rfl
                 refine pure_ (i:=4) (N:=some 56) (v:=?_) (a':=?_) #[true,true,true,true,true,false,false,false,false,false,false,false,false,false,false,false,false,false,false,false,false,false,false,false,false,false,false,false,false,false,false,false,false] rfl rfl (any_of HT_.out (by kernel_rfl)) (fun _ _ _ h=>h) (Or.inl ⟨by rfl,?_⟩) ?_ ?_
                 rotate_left
                 ·intro w'
                  go_simp
                  with_reducible rfl
                 rotate_left
                 ·simp only [Act.put,List.setIfInBounds_toArray,List.set_cons_zero,List.set_cons_succ,i64_w,i32_w]
                  rfl
                 refine pure_ (i:=5) (N:=some 57) (v:=?_) (a':=?_) #[true,true,true,true,true,true,false,false,false,false,false,false,false,false,false,false,false,false,false,false,false,false,false,false,false,false,false,false,false,false,false,false,false] rfl rfl (any_of HT_.out (by kernel_rfl)) (fun _ _ _ h=>h) (Or.inl ⟨by rfl,?_⟩) ?_ ?_
                 rotate_left
                 ·intro w'
                  go_simp
                  with_reducible rfl
                 rotate_left
                 ·simp only [Act.put,List.setIfInBounds_toArray,List.set_cons_zero,List.set_cons_succ,i64_w,i32_w]
                  rfl
                 refine pure_ (i:=6) (N:=some 58) (v:=?_) (a':=?_) #[true,true,true,true,true,true,true,false,false,false,false,false,false,false,false,false,false,false,false,false,false,false,false,false,false,false,false,false,false,false,false,false,false] rfl rfl (any_of HT_.out (by kernel_rfl)) (fun _ _ _ h=>h) (Or.inl ⟨by rfl,?_⟩) ?_ ?_
                 rotate_left
                 ·intro w'
                  go_simp
                  with_reducible rfl
                 rotate_left
                 ·simp only [Act.put,List.setIfInBounds_toArray,List.set_cons_zero,List.set_cons_succ,i64_w,i32_w]
                  rfl
                 refine pure_ (i:=7) (N:=some 59) (v:=?_) (a':=?_) #[true,true,true,true,true,true,true,true,false,false,false,false,false,false,false,false,false,false,false,false,false,false,false,false,false,false,false,false,false,false,false,false,false] rfl rfl (any_of HT_.out (by kernel_rfl)) (fun _ _ _ h=>h) (Or.inl ⟨by rfl,?_⟩) ?_ ?_
                 rotate_left
                 ·intro w'
                  go_simp
                  with_reducible rfl
                 rotate_left
                 ·simp only [Act.put,List.setIfInBounds_toArray,List.set_cons_zero,List.set_cons_succ,i64_w,i32_w]
                  rfl
                 refine pure_ (i:=8) (N:=some 60) (v:=?_) (a':=?_) #[true,true,true,true,true,true,true,true,true,false,false,false,false,false,false,false,false,false,false,false,false,false,false,false,false,false,false,false,false,false,false,false,false] rfl rfl (any_of HT_.out (by kernel_rfl)) (fun _ _ _ h=>h) (Or.inl ⟨by rfl,?_⟩) ?_ ?_
                 rotate_left
                 ·intro w'
                  go_simp
                  with_reducible rfl
                 rotate_left
                 ·simp only [Act.put,List.setIfInBounds_toArray,List.set_cons_zero,List.set_cons_succ,i64_w,i32_w]
                  rfl
                 refine pure_ (i:=9) (N:=some 61) (v:=?_) (a':=?_) #[true,true,true,true,true,true,true,true,true,true,false,false,false,false,false,false,false,false,false,false,false,false,false,false,false,false,false,false,false,false,false,false,false] rfl rfl (any_of HT_.out (by kernel_rfl)) (fun _ _ _ h=>h) (Or.inl ⟨by rfl,?_⟩) ?_ ?_
                 rotate_left
                 ·intro w'
                  go_simp
                  with_reducible rfl
                 rotate_left
                 ·simp only [Act.put,List.setIfInBounds_toArray,List.set_cons_zero,List.set_cons_succ,i64_w,i32_w]
                  rfl
                 refine pure_ (i:=11) (N:=some 63) (v:=?_) (a':=?_) #[true,true,true,true,true,true,true,true,true,true,false,true,false,false,false,false,false,false,false,false,false,false,false,false,false,false,false,false,false,false,false,false,false] rfl rfl (any_of HT_.out (by kernel_rfl)) (fun _ _ _ h=>h) (Or.inl ⟨by rfl,?_⟩) ?_ ?_
                 rotate_left
                 ·intro w'
                  go_simp
                  with_reducible rfl
                 rotate_left
                 ·simp only [Act.put,List.setIfInBounds_toArray,List.set_cons_zero,List.set_cons_succ,i64_w,i32_w]
                  rfl
                 refine pure_ (i:=12) (N:=some 64) (v:=?_) (a':=?_) #[true,true,true,true,true,true,true,true,true,true,false,true,true,false,false,false,false,false,false,false,false,false,false,false,false,false,false,false,false,false,false,false,false] rfl rfl (any_of HT_.out (by kernel_rfl)) (fun _ _ _ h=>h) (Or.inl ⟨by rfl,?_⟩) ?_ ?_
                 rotate_left
                 ·intro w'
                  go_simp
                  with_reducible rfl
                 rotate_left
                 ·simp only [Act.put,List.setIfInBounds_toArray,List.set_cons_zero,List.set_cons_succ,i64_w,i32_w]
                  rfl
                 refine pure_ (i:=16) (N:=some 68) (v:=?_) (a':=?_) #[true,true,true,true,true,true,true,true,true,true,false,true,true,false,false,false,true,false,false,false,false,false,false,false,false,false,false,false,false,false,false,false,false] rfl rfl (any_of HT_.out (by kernel_rfl)) (fun _ _ _ h=>h) (Or.inl ⟨by rfl,?_⟩) ?_ ?_
                 rotate_left
                 ·intro w'
                  go_simp
                  with_reducible rfl
                 rotate_left
                 ·simp only [Act.put,List.setIfInBounds_toArray,List.set_cons_zero,List.set_cons_succ,i64_w,i32_w]
                  rfl
                 refine take_ (i:=10) (N:=some 62) (v:=?_) (a':=?_) #[true,true,true,true,true,true,true,true,true,true,true,true,true,false,false,false,true,false,false,false,false,false,false,false,false,false,false,false,false,false,false,false,false] rfl rfl (take_ofW HT_.out HW_.out (by kernel_rfl)) (fun _ _ _ h=>h) (Or.inl ⟨by rfl,?_⟩) hHeld ?_ ?_
                 rotate_left
                 ·rintro w' ⟨s0,s1,s2,s3,s4,s5,s6,s7⟩
                  go_simp
                  with_reducible rfl
                 rotate_left
                 ·simp only [Act.put,List.setIfInBounds_toArray,List.set_cons_zero,List.set_cons_succ,i64_w,i32_w]
                  rfl
                 refine pure_ (i:=13) (N:=some 65) (v:=?_) (a':=?_) #[true,true,true,true,true,true,true,true,true,true,true,true,true,true,false,false,true,false,false,false,false,false,false,false,false,false,false,false,false,false,false,false,false] rfl rfl (any_of HT_.out (by kernel_rfl)) (fun _ _ _ h=>h) (Or.inl ⟨by rfl,?_⟩) ?_ ?_
                 rotate_left
                 ·intro w'
                  go_simp
                  with_reducible rfl
                 rotate_left
                 ·simp only [Act.put,List.setIfInBounds_toArray,List.set_cons_zero,List.set_cons_succ,i64_w,i32_w]
                  rfl
                 refine pure_ (i:=14) (N:=some 66) (v:=?_) (a':=?_) #[true,true,true,true,true,true,true,true,true,true,true,true,true,true,true,false,true,false,false,false,false,false,false,false,false,false,false,false,false,false,false,false,false] rfl rfl (any_of HT_.out (by kernel_rfl)) (fun _ _ _ h=>h) (Or.inl ⟨by rfl,?_⟩) ?_ ?_
                 rotate_left
                 ·intro w'
                  go_simp
                  with_reducible rfl
                 rotate_left
                 ·simp only [Act.put,List.setIfInBounds_toArray,List.set_cons_zero,List.set_cons_succ,i64_w,i32_w]
                  rfl
                 refine take_ (i:=15) (N:=some 67) (v:=?_) (a':=?_) #[true,true,true,true,true,true,true,true,true,true,true,true,true,true,true,true,true,false,false,false,false,false,false,false,false,false,false,false,false,false,false,false,false] rfl rfl (take_ofW HT_.out HW_.out (by kernel_rfl)) (fun _ _ _ h=>h) (Or.inl ⟨by rfl,?_⟩) hHeld ?_ ?_
                 rotate_left
                 ·rintro w' ⟨s0,s1,s2,s3,s4,s5,s6,s7⟩
                  go_simp
                  with_reducible rfl
                 rotate_left
                 ·simp only [Act.put,List.setIfInBounds_toArray,List.set_cons_zero,List.set_cons_succ,i64_w,i32_w]
                  rfl
                 refine take_ (i:=17) (N:=some 69) (v:=?_) (a':=?_) #[true,true,true,true,true,true,true,true,true,true,true,true,true,true,true,true,true,true,false,false,false,false,false,false,false,false,false,false,false,false,false,false,false] rfl rfl (take_ofW HT_.out HW_.out (by kernel_rfl)) (fun _ _ _ h=>h) (Or.inl ⟨by rfl,?_⟩) hHeld ?_ ?_
                 rotate_left
                 ·rintro w' ⟨s0,s1,s2,s3,s4,s5,s6,s7⟩
                  go_simp
                  with_reducible rfl
                 rotate_left
                 ·simp only [Act.put,List.setIfInBounds_toArray,List.set_cons_zero,List.set_cons_succ,i64_w,i32_w]
                  rfl
                 refine pure_ (i:=18) (N:=some 70) (v:=?_) (a':=?_) #[true,true,true,true,true,true,true,true,true,true,true,true,true,true,true,true,true,true,true,false,false,false,false,false,false,false,false,false,false,false,false,false,false] rfl rfl (any_of HT_.out (by kernel_rfl)) (fun _ _ _ h=>h) (Or.inl ⟨by rfl,?_⟩) ?_ ?_
                 rotate_left
                 ·intro w'
                  go_simp
                  with_reducible rfl
                 rotate_left
                 ·simp only [Act.put,List.setIfInBounds_toArray,List.set_cons_zero,List.set_cons_succ,i64_w,i32_w]
                  rfl
                 refine pure_ (i:=19) (N:=some 71) (v:=?_) (a':=?_) #[true,true,true,true,true,true,true,true,true,true,true,true,true,true,true,true,true,true,true,true,false,false,false,false,false,false,false,false,false,false,false,false,false] rfl rfl (any_of HT_.out (by kernel_rfl)) (fun _ _ _ h=>h) (Or.inl ⟨by rfl,?_⟩) ?_ ?_
                 rotate_left
                 ·intro w'
                  go_simp
                  with_reducible rfl
                 rotate_left
                 ·simp only [Act.put,List.setIfInBounds_toArray,List.set_cons_zero,List.set_cons_succ,i64_w,i32_w]
                  rfl
                 refine pure_ (i:=20) (N:=some 72) (v:=?_) (a':=?_) #[true,true,true,true,true,true,true,true,true,true,true,true,true,true,true,true,true,true,true,true,true,false,false,false,false,false,false,false,false,false,false,false,false] rfl rfl (any_of HT_.out (by kernel_rfl)) (fun _ _ _ h=>h) (Or.inl ⟨by rfl,?_⟩) ?_ ?_
                 rotate_left
                 ·intro w'
                  go_simp
                  with_reducible rfl
                 rotate_left
                 ·simp only [Act.put,List.setIfInBounds_toArray,List.set_cons_zero,List.set_cons_succ,i64_w,i32_w]
                  rfl
                 refine pure_ (i:=21) (N:=some 73) (v:=?_) (a':=?_) #[true,true,true,true,true,true,true,true,true,true,true,true,true,true,true,true,true,true,true,true,true,true,false,false,false,false,false,false,false,false,false,false,false] rfl rfl (any_of HT_.out (by kernel_rfl)) (fun _ _ _ h=>h) (Or.inl ⟨by rfl,?_⟩) ?_ ?_
                 rotate_left
                 ·intro w'
                  go_simp
                  with_reducible rfl
                 rotate_left
                 ·simp only [Act.put,List.setIfInBounds_toArray,List.set_cons_zero,List.set_cons_succ,i64_w,i32_w]
                  rfl
                 refine pure_ (i:=22) (N:=some 74) (v:=?_) (a':=?_) #[true,true,true,true,true,true,true,true,true,true,true,true,true,true,true,true,true,true,true,true,true,true,true,false,false,false,false,false,false,false,false,false,false] rfl rfl (any_of HT_.out (by kernel_rfl)) (fun _ _ _ h=>h) (Or.inl ⟨by rfl,?_⟩) ?_ ?_
                 rotate_left
                 ·intro w'
                  go_simp
                  with_reducible rfl
                 rotate_left
                 ·simp only [Act.put,List.setIfInBounds_toArray,List.set_cons_zero,List.set_cons_succ,i64_w,i32_w]
                  rfl
                 refine take_ (i:=23) (N:=some 75) (v:=?_) (a':=?_) #[true,true,true,true,true,true,true,true,true,true,true,true,true,true,true,true,true,true,true,true,true,true,true,true,false,false,false,false,false,false,false,false,false] rfl rfl (take_ofW HT_.out HW_.out (by kernel_rfl)) (fun _ _ _ h=>h) (Or.inl ⟨by rfl,?_⟩) hHeld ?_ ?_
                 rotate_left
                 ·rintro w' ⟨s0,s1,s2,s3,s4,s5,s6,s7⟩
                  go_simp
                  with_reducible rfl
                 rotate_left
                 ·simp only [Act.put,List.setIfInBounds_toArray,List.set_cons_zero,List.set_cons_succ,i64_w,i32_w]
                  rfl
                 refine pure_ (i:=24) (N:=some 76) (v:=?_) (a':=?_) #[true,true,true,true,true,true,true,true,true,true,true,true,true,true,true,true,true,true,true,true,true,true,true,true,true,false,false,false,false,false,false,false,false] rfl rfl (any_of HT_.out (by kernel_rfl)) (fun _ _ _ h=>h) (Or.inl ⟨by rfl,?_⟩) ?_ ?_
                 rotate_left
                 ·intro w'
                  go_simp
                  with_reducible rfl
                 rotate_left
                 ·simp only [Act.put,List.setIfInBounds_toArray,List.set_cons_zero,List.set_cons_succ,i64_w,i32_w]
                  rfl
                 refine pure_ (i:=25) (N:=some 77) (v:=?_) (a':=?_) #[true,true,true,true,true,true,true,true,true,true,true,true,true,true,true,true,true,true,true,true,true,true,true,true,true,true,false,false,false,false,false,false,false] rfl rfl (any_of HT_.out (by kernel_rfl)) (fun _ _ _ h=>h) (Or.inl ⟨by rfl,?_⟩) ?_ ?_
                 rotate_left
                 ·intro w'
                  go_simp
                  with_reducible rfl
                 rotate_left
                 ·simp only [Act.put,List.setIfInBounds_toArray,List.set_cons_zero,List.set_cons_succ,i64_w,i32_w]
                  rfl
                 refine pure_ (i:=26) (N:=some 78) (v:=?_) (a':=?_) #[true,true,true,true,true,true,true,true,true,true,true,true,true,true,true,true,true,true,true,true,true,true,true,true,true,true,true,false,false,false,false,false,false] rfl rfl (any_of HT_.out (by kernel_rfl)) (fun _ _ _ h=>h) (Or.inl ⟨by rfl,?_⟩) ?_ ?_
                 rotate_left
                 ·intro w'
                  go_simp
                  with_reducible rfl
                 rotate_left
                 ·simp only [Act.put,List.setIfInBounds_toArray,List.set_cons_zero,List.set_cons_succ,i64_w,i32_w]
                  rfl
                 refine pure_ (i:=27) (N:=some 79) (v:=?_) (a':=?_) #[true,true,true,true,true,true,true,true,true,true,true,true,true,true,true,true,true,true,true,true,true,true,true,true,true,true,true,true,false,false,false,false,false] rfl rfl (any_of HT_.out (by kernel_rfl)) (fun _ _ _ h=>h) (Or.inl ⟨by rfl,?_⟩) ?_ ?_
                 rotate_left
                 ·intro w'
                  go_simp
                  with_reducible rfl
                 rotate_left
                 ·simp only [Act.put,List.setIfInBounds_toArray,List.set_cons_zero,List.set_cons_succ,i64_w,i32_w]
                  rfl
                 refine pure_ (i:=28) (N:=some 80) (v:=undef) (a':=?_) #[true,true,true,true,true,true,true,true,true,true,true,true,true,true,true,true,true,true,true,true,true,true,true,true,true,true,true,true,true,false,false,false,false] rfl rfl (any_of HT_.out (by kernel_rfl)) (fun _ _ _ h=>h) (Or.inr ⟨by rfl,rfl⟩) ?_ ?_
                 rotate_left
                 ·simp only [Act.put,List.setIfInBounds_toArray,List.set_cons_zero,List.set_cons_succ,i64_w,i32_w]
                  rfl
                 refine pure_ (i:=29) (N:=some 81) (v:=undef) (a':=?_) #[true,true,true,true,true,true,true,true,true,true,true,true,true,true,true,true,true,true,true,true,true,true,true,true,true,true,true,true,true,true,false,false,false] rfl rfl (any_of HT_.out (by kernel_rfl)) (fun _ _ _ h=>h) (Or.inr ⟨by rfl,rfl⟩) ?_ ?_
                 rotate_left
                 ·simp only [Act.put,List.setIfInBounds_toArray,List.set_cons_zero,List.set_cons_succ,i64_w,i32_w]
                  rfl
                 refine pure_ (i:=30) (N:=some 82) (v:=undef) (a':=?_) #[true,true,true,true,true,true,true,true,true,true,true,true,true,true,true,true,true,true,true,true,true,true,true,true,true,true,true,true,true,true,true,false,false] rfl rfl (any_of HT_.out (by kernel_rfl)) (fun _ _ _ h=>h) (Or.inr ⟨by rfl,rfl⟩) ?_ ?_
                 rotate_left
                 ·simp only [Act.put,List.setIfInBounds_toArray,List.set_cons_zero,List.set_cons_succ,i64_w,i32_w]
                  rfl
                 refine pure_ (i:=31) (N:=some 83) (v:=undef) (a':=?_) #[true,true,true,true,true,true,true,true,true,true,true,true,true,true,true,true,true,true,true,true,true,true,true,true,true,true,true,true,true,true,true,true,false] rfl rfl (any_of HT_.out (by kernel_rfl)) (fun _ _ _ h=>h) (Or.inr ⟨by rfl,rfl⟩) ?_ ?_
                 rotate_left
                 ·simp only [Act.put,List.setIfInBounds_toArray,List.set_cons_zero,List.set_cons_succ,i64_w,i32_w]
                  rfl
                 refine pure_ (i:=32) (N:=some 84) (v:=?_) (a':=?_) #[true,true,true,true,true,true,true,true,true,true,true,true,true,true,true,true,true,true,true,true,true,true,true,true,true,true,true,true,true,true,true,true,true] rfl rfl (any_of HT_.out (by kernel_rfl)) (fun _ _ _ h=>h) (Or.inl ⟨by rfl,?_⟩) ?_ ?_
                 rotate_left
                 ·intro w'
                  go_simp
                  with_reducible rfl
                 rotate_left
                 ·simp only [Act.put,List.setIfInBounds_toArray,List.set_cons_zero,List.set_cons_succ,i64_w,i32_w]
                  rfl
                 refine done_ (done_of HT_.out (by kernel_rfl)) ?_
                 try go_wp2
                 go_meet
                 case rel=>exact ⟨_,(true),(by first|rfl|(simp;done)|(simp [*];done)),H',⟨by have:=HJ1.out;have:=HK2.out;first|omega|exact Nat.le_refl _⟩,⟨by (with_reducible repeat (first|refine qb ?_ _|refine qe ?_|refine qc ?_ _));exact BK161.out⟩,⟨by (with_reducible repeat (first|refine qb ?_ _|refine qe ?_|refine qc ?_ _));exact BK170.out⟩,⟨by repeat (first|(with_reducible first|exact HB.out|apply qf|apply qa|apply qd|refine qg ?_ GE161.out|refine qg ?_ GE170.out)|exact HB.out)⟩⟩
                ·rw [if_neg c33] at H
                 have c33b0 : decide (54 < (((rd_T61 l0_1 x47_2).f0).size : Int)) = false:=decide_eq_false c33
                 have c33b1 : decide (54 < ((rd_T61 l0_1 x47_2).f0).size) = false:=decide_eq_false (by omega)
                 clear c33
                 have H':=qn.mk H
                 clear H
                 try go_wp2
                 have n0_ : qn ((((w23.setCell ⟨gb170,0,none⟩ (.string ((rd_T61 l0_1 x47_2).f0))).setCell ⟨gb170,1,none⟩ (.string ((rd_T61 l0_1 x47_2).f1))).setCell ⟨gb170,2,none⟩ (.int .i64 ((rd_T61 l0_1 x47_2).f2))).heap[gb161]? = some (.cells #[.int .i64 a0_0,.slice (some ad169) l0_1.length c0_1] 50 (0,0))):=⟨by (with_reducible repeat (first|refine qb ?_ _|refine qe ?_|refine qc ?_ _));refine blk_far ?_ NB161_170.out _;(with_reducible repeat (first|refine qb ?_ _|refine qe ?_|refine qc ?_ _));refine blk_far ?_ NB161_170.out _;(with_reducible repeat (first|refine qb ?_ _|refine qe ?_|refine qc ?_ _));refine blk_far ?_ NB161_170.out _;(with_reducible repeat (first|refine qb ?_ _|refine qe ?_|refine qc ?_ _));exact BK161.out⟩
                 have n1_ : qn ((((w23.setCell ⟨gb170,0,none⟩ (.string ((rd_T61 l0_1 x47_2).f0))).setCell ⟨gb170,1,none⟩ (.string ((rd_T61 l0_1 x47_2).f1))).setCell ⟨gb170,2,none⟩ (.int .i64 ((rd_T61 l0_1 x47_2).f2))).heap[gb170]? = some (.cells #[.string ((rd_T61 l0_1 x47_2).f0),.string ((rd_T61 l0_1 x47_2).f1),.int .i64 ((rd_T61 l0_1 x47_2).f2)] 61 (0,0))):=⟨by (with_reducible repeat (first|refine qb ?_ _|refine qe ?_|refine qc ?_ _));refine blk_put (cs:=#[.string ((rd_T61 l0_1 x47_2).f0),.string ((rd_T61 l0_1 x47_2).f1),.int .i64 0]) ?_ 2 _ rfl;(with_reducible repeat (first|refine qb ?_ _|refine qe ?_|refine qc ?_ _));refine blk_put (cs:=#[.string ((rd_T61 l0_1 x47_2).f0),.string (⟨#[]⟩ : ByteArray),.int .i64 0]) ?_ 1 _ rfl;(with_reducible repeat (first|refine qb ?_ _|refine qe ?_|refine qc ?_ _));refine blk_put (cs:=#[.string (⟨#[]⟩ : ByteArray),.string (⟨#[]⟩ : ByteArray),.int .i64 0]) ?_ 0 _ rfl;(with_reducible repeat (first|refine qb ?_ _|refine qe ?_|refine qc ?_ _));exact BK170.out⟩
                 have n2_ : qn (Below w.heap.size w (((w23.setCell ⟨gb170,0,none⟩ (.string ((rd_T61 l0_1 x47_2).f0))).setCell ⟨gb170,1,none⟩ (.string ((rd_T61 l0_1 x47_2).f1))).setCell ⟨gb170,2,none⟩ (.int .i64 ((rd_T61 l0_1 x47_2).f2)))):=⟨by repeat (first|(with_reducible first|exact HB.out|apply qf|apply qa|apply qd|refine qg ?_ GE161.out|refine qg ?_ GE170.out)|exact HB.out)⟩
                 (try clear BK161)
                 (try clear BK170)
                 (try clear HB)
                 generalize (((w23.setCell ⟨gb170,0,none⟩ (.string ((rd_T61 l0_1 x47_2).f0))).setCell ⟨gb170,1,none⟩ (.string ((rd_T61 l0_1 x47_2).f1))).setCell ⟨gb170,2,none⟩ (.int .i64 ((rd_T61 l0_1 x47_2).f2))) = w37 at n0_ n1_ n2_ ⊢
                 have BK161:=n0_
                 have BK170:=n1_
                 have HB:=n2_
                 clear n0_ n1_ n2_
                 have n0_:=qn.mk (qe BK161.out)
                 have n1_:=qn.mk (qe BK170.out)
                 have n2_:=qn.mk (qd HB.out)
                 clear BK161
                 clear BK170
                 clear HB
                 have BK161:=n0_
                 have BK170:=n1_
                 have HB:=n2_
                 clear n0_ n1_ n2_
                 have p172 : 0 ≤ ((ji29) : Int):=of_decide_eq_true (by first|(with_reducible assumption)|assumption)
                 have q172 : (ji29) < (l0_1.length : Int):=of_decide_eq_true (by first|(with_reducible assumption)|assumption)
                 obtain ⟨ad172,e172,hx172_0,hx172_1,hx172_2⟩:=at_T61 HR0_1.out (ji29) p172 q172
                 have hw172_2:=hx172_2
                 have hw172_1:=hx172_1
                 have hw172_0:=hx172_0
                 obtain rfl : ad169 = ad172:=(by injection e172)
                 replace hx172_0:=cb_ HB hx172_0
                 replace hx172_1:=cb_ HB hx172_1
                 replace hx172_2:=cb_ HB hx172_2
                 replace p172:=eq_true p172
                 replace q172:=eq_true q172
                 refine start_ (n:=33) (S:=fun w'=>w'.cell? ⟨gb161,0,none⟩ = some (.int .i64 a0_0) ∧ w'.cell? ⟨gb161,1,none⟩ = some (.slice (some ad169) l0_1.length c0_1) ∧ w'.cell? ⟨gb170,0,none⟩ = some (.string ((rd_T61 l0_1 x47_2).f0)) ∧ w'.cell? ⟨gb170,1,none⟩ = some (.string ((rd_T61 l0_1 x47_2).f1)) ∧ w'.cell? ⟨gb170,2,none⟩ = some (.int .i64 ((rd_T61 l0_1 x47_2).f2)) ∧ w'.cell? (ad169.add (((ji29)).toNat * 3)) = some (.string ((rd_T61 l0_1 (ji29)).f0)) ∧ w'.cell? ⟨(ad169.add (((ji29)).toNat * 3)).block,(ad169.add (((ji29)).toNat * 3)).off + 1,none⟩ = some (.string ((rd_T61 l0_1 (ji29)).f1)) ∧ w'.cell? ⟨(ad169.add (((ji29)).toNat * 3)).block,(ad169.add (((ji29)).toNat * 3)).off + 2,none⟩ = some (.int .i64 ((rd_T61 l0_1 (ji29)).f2))) (ds:=[]) #[false,false,false,false,false,false,false,false,false,false,false,false,false,false,false,false,false,false,false,false,false,false,false,false,false,false,false,false,false,false,false,false,false] (by kernel_rfl) rfl rfl ⟨(qh BK161.out 0).trans rfl,(qh BK161.out 1).trans rfl,(qh BK170.out 0).trans rfl,(qh BK170.out 1).trans rfl,(qh BK170.out 2).trans rfl,(cb_ HB hw172_0:),(cb_ HB hw172_1:),(cb_ HB hw172_2:)⟩ (fun hHeld=>?_);refine with_tabW impl_PageText.tab9 impl_PageText.bits9 (fun HT_ HW_=>?_)
                 generalize w37.drew = w38 at BK161 BK170 HB hx172_0 hx172_1 hx172_2 hHeld ⊢
                 refine pure_ (i:=0) (N:=some 52) (v:=?_) (a':=?_) #[true,false,false,false,false,false,false,false,false,false,false,false,false,false,false,false,false,false,false,false,false,false,false,false,false,false,false,false,false,false,false,false,false] rfl rfl (any_of HT_.out (by kernel_rfl)) (fun _ _ _ h=>h) (Or.inl ⟨by rfl,?_⟩) ?_ ?_
                 rotate_left
                 ·intro w'
                  go_simp
                  with_reducible rfl
                 rotate_left
                 ·simp only [Act.put,List.setIfInBounds_toArray,List.set_cons_zero,List.set_cons_succ,i64_w,i32_w]
                  rfl
                 refine take_ (i:=1) (N:=some 53) (v:=?_) (a':=?_) #[true,true,false,false,false,false,false,false,false,false,false,false,false,false,false,false,false,false,false,false,false,false,false,false,false,false,false,false,false,false,false,false,false] rfl rfl (take_ofW HT_.out HW_.out (by kernel_rfl)) (fun _ _ _ h=>h) (Or.inl ⟨by rfl,?_⟩) hHeld ?_ ?_
                 rotate_left
                 ·rintro w' ⟨s0,s1,s2,s3,s4,s5,s6,s7⟩
                  go_simp
                  with_reducible rfl
                 rotate_left
                 ·simp only [Act.put,List.setIfInBounds_toArray,List.set_cons_zero,List.set_cons_succ,i64_w,i32_w]
                  rfl
                 refine take_ (i:=2) (N:=some 54) (v:=?_) (a':=?_) #[true,true,true,false,false,false,false,false,false,false,false,false,false,false,false,false,false,false,false,false,false,false,false,false,false,false,false,false,false,false,false,false,false] rfl rfl (take_ofW HT_.out HW_.out (by kernel_rfl)) (fun _ _ _ h=>h) (Or.inl ⟨by rfl,?_⟩) hHeld ?_ ?_
                 rotate_left
                 ·rintro w' ⟨s0,s1,s2,s3,s4,s5,s6,s7⟩
                  go_simp
                  with_reducible rfl
                 rotate_left
                 ·simp only [Act.put,List.setIfInBounds_toArray,List.set_cons_zero,List.set_cons_succ,i64_w,i32_w]
                  rfl
                 refine one_ (i:=3) (N:=some 55) #[true,true,true,true,false,false,false,false,false,false,false,false,false,false,false,false,false,false,false,false,false,false,false,false,false,false,false,false,false,false,false,false,false] rfl rfl (one_of HT_.out (by kernel_rfl)) (by decide) (fun K hK=>?_)
                 refine goes_ Try.func96 (by kernel_rfl) rfl #[.int .i64 a0_0,.agg #[.string ((rd_T61 l0_1 x47_2).f0),.string ((rd_T61 l0_1 x47_2).f1),.int .i64 ((rd_T61 l0_1 x47_2).f2)]] (by rfl) rfl rfl (by (try simp only [List.map_toArray,List.map_cons,List.map_nil]);first|done|rfl|(simp only [List.length_drop,List.length_take];rfl)) ?_
                 with_reducible refine (impl_itemOk.calls a0_0 ((rd_T61 l0_1 x47_2).f0) ((rd_T61 l0_1 x47_2).f1) ((rd_T61 l0_1 x47_2).f2) true _ A26.out).mono ?_
                 rintro e w39 ⟨rfl,hb⟩
                 refine ⟨_,rfl,?_⟩
                 have n0_:=bb_ BK161 hb
                 have n1_:=bb_ BK170 hb
                 have n2_:=hs_ HB hb
                 clear BK161
                 clear BK170
                 clear HB
                 have BK161:=n0_
                 have BK170:=n1_
                 have HB:=n2_
                 clear n0_ n1_ n2_
                 (try clear hb)
                 (try clear hb2)
                 (try clear hk)
                 (try clear hi)
                 refine hK.out _ _ ⟨(qh BK161.out 0).trans rfl,(qh BK161.out 1).trans rfl,(qh BK170.out 0).trans rfl,(qh BK170.out 1).trans rfl,(qh BK170.out 2).trans rfl,(cb_ HB hw172_0:),(cb_ HB hw172_1:),(cb_ HB hw172_2:)⟩ (fun hHeld=>?_)
                 clear hK K
                 refine norm_ (a':=?_) ?_ ?_
                 rotate_left
                 ·show Act.put _ (some 55) _ = _
                  simp only [Act.put,List.setIfInBounds_toArray,List.set_cons_zero,List.set_cons_succ,i64_w,i32_w]
                  rfl
                 refine pure_ (i:=4) (N:=some 56) (v:=?_) (a':=?_) #[true,true,true,true,true,false,false,false,false,false,false,false,false,false,false,false,false,false,false,false,false,false,false,false,false,false,false,false,false,false,false,false,false] rfl rfl (any_of HT_.out (by kernel_rfl)) (fun _ _ _ h=>h) (Or.inl ⟨by rfl,?_⟩) ?_ ?_
                 rotate_left
                 ·intro w'
                  go_simp
                  with_reducible rfl
                 rotate_left
                 ·simp only [Act.put,List.setIfInBounds_toArray,List.set_cons_zero,List.set_cons_succ,i64_w,i32_w]
                  rfl
                 refine pure_ (i:=5) (N:=some 57) (v:=?_) (a':=?_) #[true,true,true,true,true,true,false,false,false,false,false,false,false,false,false,false,false,false,false,false,false,false,false,false,false,false,false,false,false,false,false,false,false] rfl rfl (any_of HT_.out (by kernel_rfl)) (fun _ _ _ h=>h) (Or.inl ⟨by rfl,?_⟩) ?_ ?_
                 rotate_left
                 ·intro w'
                  go_simp
                  with_reducible rfl
                 rotate_left
                 ·simp only [Act.put,List.setIfInBounds_toArray,List.set_cons_zero,List.set_cons_succ,i64_w,i32_w]
                  rfl
                 refine pure_ (i:=6) (N:=some 58) (v:=?_) (a':=?_) #[true,true,true,true,true,true,true,false,false,false,false,false,false,false,false,false,false,false,false,false,false,false,false,false,false,false,false,false,false,false,false,false,false] rfl rfl (any_of HT_.out (by kernel_rfl)) (fun _ _ _ h=>h) (Or.inl ⟨by rfl,?_⟩) ?_ ?_
                 rotate_left
                 ·intro w'
                  go_simp
                  with_reducible rfl
                 rotate_left
                 ·simp only [Act.put,List.setIfInBounds_toArray,List.set_cons_zero,List.set_cons_succ,i64_w,i32_w]
                  rfl
                 refine pure_ (i:=7) (N:=some 59) (v:=?_) (a':=?_) #[true,true,true,true,true,true,true,true,false,false,false,false,false,false,false,false,false,false,false,false,false,false,false,false,false,false,false,false,false,false,false,false,false] rfl rfl (any_of HT_.out (by kernel_rfl)) (fun _ _ _ h=>h) (Or.inl ⟨by rfl,?_⟩) ?_ ?_
                 rotate_left
                 ·intro w'
                  go_simp
                  with_reducible rfl
                 rotate_left
                 ·simp only [Act.put,List.setIfInBounds_toArray,List.set_cons_zero,List.set_cons_succ,i64_w,i32_w]
                  rfl
                 refine pure_ (i:=8) (N:=some 60) (v:=?_) (a':=?_) #[true,true,true,true,true,true,true,true,true,false,false,false,false,false,false,false,false,false,false,false,false,false,false,false,false,false,false,false,false,false,false,false,false] rfl rfl (any_of HT_.out (by kernel_rfl)) (fun _ _ _ h=>h) (Or.inl ⟨by rfl,?_⟩) ?_ ?_
                 rotate_left
                 ·intro w'
                  go_simp
                  with_reducible rfl
                 rotate_left
                 ·simp only [Act.put,List.setIfInBounds_toArray,List.set_cons_zero,List.set_cons_succ,i64_w,i32_w]
                  rfl
                 refine pure_ (i:=9) (N:=some 61) (v:=?_) (a':=?_) #[true,true,true,true,true,true,true,true,true,true,false,false,false,false,false,false,false,false,false,false,false,false,false,false,false,false,false,false,false,false,false,false,false] rfl rfl (any_of HT_.out (by kernel_rfl)) (fun _ _ _ h=>h) (Or.inl ⟨by rfl,?_⟩) ?_ ?_
                 rotate_left
                 ·intro w'
                  go_simp
                  with_reducible rfl
                 rotate_left
                 ·simp only [Act.put,List.setIfInBounds_toArray,List.set_cons_zero,List.set_cons_succ,i64_w,i32_w]
                  rfl
                 refine pure_ (i:=11) (N:=some 63) (v:=?_) (a':=?_) #[true,true,true,true,true,true,true,true,true,true,false,true,false,false,false,false,false,false,false,false,false,false,false,false,false,false,false,false,false,false,false,false,false] rfl rfl (any_of HT_.out (by kernel_rfl)) (fun _ _ _ h=>h) (Or.inl ⟨by rfl,?_⟩) ?_ ?_
                 rotate_left
                 ·intro w'
                  go_simp
                  with_reducible rfl
                 rotate_left
                 ·simp only [Act.put,List.setIfInBounds_toArray,List.set_cons_zero,List.set_cons_succ,i64_w,i32_w]
                  rfl
                 refine pure_ (i:=12) (N:=some 64) (v:=?_) (a':=?_) #[true,true,true,true,true,true,true,true,true,true,false,true,true,false,false,false,false,false,false,false,false,false,false,false,false,false,false,false,false,false,false,false,false] rfl rfl (any_of HT_.out (by kernel_rfl)) (fun _ _ _ h=>h) (Or.inl ⟨by rfl,?_⟩) ?_ ?_
                 rotate_left
                 ·intro w'
                  go_simp
                  with_reducible rfl
                 rotate_left
                 ·simp only [Act.put,List.setIfInBounds_toArray,List.set_cons_zero,List.set_cons_succ,i64_w,i32_w]
                  rfl
                 refine pure_ (i:=16) (N:=some 68) (v:=?_) (a':=?_) #[true,true,true,true,true,true,true,true,true,true,false,true,true,false,false,false,true,false,false,false,false,false,false,false,false,false,false,false,false,false,false,false,false] rfl rfl (any_of HT_.out (by kernel_rfl)) (fun _ _ _ h=>h) (Or.inl ⟨by rfl,?_⟩) ?_ ?_
                 rotate_left
                 ·intro w'
                  go_simp
                  with_reducible rfl
                 rotate_left
                 ·simp only [Act.put,List.setIfInBounds_toArray,List.set_cons_zero,List.set_cons_succ,i64_w,i32_w]
                  rfl
                 refine take_ (i:=10) (N:=some 62) (v:=?_) (a':=?_) #[true,true,true,true,true,true,true,true,true,true,true,true,true,false,false,false,true,false,false,false,false,false,false,false,false,false,false,false,false,false,false,false,false] rfl rfl (take_ofW HT_.out HW_.out (by kernel_rfl)) (fun _ _ _ h=>h) (Or.inl ⟨by rfl,?_⟩) hHeld ?_ ?_
                 rotate_left
                 ·rintro w' ⟨s0,s1,s2,s3,s4,s5,s6,s7⟩
                  go_simp
                  with_reducible rfl
                 rotate_left
                 ·simp only [Act.put,List.setIfInBounds_toArray,List.set_cons_zero,List.set_cons_succ,i64_w,i32_w]
                  rfl
                 refine pure_ (i:=13) (N:=some 65) (v:=?_) (a':=?_) #[true,true,true,true,true,true,true,true,true,true,true,true,true,true,false,false,true,false,false,false,false,false,false,false,false,false,false,false,false,false,false,false,false] rfl rfl (any_of HT_.out (by kernel_rfl)) (fun _ _ _ h=>h) (Or.inl ⟨by rfl,?_⟩) ?_ ?_
                 rotate_left
                 ·intro w'
                  go_simp
                  with_reducible rfl
                 rotate_left
                 ·simp only [Act.put,List.setIfInBounds_toArray,List.set_cons_zero,List.set_cons_succ,i64_w,i32_w]
                  rfl
                 refine pure_ (i:=14) (N:=some 66) (v:=?_) (a':=?_) #[true,true,true,true,true,true,true,true,true,true,true,true,true,true,true,false,true,false,false,false,false,false,false,false,false,false,false,false,false,false,false,false,false] rfl rfl (any_of HT_.out (by kernel_rfl)) (fun _ _ _ h=>h) (Or.inl ⟨by rfl,?_⟩) ?_ ?_
                 rotate_left
                 ·intro w'
                  go_simp
                  with_reducible rfl
                 rotate_left
                 ·simp only [Act.put,List.setIfInBounds_toArray,List.set_cons_zero,List.set_cons_succ,i64_w,i32_w]
                  rfl
                 refine take_ (i:=15) (N:=some 67) (v:=?_) (a':=?_) #[true,true,true,true,true,true,true,true,true,true,true,true,true,true,true,true,true,false,false,false,false,false,false,false,false,false,false,false,false,false,false,false,false] rfl rfl (take_ofW HT_.out HW_.out (by kernel_rfl)) (fun _ _ _ h=>h) (Or.inl ⟨by rfl,?_⟩) hHeld ?_ ?_
                 rotate_left
                 ·rintro w' ⟨s0,s1,s2,s3,s4,s5,s6,s7⟩
                  go_simp
                  with_reducible rfl
                 rotate_left
                 ·simp only [Act.put,List.setIfInBounds_toArray,List.set_cons_zero,List.set_cons_succ,i64_w,i32_w]
                  rfl
                 refine take_ (i:=17) (N:=some 69) (v:=?_) (a':=?_) #[true,true,true,true,true,true,true,true,true,true,true,true,true,true,true,true,true,true,false,false,false,false,false,false,false,false,false,false,false,false,false,false,false] rfl rfl (take_ofW HT_.out HW_.out (by kernel_rfl)) (fun _ _ _ h=>h) (Or.inl ⟨by rfl,?_⟩) hHeld ?_ ?_
                 rotate_left
                 ·rintro w' ⟨s0,s1,s2,s3,s4,s5,s6,s7⟩
                  go_simp
                  with_reducible rfl
                 rotate_left
                 ·simp only [Act.put,List.setIfInBounds_toArray,List.set_cons_zero,List.set_cons_succ,i64_w,i32_w]
                  rfl
                 refine pure_ (i:=18) (N:=some 70) (v:=?_) (a':=?_) #[true,true,true,true,true,true,true,true,true,true,true,true,true,true,true,true,true,true,true,false,false,false,false,false,false,false,false,false,false,false,false,false,false] rfl rfl (any_of HT_.out (by kernel_rfl)) (fun _ _ _ h=>h) (Or.inl ⟨by rfl,?_⟩) ?_ ?_
                 rotate_left
                 ·intro w'
                  go_simp
                  with_reducible rfl
                 rotate_left
                 ·simp only [Act.put,List.setIfInBounds_toArray,List.set_cons_zero,List.set_cons_succ,i64_w,i32_w]
                  rfl
                 refine pure_ (i:=19) (N:=some 71) (v:=?_) (a':=?_) #[true,true,true,true,true,true,true,true,true,true,true,true,true,true,true,true,true,true,true,true,false,false,false,false,false,false,false,false,false,false,false,false,false] rfl rfl (any_of HT_.out (by kernel_rfl)) (fun _ _ _ h=>h) (Or.inl ⟨by rfl,?_⟩) ?_ ?_
                 rotate_left
                 ·intro w'
                  go_simp
                  with_reducible rfl
                 rotate_left
                 ·simp only [Act.put,List.setIfInBounds_toArray,List.set_cons_zero,List.set_cons_succ,i64_w,i32_w]
                  rfl
                 refine pure_ (i:=20) (N:=some 72) (v:=?_) (a':=?_) #[true,true,true,true,true,true,true,true,true,true,true,true,true,true,true,true,true,true,true,true,true,false,false,false,false,false,false,false,false,false,false,false,false] rfl rfl (any_of HT_.out (by kernel_rfl)) (fun _ _ _ h=>h) (Or.inl ⟨by rfl,?_⟩) ?_ ?_
                 rotate_left
                 ·intro w'
                  go_simp
                  with_reducible rfl
                 rotate_left
                 ·simp only [Act.put,List.setIfInBounds_toArray,List.set_cons_zero,List.set_cons_succ,i64_w,i32_w]
                  rfl
                 refine pure_ (i:=21) (N:=some 73) (v:=?_) (a':=?_) #[true,true,true,true,true,true,true,true,true,true,true,true,true,true,true,true,true,true,true,true,true,true,false,false,false,false,false,false,false,false,false,false,false] rfl rfl (any_of HT_.out (by kernel_rfl)) (fun _ _ _ h=>h) (Or.inl ⟨by rfl,?_⟩) ?_ ?_
                 rotate_left
                 ·intro w'
                  go_simp
                  with_reducible rfl
                 rotate_left
                 ·simp only [Act.put,List.setIfInBounds_toArray,List.set_cons_zero,List.set_cons_succ,i64_w,i32_w]
                  rfl
                 refine pure_ (i:=22) (N:=some 74) (v:=?_) (a':=?_) #[true,true,true,true,true,true,true,true,true,true,true,true,true,true,true,true,true,true,true,true,true,true,true,false,false,false,false,false,false,false,false,false,false] rfl rfl (any_of HT_.out (by kernel_rfl)) (fun _ _ _ h=>h) (Or.inl ⟨by rfl,?_⟩) ?_ ?_
                 rotate_left
                 ·intro w'
                  go_simp
                  with_reducible rfl
                 rotate_left
                 ·simp only [Act.put,List.setIfInBounds_toArray,List.set_cons_zero,List.set_cons_succ,i64_w,i32_w]
                  rfl
                 refine take_ (i:=23) (N:=some 75) (v:=?_) (a':=?_) #[true,true,true,true,true,true,true,true,true,true,true,true,true,true,true,true,true,true,true,true,true,true,true,true,false,false,false,false,false,false,false,false,false] rfl rfl (take_ofW HT_.out HW_.out (by kernel_rfl)) (fun _ _ _ h=>h) (Or.inl ⟨by rfl,?_⟩) hHeld ?_ ?_
                 rotate_left
                 ·rintro w' ⟨s0,s1,s2,s3,s4,s5,s6,s7⟩
                  go_simp
                  with_reducible rfl
                 rotate_left
                 ·simp only [Act.put,List.setIfInBounds_toArray,List.set_cons_zero,List.set_cons_succ,i64_w,i32_w]
                  rfl
                 refine pure_ (i:=24) (N:=some 76) (v:=?_) (a':=?_) #[true,true,true,true,true,true,true,true,true,true,true,true,true,true,true,true,true,true,true,true,true,true,true,true,true,false,false,false,false,false,false,false,false] rfl rfl (any_of HT_.out (by kernel_rfl)) (fun _ _ _ h=>h) (Or.inl ⟨by rfl,?_⟩) ?_ ?_
                 rotate_left
                 ·intro w'
                  go_simp
                  with_reducible rfl
                 rotate_left
                 ·simp only [Act.put,List.setIfInBounds_toArray,List.set_cons_zero,List.set_cons_succ,i64_w,i32_w]
                  rfl
                 refine pure_ (i:=25) (N:=some 77) (v:=?_) (a':=?_) #[true,true,true,true,true,true,true,true,true,true,true,true,true,true,true,true,true,true,true,true,true,true,true,true,true,true,false,false,false,false,false,false,false] rfl rfl (any_of HT_.out (by kernel_rfl)) (fun _ _ _ h=>h) (Or.inl ⟨by rfl,?_⟩) ?_ ?_
                 rotate_left
                 ·intro w'
                  go_simp
                  with_reducible rfl
                 rotate_left
                 ·simp only [Act.put,List.setIfInBounds_toArray,List.set_cons_zero,List.set_cons_succ,i64_w,i32_w]
                  rfl
                 refine pure_ (i:=26) (N:=some 78) (v:=?_) (a':=?_) #[true,true,true,true,true,true,true,true,true,true,true,true,true,true,true,true,true,true,true,true,true,true,true,true,true,true,true,false,false,false,false,false,false] rfl rfl (any_of HT_.out (by kernel_rfl)) (fun _ _ _ h=>h) (Or.inl ⟨by rfl,?_⟩) ?_ ?_
                 rotate_left
                 ·intro w'
                  go_simp
                  with_reducible rfl
                 rotate_left
                 ·simp only [Act.put,List.setIfInBounds_toArray,List.set_cons_zero,List.set_cons_succ,i64_w,i32_w]
                  rfl
                 refine pure_ (i:=27) (N:=some 79) (v:=?_) (a':=?_) #[true,true,true,true,true,true,true,true,true,true,true,true,true,true,true,true,true,true,true,true,true,true,true,true,true,true,true,true,false,false,false,false,false] rfl rfl (any_of HT_.out (by kernel_rfl)) (fun _ _ _ h=>h) (Or.inl ⟨by rfl,?_⟩) ?_ ?_
                 rotate_left
                 ·intro w'
                  go_simp
                  with_reducible rfl
                 rotate_left
                 ·simp only [Act.put,List.setIfInBounds_toArray,List.set_cons_zero,List.set_cons_succ,i64_w,i32_w]
                  rfl
                 refine pure_ (i:=28) (N:=some 80) (v:=?_) (a':=?_) #[true,true,true,true,true,true,true,true,true,true,true,true,true,true,true,true,true,true,true,true,true,true,true,true,true,true,true,true,true,false,false,false,false] rfl rfl (any_of HT_.out (by kernel_rfl)) (fun _ _ _ h=>h) (Or.inl ⟨by rfl,?_⟩) ?_ ?_
                 rotate_left
                 ·intro w'
                  go_simp
                  with_reducible rfl
                 rotate_left
                 ·simp only [Act.put,List.setIfInBounds_toArray,List.set_cons_zero,List.set_cons_succ,i64_w,i32_w]
                  rfl
                 refine take_ (i:=29) (N:=some 81) (v:=?_) (a':=?_) #[true,true,true,true,true,true,true,true,true,true,true,true,true,true,true,true,true,true,true,true,true,true,true,true,true,true,true,true,true,true,false,false,false] rfl rfl (take_ofW HT_.out HW_.out (by kernel_rfl)) (fun _ _ _ h=>h) (Or.inl ⟨by rfl,?_⟩) hHeld ?_ ?_
                 rotate_left
                 ·rintro w' ⟨s0,s1,s2,s3,s4,s5,s6,s7⟩
                  go_simp
                  with_reducible rfl
                 rotate_left
                 ·simp only [Act.put,List.setIfInBounds_toArray,List.set_cons_zero,List.set_cons_succ,i64_w,i32_w]
                  rfl
                 refine pure_ (i:=30) (N:=some 82) (v:=?_) (a':=?_) #[true,true,true,true,true,true,true,true,true,true,true,true,true,true,true,true,true,true,true,true,true,true,true,true,true,true,true,true,true,true,true,false,false] rfl rfl (any_of HT_.out (by kernel_rfl)) (fun _ _ _ h=>h) (Or.inl ⟨by rfl,?_⟩) ?_ ?_
                 rotate_left
                 ·intro w'
                  go_simp
                  with_reducible rfl
                 rotate_left
                 ·simp only [Act.put,List.setIfInBounds_toArray,List.set_cons_zero,List.set_cons_succ,i64_w,i32_w]
                  rfl
                 refine pure_ (i:=31) (N:=some 83) (v:=?_) (a':=?_) #[true,true,true,true,true,true,true,true,true,true,true,true,true,true,true,true,true,true,true,true,true,true,true,true,true,true,true,true,true,true,true,true,false] rfl rfl (any_of HT_.out (by kernel_rfl)) (fun _ _ _ h=>h) (Or.inl ⟨by rfl,?_⟩) ?_ ?_
                 rotate_left
                 ·intro w'
                  go_simp
                  with_reducible rfl
                 rotate_left
                 ·simp only [Act.put,List.setIfInBounds_toArray,List.set_cons_zero,List.set_cons_succ,i64_w,i32_w]
                  rfl
                 refine pure_ (i:=32) (N:=some 84) (v:=?_) (a':=?_) #[true,true,true,true,true,true,true,true,true,true,true,true,true,true,true,true,true,true,true,true,true,true,true,true,true,true,true,true,true,true,true,true,true] rfl rfl (any_of HT_.out (by kernel_rfl)) (fun _ _ _ h=>h) (Or.inl ⟨by rfl,?_⟩) ?_ ?_
                 rotate_left
                 ·intro w'
                  go_simp
                  with_reducible rfl
                 rotate_left
                 ·simp only [Act.put,List.setIfInBounds_toArray,List.set_cons_zero,List.set_cons_succ,i64_w,i32_w]
                  rfl
                 refine done_ (done_of HT_.out (by kernel_rfl)) ?_
                 try go_wp2
                 go_meet
                 case rel=>exact ⟨_,(decide ((((rd_T61 l0_1 x47_2).f1).size : Int) > 54)),(by first|rfl|(simp;done)|(simp [*];done)),H',⟨by have:=HJ1.out;have:=HK2.out;first|omega|exact Nat.le_refl _⟩,⟨by (with_reducible repeat (first|refine qb ?_ _|refine qe ?_|refine qc ?_ _));exact BK161.out⟩,⟨by (with_reducible repeat (first|refine qb ?_ _|refine qe ?_|refine qc ?_ _));exact BK170.out⟩,⟨by repeat (first|(with_reducible first|exact HB.out|apply qf|apply qa|apply qd|refine qg ?_ GE161.out|refine qg ?_ GE170.out)|exact HB.out)⟩⟩
               ·rw [if_neg c32] at H
                have c32b0 : (Op.bytesLess (((rd_T61 l0_1 (ji29)).f0).toList) (((rd_T61 l0_1 x47_2).f0).toList)) = false:=by simpa using c32
                clear c32
                have H':=qn.mk H
                clear H
                try go_wp2
                have n0_ : qn ((((w23.setCell ⟨gb170,0,none⟩ (.string ((rd_T61 l0_1 x47_2).f0))).setCell ⟨gb170,1,none⟩ (.string ((rd_T61 l0_1 x47_2).f1))).setCell ⟨gb170,2,none⟩ (.int .i64 ((rd_T61 l0_1 x47_2).f2))).heap[gb161]? = some (.cells #[.int .i64 a0_0,.slice (some ad169) l0_1.length c0_1] 50 (0,0))):=⟨by (with_reducible repeat (first|refine qb ?_ _|refine qe ?_|refine qc ?_ _));refine blk_far ?_ NB161_170.out _;(with_reducible repeat (first|refine qb ?_ _|refine qe ?_|refine qc ?_ _));refine blk_far ?_ NB161_170.out _;(with_reducible repeat (first|refine qb ?_ _|refine qe ?_|refine qc ?_ _));refine blk_far ?_ NB161_170.out _;(with_reducible repeat (first|refine qb ?_ _|refine qe ?_|refine qc ?_ _));exact BK161.out⟩
                have n1_ : qn ((((w23.setCell ⟨gb170,0,none⟩ (.string ((rd_T61 l0_1 x47_2).f0))).setCell ⟨gb170,1,none⟩ (.string ((rd_T61 l0_1 x47_2).f1))).setCell ⟨gb170,2,none⟩ (.int .i64 ((rd_T61 l0_1 x47_2).f2))).heap[gb170]? = some (.cells #[.string ((rd_T61 l0_1 x47_2).f0),.string ((rd_T61 l0_1 x47_2).f1),.int .i64 ((rd_T61 l0_1 x47_2).f2)] 61 (0,0))):=⟨by (with_reducible repeat (first|refine qb ?_ _|refine qe ?_|refine qc ?_ _));refine blk_put (cs:=#[.string ((rd_T61 l0_1 x47_2).f0),.string ((rd_T61 l0_1 x47_2).f1),.int .i64 0]) ?_ 2 _ rfl;(with_reducible repeat (first|refine qb ?_ _|refine qe ?_|refine qc ?_ _));refine blk_put (cs:=#[.string ((rd_T61 l0_1 x47_2).f0),.string (⟨#[]⟩ : ByteArray),.int .i64 0]) ?_ 1 _ rfl;(with_reducible repeat (first|refine qb ?_ _|refine qe ?_|refine qc ?_ _));refine blk_put (cs:=#[.string (⟨#[]⟩ : ByteArray),.string (⟨#[]⟩ : ByteArray),.int .i64 0]) ?_ 0 _ rfl;(with_reducible repeat (first|refine qb ?_ _|refine qe ?_|refine qc ?_ _));exact BK170.out⟩
                have n2_ : qn (Below w.heap.size w (((w23.setCell ⟨gb170,0,none⟩ (.string ((rd_T61 l0_1 x47_2).f0))).setCell ⟨gb170,1,none⟩ (.string ((rd_T61 l0_1 x47_2).f1))).setCell ⟨gb170,2,none⟩ (.int .i64 ((rd_T61 l0_1 x47_2).f2)))):=⟨by repeat (first|(with_reducible first|exact HB.out|apply qf|apply qa|apply qd|refine qg ?_ GE161.out|refine qg ?_ GE170.out)|exact HB.out)⟩
                (try clear BK161)
                (try clear BK170)
                (try clear HB)
                generalize (((w23.setCell ⟨gb170,0,none⟩ (.string ((rd_T61 l0_1 x47_2).f0))).setCell ⟨gb170,1,none⟩ (.string ((rd_T61 l0_1 x47_2).f1))).setCell ⟨gb170,2,none⟩ (.int .i64 ((rd_T61 l0_1 x47_2).f2))) = w40 at n0_ n1_ n2_ ⊢
                have BK161:=n0_
                have BK170:=n1_
                have HB:=n2_
                clear n0_ n1_ n2_
                have n0_:=qn.mk (qe BK161.out)
                have n1_:=qn.mk (qe BK170.out)
                have n2_:=qn.mk (qd HB.out)
                clear BK161
                clear BK170
                clear HB
                have BK161:=n0_
                have BK170:=n1_
                have HB:=n2_
                clear n0_ n1_ n2_
                have p172 : 0 ≤ ((ji29) : Int):=of_decide_eq_true (by first|(with_reducible assumption)|assumption)
                have q172 : (ji29) < (l0_1.length : Int):=of_decide_eq_true (by first|(with_reducible assumption)|assumption)
                obtain ⟨ad172,e172,hx172_0,hx172_1,hx172_2⟩:=at_T61 HR0_1.out (ji29) p172 q172
                have hw172_2:=hx172_2
                have hw172_1:=hx172_1
                have hw172_0:=hx172_0
                obtain rfl : ad169 = ad172:=(by injection e172)
                replace hx172_0:=cb_ HB hx172_0
                replace hx172_1:=cb_ HB hx172_1
                replace hx172_2:=cb_ HB hx172_2
                replace p172:=eq_true p172
                replace q172:=eq_true q172
                refine start_ (n:=33) (S:=fun w'=>w'.cell? ⟨gb161,0,none⟩ = some (.int .i64 a0_0) ∧ w'.cell? ⟨gb161,1,none⟩ = some (.slice (some ad169) l0_1.length c0_1) ∧ w'.cell? ⟨gb170,0,none⟩ = some (.string ((rd_T61 l0_1 x47_2).f0)) ∧ w'.cell? ⟨gb170,1,none⟩ = some (.string ((rd_T61 l0_1 x47_2).f1)) ∧ w'.cell? ⟨gb170,2,none⟩ = some (.int .i64 ((rd_T61 l0_1 x47_2).f2)) ∧ w'.cell? (ad169.add (((ji29)).toNat * 3)) = some (.string ((rd_T61 l0_1 (ji29)).f0)) ∧ w'.cell? ⟨(ad169.add (((ji29)).toNat * 3)).block,(ad169.add (((ji29)).toNat * 3)).off + 1,none⟩ = some (.string ((rd_T61 l0_1 (ji29)).f1)) ∧ w'.cell? ⟨(ad169.add (((ji29)).toNat * 3)).block,(ad169.add (((ji29)).toNat * 3)).off + 2,none⟩ = some (.int .i64 ((rd_T61 l0_1 (ji29)).f2))) (ds:=[]) #[false,false,false,false,false,false,false,false,false,false,false,false,false,false,false,false,false,false,false,false,false,false,false,false,false,false,false,false,false,false,false,false,false] (by kernel_rfl) rfl rfl ⟨(qh BK161.out 0).trans rfl,(qh BK161.out 1).trans rfl,(qh BK170.out 0).trans rfl,(qh BK170.out 1).trans rfl,(qh BK170.out 2).trans rfl,(cb_ HB hw172_0:),(cb_ HB hw172_1:),(cb_ HB hw172_2:)⟩ (fun hHeld=>?_);refine with_tabW impl_PageText.tab9 impl_PageText.bits9 (fun HT_ HW_=>?_)
                generalize w40.drew = w41 at BK161 BK170 HB hx172_0 hx172_1 hx172_2 hHeld ⊢
                refine pure_ (i:=0) (N:=some 52) (v:=?_) (a':=?_) #[true,false,false,false,false,false,false,false,false,false,false,false,false,false,false,false,false,false,false,false,false,false,false,false,false,false,false,false,false,false,false,false,false] rfl rfl (any_of HT_.out (by kernel_rfl)) (fun _ _ _ h=>h) (Or.inl ⟨by rfl,?_⟩) ?_ ?_
                rotate_left
                ·intro w'
                 go_simp
                 with_reducible rfl
                rotate_left
                ·simp only [Act.put,List.setIfInBounds_toArray,List.set_cons_zero,List.set_cons_succ,i64_w,i32_w]
                 rfl
                refine take_ (i:=1) (N:=some 53) (v:=?_) (a':=?_) #[true,true,false,false,false,false,false,false,false,false,false,false,false,false,false,false,false,false,false,false,false,false,false,false,false,false,false,false,false,false,false,false,false] rfl rfl (take_ofW HT_.out HW_.out (by kernel_rfl)) (fun _ _ _ h=>h) (Or.inl ⟨by rfl,?_⟩) hHeld ?_ ?_
                rotate_left
                ·rintro w' ⟨s0,s1,s2,s3,s4,s5,s6,s7⟩
                 go_simp
                 with_reducible rfl
                rotate_left
                ·simp only [Act.put,List.setIfInBounds_toArray,List.set_cons_zero,List.set_cons_succ,i64_w,i32_w]
                 rfl
                refine take_ (i:=2) (N:=some 54) (v:=?_) (a':=?_) #[true,true,true,false,false,false,false,false,false,false,false,false,false,false,false,false,false,false,false,false,false,false,false,false,false,false,false,false,false,false,false,false,false] rfl rfl (take_ofW HT_.out HW_.out (by kernel_rfl)) (fun _ _ _ h=>h) (Or.inl ⟨by rfl,?_⟩) hHeld ?_ ?_
                rotate_left
                ·rintro w' ⟨s0,s1,s2,s3,s4,s5,s6,s7⟩
                 go_simp
                 with_reducible rfl
                rotate_left
                ·simp only [Act.put,List.setIfInBounds_toArray,List.set_cons_zero,List.set_cons_succ,i64_w,i32_w]
                 rfl
                refine one_ (i:=3) (N:=some 55) #[true,true,true,true,false,false,false,false,false,false,false,false,false,false,false,false,false,false,false,false,false,false,false,false,false,false,false,false,false,false,false,false,false] rfl rfl (one_of HT_.out (by kernel_rfl)) (by decide) (fun K hK=>?_)
                refine goes_ Try.func96 (by kernel_rfl) rfl #[.int .i64 a0_0,.agg #[.string ((rd_T61 l0_1 x47_2).f0),.string ((rd_T61 l0_1 x47_2).f1),.int .i64 ((rd_T61 l0_1 x47_2).f2)]] (by rfl) rfl rfl (by (try simp only [List.map_toArray,List.map_cons,List.map_nil]);first|done|rfl|(simp only [List.length_drop,List.length_take];rfl)) ?_
                with_reducible refine (impl_itemOk.calls a0_0 ((rd_T61 l0_1 x47_2).f0) ((rd_T61 l0_1 x47_2).f1) ((rd_T61 l0_1 x47_2).f2) true _ A26.out).mono ?_
                rintro e w42 ⟨rfl,hb⟩
                refine ⟨_,rfl,?_⟩
                have n0_:=bb_ BK161 hb
                have n1_:=bb_ BK170 hb
                have n2_:=hs_ HB hb
                clear BK161
                clear BK170
                clear HB
                have BK161:=n0_
                have BK170:=n1_
                have HB:=n2_
                clear n0_ n1_ n2_
                (try clear hb)
                (try clear hb2)
                (try clear hk)
                (try clear hi)
                refine hK.out _ _ ⟨(qh BK161.out 0).trans rfl,(qh BK161.out 1).trans rfl,(qh BK170.out 0).trans rfl,(qh BK170.out 1).trans rfl,(qh BK170.out 2).trans rfl,(cb_ HB hw172_0:),(cb_ HB hw172_1:),(cb_ HB hw172_2:)⟩ (fun hHeld=>?_)
                clear hK K
                refine norm_ (a':=?_) ?_ ?_
                rotate_left
                ·show Act.put _ (some 55) _ = _
                 simp only [Act.put,List.setIfInBounds_toArray,List.set_cons_zero,List.set_cons_succ,i64_w,i32_w]
                 rfl
                refine pure_ (i:=4) (N:=some 56) (v:=?_) (a':=?_) #[true,true,true,true,true,false,false,false,false,false,false,false,false,false,false,false,false,false,false,false,false,false,false,false,false,false,false,false,false,false,false,false,false] rfl rfl (any_of HT_.out (by kernel_rfl)) (fun _ _ _ h=>h) (Or.inl ⟨by rfl,?_⟩) ?_ ?_
                rotate_left
                ·intro w'
                 go_simp
                 with_reducible rfl
                rotate_left
                ·simp only [Act.put,List.setIfInBounds_toArray,List.set_cons_zero,List.set_cons_succ,i64_w,i32_w]
                 rfl
                refine pure_ (i:=5) (N:=some 57) (v:=?_) (a':=?_) #[true,true,true,true,true,true,false,false,false,false,false,false,false,false,false,false,false,false,false,false,false,false,false,false,false,false,false,false,false,false,false,false,false] rfl rfl (any_of HT_.out (by kernel_rfl)) (fun _ _ _ h=>h) (Or.inl ⟨by rfl,?_⟩) ?_ ?_
                rotate_left
                ·intro w'
                 go_simp
                 with_reducible rfl
                rotate_left
                ·simp only [Act.put,List.setIfInBounds_toArray,List.set_cons_zero,List.set_cons_succ,i64_w,i32_w]
                 rfl
                refine pure_ (i:=6) (N:=some 58) (v:=?_) (a':=?_) #[true,true,true,true,true,true,true,false,false,false,false,false,false,false,false,false,false,false,false,false,false,false,false,false,false,false,false,false,false,false,false,false,false] rfl rfl (any_of HT_.out (by kernel_rfl)) (fun _ _ _ h=>h) (Or.inl ⟨by rfl,?_⟩) ?_ ?_
                rotate_left
                ·intro w'
                 go_simp
                 with_reducible rfl
                rotate_left
                ·simp only [Act.put,List.setIfInBounds_toArray,List.set_cons_zero,List.set_cons_succ,i64_w,i32_w]
                 rfl
                refine pure_ (i:=7) (N:=some 59) (v:=?_) (a':=?_) #[true,true,true,true,true,true,true,true,false,false,false,false,false,false,false,false,false,false,false,false,false,false,false,false,false,false,false,false,false,false,false,false,false] rfl rfl (any_of HT_.out (by kernel_rfl)) (fun _ _ _ h=>h) (Or.inl ⟨by rfl,?_⟩) ?_ ?_
                rotate_left
                ·intro w'
                 go_simp
                 with_reducible rfl
                rotate_left
                ·simp only [Act.put,List.setIfInBounds_toArray,List.set_cons_zero,List.set_cons_succ,i64_w,i32_w]
                 rfl
                refine pure_ (i:=8) (N:=some 60) (v:=?_) (a':=?_) #[true,true,true,true,true,true,true,true,true,false,false,false,false,false,false,false,false,false,false,false,false,false,false,false,false,false,false,false,false,false,false,false,false] rfl rfl (any_of HT_.out (by kernel_rfl)) (fun _ _ _ h=>h) (Or.inl ⟨by rfl,?_⟩) ?_ ?_
                rotate_left
                ·intro w'
                 go_simp
                 with_reducible rfl
                rotate_left
                ·simp only [Act.put,List.setIfInBounds_toArray,List.set_cons_zero,List.set_cons_succ,i64_w,i32_w]
                 rfl
                refine pure_ (i:=9) (N:=some 61) (v:=?_) (a':=?_) #[true,true,true,true,true,true,true,true,true,true,false,false,false,false,false,false,false,false,false,false,false,false,false,false,false,false,false,false,false,false,false,false,false] rfl rfl (any_of HT_.out (by kernel_rfl)) (fun _ _ _ h=>h) (Or.inl ⟨by rfl,?_⟩) ?_ ?_
                rotate_left
                ·intro w'
                 go_simp
                 with_reducible rfl
                rotate_left
                ·simp only [Act.put,List.setIfInBounds_toArray,List.set_cons_zero,List.set_cons_succ,i64_w,i32_w]
                 rfl
                refine pure_ (i:=11) (N:=some 63) (v:=?_) (a':=?_) #[true,true,true,true,true,true,true,true,true,true,false,true,false,false,false,false,false,false,false,false,false,false,false,false,false,false,false,false,false,false,false,false,false] rfl rfl (any_of HT_.out (by kernel_rfl)) (fun _ _ _ h=>h) (Or.inl ⟨by rfl,?_⟩) ?_ ?_
                rotate_left
                ·intro w'
                 go_simp
                 with_reducible rfl
                rotate_left
                ·simp only [Act.put,List.setIfInBounds_toArray,List.set_cons_zero,List.set_cons_succ,i64_w,i32_w]
                 rfl
                refine pure_ (i:=12) (N:=some 64) (v:=?_) (a':=?_) #[true,true,true,true,true,true,true,true,true,true,false,true,true,false,false,false,false,false,false,false,false,false,false,false,false,false,false,false,false,false,false,false,false] rfl rfl (any_of HT_.out (by kernel_rfl)) (fun _ _ _ h=>h) (Or.inl ⟨by rfl,?_⟩) ?_ ?_
                rotate_left
                ·intro w'
                 go_simp
                 with_reducible rfl
                rotate_left
                ·simp only [Act.put,List.setIfInBounds_toArray,List.set_cons_zero,List.set_cons_succ,i64_w,i32_w]
                 rfl
                refine pure_ (i:=16) (N:=some 68) (v:=?_) (a':=?_) #[true,true,true,true,true,true,true,true,true,true,false,true,true,false,false,false,true,false,false,false,false,false,false,false,false,false,false,false,false,false,false,false,false] rfl rfl (any_of HT_.out (by kernel_rfl)) (fun _ _ _ h=>h) (Or.inl ⟨by rfl,?_⟩) ?_ ?_
                rotate_left
                ·intro w'
                 go_simp
                 with_reducible rfl
                rotate_left
                ·simp only [Act.put,List.setIfInBounds_toArray,List.set_cons_zero,List.set_cons_succ,i64_w,i32_w]
                 rfl
                refine take_ (i:=10) (N:=some 62) (v:=?_) (a':=?_) #[true,true,true,true,true,true,true,true,true,true,true,true,true,false,false,false,true,false,false,false,false,false,false,false,false,false,false,false,false,false,false,false,false] rfl rfl (take_ofW HT_.out HW_.out (by kernel_rfl)) (fun _ _ _ h=>h) (Or.inl ⟨by rfl,?_⟩) hHeld ?_ ?_
                rotate_left
                ·rintro w' ⟨s0,s1,s2,s3,s4,s5,s6,s7⟩
                 go_simp
                 with_reducible rfl
                rotate_left
                ·simp only [Act.put,List.setIfInBounds_toArray,List.set_cons_zero,List.set_cons_succ,i64_w,i32_w]
                 rfl
                refine pure_ (i:=13) (N:=some 65) (v:=?_) (a':=?_) #[true,true,true,true,true,true,true,true,true,true,true,true,true,true,false,false,true,false,false,false,false,false,false,false,false,false,false,false,false,false,false,false,false] rfl rfl (any_of HT_.out (by kernel_rfl)) (fun _ _ _ h=>h) (Or.inl ⟨by rfl,?_⟩) ?_ ?_
                rotate_left
                ·intro w'
                 go_simp
                 with_reducible rfl
                rotate_left
                ·simp only [Act.put,List.setIfInBounds_toArray,List.set_cons_zero,List.set_cons_succ,i64_w,i32_w]
                 rfl
                refine pure_ (i:=14) (N:=some 66) (v:=?_) (a':=?_) #[true,true,true,true,true,true,true,true,true,true,true,true,true,true,true,false,true,false,false,false,false,false,false,false,false,false,false,false,false,false,false,false,false] rfl rfl (any_of HT_.out (by kernel_rfl)) (fun _ _ _ h=>h) (Or.inl ⟨by rfl,?_⟩) ?_ ?_
                rotate_left
                ·intro w'
                 go_simp
                 with_reducible rfl
                rotate_left
                ·simp only [Act.put,List.setIfInBounds_toArray,List.set_cons_zero,List.set_cons_succ,i64_w,i32_w]
                 rfl
                refine take_ (i:=15) (N:=some 67) (v:=?_) (a':=?_) #[true,true,true,true,true,true,true,true,true,true,true,true,true,true,true,true,true,false,false,false,false,false,false,false,false,false,false,false,false,false,false,false,false] rfl rfl (take_ofW HT_.out HW_.out (by kernel_rfl)) (fun _ _ _ h=>h) (Or.inl ⟨by rfl,?_⟩) hHeld ?_ ?_
                rotate_left
                ·rintro w' ⟨s0,s1,s2,s3,s4,s5,s6,s7⟩
                 go_simp
                 with_reducible rfl
                rotate_left
                ·simp only [Act.put,List.setIfInBounds_toArray,List.set_cons_zero,List.set_cons_succ,i64_w,i32_w]
                 rfl
                refine take_ (i:=17) (N:=some 69) (v:=?_) (a':=?_) #[true,true,true,true,true,true,true,true,true,true,true,true,true,true,true,true,true,true,false,false,false,false,false,false,false,false,false,false,false,false,false,false,false] rfl rfl (take_ofW HT_.out HW_.out (by kernel_rfl)) (fun _ _ _ h=>h) (Or.inl ⟨by rfl,?_⟩) hHeld ?_ ?_
                rotate_left
                ·rintro w' ⟨s0,s1,s2,s3,s4,s5,s6,s7⟩
                 go_simp
                 with_reducible rfl
                rotate_left
                ·simp only [Act.put,List.setIfInBounds_toArray,List.set_cons_zero,List.set_cons_succ,i64_w,i32_w]
                 rfl
                refine pure_ (i:=18) (N:=some 70) (v:=?_) (a':=?_) #[true,true,true,true,true,true,true,true,true,true,true,true,true,true,true,true,true,true,true,false,false,false,false,false,false,false,false,false,false,false,false,false,false] rfl rfl (any_of HT_.out (by kernel_rfl)) (fun _ _ _ h=>h) (Or.inl ⟨by rfl,?_⟩) ?_ ?_
                rotate_left
                ·intro w'
                 go_simp
                 with_reducible rfl
                rotate_left
                ·simp only [Act.put,List.setIfInBounds_toArray,List.set_cons_zero,List.set_cons_succ,i64_w,i32_w]
                 rfl
                refine pure_ (i:=19) (N:=some 71) (v:=?_) (a':=?_) #[true,true,true,true,true,true,true,true,true,true,true,true,true,true,true,true,true,true,true,true,false,false,false,false,false,false,false,false,false,false,false,false,false] rfl rfl (any_of HT_.out (by kernel_rfl)) (fun _ _ _ h=>h) (Or.inl ⟨by rfl,?_⟩) ?_ ?_
                rotate_left
                ·intro w'
                 go_simp
                 with_reducible rfl
                rotate_left
                ·simp only [Act.put,List.setIfInBounds_toArray,List.set_cons_zero,List.set_cons_succ,i64_w,i32_w]
                 rfl
                refine pure_ (i:=20) (N:=some 72) (v:=?_) (a':=?_) #[true,true,true,true,true,true,true,true,true,true,true,true,true,true,true,true,true,true,true,true,true,false,false,false,false,false,false,false,false,false,false,false,false] rfl rfl (any_of HT_.out (by kernel_rfl)) (fun _ _ _ h=>h) (Or.inl ⟨by rfl,?_⟩) ?_ ?_
                rotate_left
                ·intro w'
                 go_simp
                 with_reducible rfl
                rotate_left
                ·simp only [Act.put,List.setIfInBounds_toArray,List.set_cons_zero,List.set_cons_succ,i64_w,i32_w]
                 rfl
                refine pure_ (i:=21) (N:=some 73) (v:=?_) (a':=?_) #[true,true,true,true,true,true,true,true,true,true,true,true,true,true,true,true,true,true,true,true,true,true,false,false,false,false,false,false,false,false,false,false,false] rfl rfl (any_of HT_.out (by kernel_rfl)) (fun _ _ _ h=>h) (Or.inl ⟨by rfl,?_⟩) ?_ ?_
                rotate_left
                ·intro w'
                 go_simp
                 with_reducible rfl
                rotate_left
                ·simp only [Act.put,List.setIfInBounds_toArray,List.set_cons_zero,List.set_cons_succ,i64_w,i32_w]
                 rfl
                refine pure_ (i:=22) (N:=some 74) (v:=undef) (a':=?_) #[true,true,true,true,true,true,true,true,true,true,true,true,true,true,true,true,true,true,true,true,true,true,true,false,false,false,false,false,false,false,false,false,false] rfl rfl (any_of HT_.out (by kernel_rfl)) (fun _ _ _ h=>h) (Or.inr ⟨by rfl,rfl⟩) ?_ ?_
                rotate_left
                ·simp only [Act.put,List.setIfInBounds_toArray,List.set_cons_zero,List.set_cons_succ,i64_w,i32_w]
                 rfl
                refine pure_ (i:=23) (N:=some 75) (v:=undef) (a':=?_) #[true,true,true,true,true,true,true,true,true,true,true,true,true,true,true,true,true,true,true,true,true,true,true,true,false,false,false,false,false,false,false,false,false] rfl rfl (any_of HT_.out (by kernel_rfl)) (fun _ _ _ h=>h) (Or.inr ⟨by rfl,rfl⟩) ?_ ?_
                rotate_left
                ·simp only [Act.put,List.setIfInBounds_toArray,List.set_cons_zero,List.set_cons_succ,i64_w,i32_w]
                 rfl
                refine pure_ (i:=24) (N:=some 76) (v:=undef) (a':=?_) #[true,true,true,true,true,true,true,true,true,true,true,true,true,true,true,true,true,true,true,true,true,true,true,true,true,false,false,false,false,false,false,false,false] rfl rfl (any_of HT_.out (by kernel_rfl)) (fun _ _ _ h=>h) (Or.inr ⟨by rfl,rfl⟩) ?_ ?_
                rotate_left
                ·simp only [Act.put,List.setIfInBounds_toArray,List.set_cons_zero,List.set_cons_succ,i64_w,i32_w]
                 rfl
                refine pure_ (i:=25) (N:=some 77) (v:=undef) (a':=?_) #[true,true,true,true,true,true,true,true,true,true,true,true,true,true,true,true,true,true,true,true,true,true,true,true,true,true,false,false,false,false,false,false,false] rfl rfl (any_of HT_.out (by kernel_rfl)) (fun _ _ _ h=>h) (Or.inr ⟨by rfl,rfl⟩) ?_ ?_
                rotate_left
                ·simp only [Act.put,List.setIfInBounds_toArray,List.set_cons_zero,List.set_cons_succ,i64_w,i32_w]
                 rfl
                refine pure_ (i:=26) (N:=some 78) (v:=?_) (a':=?_) #[true,true,true,true,true,true,true,true,true,true,true,true,true,true,true,true,true,true,true,true,true,true,true,true,true,true,true,false,false,false,false,false,false] rfl rfl (any_of HT_.out (by kernel_rfl)) (fun _ _ _ h=>h) (Or.inl ⟨by rfl,?_⟩) ?_ ?_
                rotate_left
                ·intro w'
                 go_simp
                 with_reducible rfl
                rotate_left
                ·simp only [Act.put,List.setIfInBounds_toArray,List.set_cons_zero,List.set_cons_succ,i64_w,i32_w]
                 rfl
                refine pure_ (i:=27) (N:=some 79) (v:=?_) (a':=?_) #[true,true,true,true,true,true,true,true,true,true,true,true,true,true,true,true,true,true,true,true,true,true,true,true,true,true,true,true,false,false,false,false,false] rfl rfl (any_of HT_.out (by kernel_rfl)) (fun _ _ _ h=>h) (Or.inl ⟨by rfl,?_⟩) ?_ ?_
                rotate_left
                ·intro w'
                 go_simp
                 with_reducible rfl
                rotate_left
                ·simp only [Act.put,List.setIfInBounds_toArray,List.set_cons_zero,List.set_cons_succ,i64_w,i32_w]
                 rfl
                refine pure_ (i:=28) (N:=some 80) (v:=undef) (a':=?_) #[true,true,true,true,true,true,true,true,true,true,true,true,true,true,true,true,true,true,true,true,true,true,true,true,true,true,true,true,true,false,false,false,false] rfl rfl (any_of HT_.out (by kernel_rfl)) (fun _ _ _ h=>h) (Or.inr ⟨by rfl,rfl⟩) ?_ ?_
                rotate_left
                ·simp only [Act.put,List.setIfInBounds_toArray,List.set_cons_zero,List.set_cons_succ,i64_w,i32_w]
                 rfl
                refine pure_ (i:=29) (N:=some 81) (v:=undef) (a':=?_) #[true,true,true,true,true,true,true,true,true,true,true,true,true,true,true,true,true,true,true,true,true,true,true,true,true,true,true,true,true,true,false,false,false] rfl rfl (any_of HT_.out (by kernel_rfl)) (fun _ _ _ h=>h) (Or.inr ⟨by rfl,rfl⟩) ?_ ?_
                rotate_left
                ·simp only [Act.put,List.setIfInBounds_toArray,List.set_cons_zero,List.set_cons_succ,i64_w,i32_w]
                 rfl
                refine pure_ (i:=30) (N:=some 82) (v:=undef) (a':=?_) #[true,true,true,true,true,true,true,true,true,true,true,true,true,true,true,true,true,true,true,true,true,true,true,true,true,true,true,true,true,true,true,false,false] rfl rfl (any_of HT_.out (by kernel_rfl)) (fun _ _ _ h=>h) (Or.inr ⟨by rfl,rfl⟩) ?_ ?_
                rotate_left
                ·simp only [Act.put,List.setIfInBounds_toArray,List.set_cons_zero,List.set_cons_succ,i64_w,i32_w]
                 rfl
                refine pure_ (i:=31) (N:=some 83) (v:=undef) (a':=?_) #[true,true,true,true,true,true,true,true,true,true,true,true,true,true,true,true,true,true,true,true,true,true,true,true,true,true,true,true,true,true,true,true,false] rfl rfl (any_of HT_.out (by kernel_rfl)) (fun _ _ _ h=>h) (Or.inr ⟨by rfl,rfl⟩) ?_ ?_
                rotate_left
                ·simp only [Act.put,List.setIfInBounds_toArray,List.set_cons_zero,List.set_cons_succ,i64_w,i32_w]
                 rfl
                refine pure_ (i:=32) (N:=some 84) (v:=?_) (a':=?_) #[true,true,true,true,true,true,true,true,true,true,true,true,true,true,true,true,true,true,true,true,true,true,true,true,true,true,true,true,true,true,true,true,true] rfl rfl (any_of HT_.out (by kernel_rfl)) (fun _ _ _ h=>h) (Or.inl ⟨by rfl,?_⟩) ?_ ?_
                rotate_left
                ·intro w'
                 go_simp
                 with_reducible rfl
                rotate_left
                ·simp only [Act.put,List.setIfInBounds_toArray,List.set_cons_zero,List.set_cons_succ,i64_w,i32_w]
                 rfl
                refine done_ (done_of HT_.out (by kernel_rfl)) ?_
                try go_wp2
                go_meet
                case rel=>exact ⟨_,(true),(by first|rfl|(simp;done)|(simp [*];done)),H',⟨by have:=HJ1.out;have:=HK2.out;first|omega|exact Nat.le_refl _⟩,⟨by (with_reducible repeat (first|refine qb ?_ _|refine qe ?_|refine qc ?_ _));exact BK161.out⟩,⟨by (with_reducible repeat (first|refine qb ?_ _|refine qe ?_|refine qc ?_ _));exact BK170.out⟩,⟨by repeat (first|(with_reducible first|exact HB.out|apply qf|apply qa|apply qd|refine qg ?_ GE161.out|refine qg ?_ GE170.out)|exact HB.out)⟩⟩
              ·rw [if_neg c31] at H
               exact absurd H (by simp)
             ·rw [if_neg c30] at H
              exact absurd H (by simp)
            ·rw [if_neg c28] at H
             have c28b0 : decide (0 < x47_2) = false:=decide_eq_false c28
             clear c28
             (first|rw [c28b0]|(simp only [i64_w,i32_w];rw [c28b0])|skip)
             by_cases c43 : (((rd_T61 l0_1 x47_2).f0).size : Int) > 54
             ·rw [if_pos c43] at H
              have c43b0 : decide (54 < (((rd_T61 l0_1 x47_2).f0).size : Int)) = true:=decide_eq_true c43
              have c43b1 : decide (54 < ((rd_T61 l0_1 x47_2).f0).size) = true:=decide_eq_true (by omega)
              clear c43
              have H':=qn.mk H
              clear H
              try go_wp2
              have n0_ : qn ((((w23.setCell ⟨gb170,0,none⟩ (.string ((rd_T61 l0_1 x47_2).f0))).setCell ⟨gb170,1,none⟩ (.string ((rd_T61 l0_1 x47_2).f1))).setCell ⟨gb170,2,none⟩ (.int .i64 ((rd_T61 l0_1 x47_2).f2))).heap[gb161]? = some (.cells #[.int .i64 a0_0,.slice (some ad169) l0_1.length c0_1] 50 (0,0))):=⟨by (with_reducible repeat (first|refine qb ?_ _|refine qe ?_|refine qc ?_ _));refine blk_far ?_ NB161_170.out _;(with_reducible repeat (first|refine qb ?_ _|refine qe ?_|refine qc ?_ _));refine blk_far ?_ NB161_170.out _;(with_reducible repeat (first|refine qb ?_ _|refine qe ?_|refine qc ?_ _));refine blk_far ?_ NB161_170.out _;(with_reducible repeat (first|refine qb ?_ _|refine qe ?_|refine qc ?_ _));exact BK161.out⟩
              have n1_ : qn ((((w23.setCell ⟨gb170,0,none⟩ (.string ((rd_T61 l0_1 x47_2).f0))).setCell ⟨gb170,1,none⟩ (.string ((rd_T61 l0_1 x47_2).f1))).setCell ⟨gb170,2,none⟩ (.int .i64 ((rd_T61 l0_1 x47_2).f2))).heap[gb170]? = some (.cells #[.string ((rd_T61 l0_1 x47_2).f0),.string ((rd_T61 l0_1 x47_2).f1),.int .i64 ((rd_T61 l0_1 x47_2).f2)] 61 (0,0))):=⟨by (with_reducible repeat (first|refine qb ?_ _|refine qe ?_|refine qc ?_ _));refine blk_put (cs:=#[.string ((rd_T61 l0_1 x47_2).f0),.string ((rd_T61 l0_1 x47_2).f1),.int .i64 0]) ?_ 2 _ rfl;(with_reducible repeat (first|refine qb ?_ _|refine qe ?_|refine qc ?_ _));refine blk_put (cs:=#[.string ((rd_T61 l0_1 x47_2).f0),.string (⟨#[]⟩ : ByteArray),.int .i64 0]) ?_ 1 _ rfl;(with_reducible repeat (first|refine qb ?_ _|refine qe ?_|refine qc ?_ _));refine blk_put (cs:=#[.string (⟨#[]⟩ : ByteArray),.string (⟨#[]⟩ : ByteArray),.int .i64 0]) ?_ 0 _ rfl;(with_reducible repeat (first|refine qb ?_ _|refine qe ?_|refine qc ?_ _));exact BK170.out⟩
              have n2_ : qn (Below w.heap.size w (((w23.setCell ⟨gb170,0,none⟩ (.string ((rd_T61 l0_1 x47_2).f0))).setCell ⟨gb170,1,none⟩ (.string ((rd_T61 l0_1 x47_2).f1))).setCell ⟨gb170,2,none⟩ (.int .i64 ((rd_T61 l0_1 x47_2).f2)))):=⟨by repeat (first|(with_reducible first|exact HB.out|apply qf|apply qa|apply qd|refine qg ?_ GE161.out|refine qg ?_ GE170.out)|exact HB.out)⟩
              (try clear BK161)
              (try clear BK170)
              (try clear HB)
              generalize (((w23.setCell ⟨gb170,0,none⟩ (.string ((rd_T61 l0_1 x47_2).f0))).setCell ⟨gb170,1,none⟩ (.string ((rd_T61 l0_1 x47_2).f1))).setCell ⟨gb170,2,none⟩ (.int .i64 ((rd_T61 l0_1 x47_2).f2))) = w44 at n0_ n1_ n2_ ⊢
              have BK161:=n0_
              have BK170:=n1_
              have HB:=n2_
              clear n0_ n1_ n2_
              have n0_:=qn.mk (qe BK161.out)
              have n1_:=qn.mk (qe BK170.out)
              have n2_:=qn.mk (qd HB.out)
              clear BK161
              clear BK170
              clear HB
              have BK161:=n0_
              have BK170:=n1_
              have HB:=n2_
              clear n0_ n1_ n2_
              refine start_ (n:=33) (S:=fun w'=>w'.cell? ⟨gb161,0,none⟩ = some (.int .i64 a0_0) ∧ w'.cell? ⟨gb161,1,none⟩ = some (.slice (some ad169) l0_1.length c0_1) ∧ w'.cell? ⟨gb170,0,none⟩ = some (.string ((rd_T61 l0_1 x47_2).f0)) ∧ w'.cell? ⟨gb170,1,none⟩ = some (.string ((rd_T61 l0_1 x47_2).f1)) ∧ w'.cell? ⟨gb170,2,none⟩ = some (.int .i64 ((rd_T61 l0_1 x47_2).f2))) (ds:=[]) #[false,false,false,false,false,false,false,false,false,false,false,false,false,false,false,false,false,false,false,false,false,false,false,false,false,false,false,false,false,false,false,false,false] (by kernel_rfl) rfl rfl ⟨(qh BK161.out 0).trans rfl,(qh BK161.out 1).trans rfl,(qh BK170.out 0).trans rfl,(qh BK170.out 1).trans rfl,(qh BK170.out 2).trans rfl⟩ (fun hHeld=>?_);refine with_tabW impl_PageText.tab9 impl_PageText.bits9 (fun HT_ HW_=>?_)
              generalize w44.drew = w45 at BK161 BK170 HB hHeld ⊢
              refine pure_ (i:=0) (N:=some 52) (v:=?_) (a':=?_) #[true,false,false,false,false,false,false,false,false,false,false,false,false,false,false,false,false,false,false,false,false,false,false,false,false,false,false,false,false,false,false,false,false] rfl rfl (any_of HT_.out (by kernel_rfl)) (fun _ _ _ h=>h) (Or.inl ⟨by rfl,?_⟩) ?_ ?_
              rotate_left
              ·intro w'
               go_simp
               with_reducible rfl
              rotate_left
              ·simp only [Act.put,List.setIfInBounds_toArray,List.set_cons_zero,List.set_cons_succ,i64_w,i32_w]
               rfl
              refine take_ (i:=1) (N:=some 53) (v:=?_) (a':=?_) #[true,true,false,false,false,false,false,false,false,false,false,false,false,false,false,false,false,false,false,false,false,false,false,false,false,false,false,false,false,false,false,false,false] rfl rfl (take_ofW HT_.out HW_.out (by kernel_rfl)) (fun _ _ _ h=>h) (Or.inl ⟨by rfl,?_⟩) hHeld ?_ ?_
              rotate_left
              ·rintro w' ⟨s0,s1,s2,s3,s4⟩
               go_simp
               with_reducible rfl
              rotate_left
              ·simp only [Act.put,List.setIfInBounds_toArray,List.set_cons_zero,List.set_cons_succ,i64_w,i32_w]
               rfl
              refine take_ (i:=2) (N:=some 54) (v:=?_) (a':=?_) #[true,true,true,false,false,false,false,false,false,false,false,false,false,false,false,false,false,false,false,false,false,false,false,false,false,false,false,false,false,false,false,false,false] rfl rfl (take_ofW HT_.out HW_.out (by kernel_rfl)) (fun _ _ _ h=>h) (Or.inl ⟨by rfl,?_⟩) hHeld ?_ ?_
              rotate_left
              ·rintro w' ⟨s0,s1,s2,s3,s4⟩
               go_simp
               with_reducible rfl
              rotate_left
              ·simp only [Act.put,List.setIfInBounds_toArray,List.set_cons_zero,List.set_cons_succ,i64_w,i32_w]
               rfl
              refine one_ (i:=3) (N:=some 55) #[true,true,true,true,false,false,false,false,false,false,false,false,false,false,false,false,false,false,false,false,false,false,false,false,false,false,false,false,false,false,false,false,false] rfl rfl (one_of HT_.out (by kernel_rfl)) (by decide) (fun K hK=>?_)
              refine goes_ Try.func96 (by kernel_rfl) rfl #[.int .i64 a0_0,.agg #[.string ((rd_T61 l0_1 x47_2).f0),.string ((rd_T61 l0_1 x47_2).f1),.int .i64 ((rd_T61 l0_1 x47_2).f2)]] (by rfl) rfl rfl (by (try simp only [List.map_toArray,List.map_cons,List.map_nil]);first|done|rfl|(simp only [List.length_drop,List.length_take];rfl)) ?_
              with_reducible refine (impl_itemOk.calls a0_0 ((rd_T61 l0_1 x47_2).f0) ((rd_T61 l0_1 x47_2).f1) ((rd_T61 l0_1 x47_2).f2) true _ A26.out).mono ?_
              rintro e w46 ⟨rfl,hb⟩
              refine ⟨_,rfl,?_⟩
              have n0_:=bb_ BK161 hb
              have n1_:=bb_ BK170 hb
              have n2_:=hs_ HB hb
              clear BK161
              clear BK170
              clear HB
              have BK161:=n0_
              have BK170:=n1_
              have HB:=n2_
              clear n0_ n1_ n2_
              (try clear hb)
              (try clear hb2)
              (try clear hk)
              (try clear hi)
              refine hK.out _ _ ⟨(qh BK161.out 0).trans rfl,(qh BK161.out 1).trans rfl,(qh BK170.out 0).trans rfl,(qh BK170.out 1).trans rfl,(qh BK170.out 2).trans rfl⟩ (fun hHeld=>?_)
              clear hK K
              refine norm_ (a':=?_) ?_ ?_
              rotate_left
              ·show Act.put _ (some 55) _ = _
               simp only [Act.put,List.setIfInBounds_toArray,List.set_cons_zero,List.set_cons_succ,i64_w,i32_w]
               rfl
              refine pure_ (i:=4) (N:=some 56) (v:=?_) (a':=?_) #[true,true,true,true,true,false,false,false,false,false,false,false,false,false,false,false,false,false,false,false,false,false,false,false,false,false,false,false,false,false,false,false,false] rfl rfl (any_of HT_.out (by kernel_rfl)) (fun _ _ _ h=>h) (Or.inl ⟨by rfl,?_⟩) ?_ ?_
              rotate_left
              ·intro w'
               go_simp
               with_reducible rfl
              rotate_left
              ·simp only [Act.put,List.setIfInBounds_toArray,List.set_cons_zero,List.set_cons_succ,i64_w,i32_w]
               rfl
              refine pure_ (i:=5) (N:=some 57) (v:=?_) (a':=?_) #[true,true,true,true,true,true,false,false,false,false,false,false,false,false,false,false,false,false,false,false,false,false,false,false,false,false,false,false,false,false,false,false,false] rfl rfl (any_of HT_.out (by kernel_rfl)) (fun _ _ _ h=>h) (Or.inl ⟨by rfl,?_⟩) ?_ ?_
              rotate_left
              ·intro w'
               go_simp
               with_reducible rfl
              rotate_left
              ·simp only [Act.put,List.setIfInBounds_toArray,List.set_cons_zero,List.set_cons_succ,i64_w,i32_w]
               rfl
              refine pure_ (i:=6) (N:=some 58) (v:=?_) (a':=?_) #[true,true,true,true,true,true,true,false,false,false,false,false,false,false,false,false,false,false,false,false,false,false,false,false,false,false,false,false,false,false,false,false,false] rfl rfl (any_of HT_.out (by kernel_rfl)) (fun _ _ _ h=>h) (Or.inl ⟨by rfl,?_⟩) ?_ ?_
              rotate_left
              ·intro w'
               go_simp
               with_reducible rfl
              rotate_left
              ·simp only [Act.put,List.setIfInBounds_toArray,List.set_cons_zero,List.set_cons_succ,i64_w,i32_w]
               rfl
              refine pure_ (i:=7) (N:=some 59) (v:=?_) (a':=?_) #[true,true,true,true,true,true,true,true,false,false,false,false,false,false,false,false,false,false,false,false,false,false,false,false,false,false,false,false,false,false,false,false,false] rfl rfl (any_of HT_.out (by kernel_rfl)) (fun _ _ _ h=>h) (Or.inl ⟨by rfl,?_⟩) ?_ ?_
              rotate_left
              ·intro w'
               go_simp
               with_reducible rfl
              rotate_left
              ·simp only [Act.put,List.setIfInBounds_toArray,List.set_cons_zero,List.set_cons_succ,i64_w,i32_w]
               rfl
              refine pure_ (i:=8) (N:=some 60) (v:=?_) (a':=?_) #[true,true,true,true,true,true,true,true,true,false,false,false,false,false,false,false,false,false,false,false,false,false,false,false,false,false,false,false,false,false,false,false,false] rfl rfl (any_of HT_.out (by kernel_rfl)) (fun _ _ _ h=>h) (Or.inl ⟨by rfl,?_⟩) ?_ ?_
              rotate_left
              ·intro w'
               go_simp
               with_reducible rfl
              rotate_left
              ·simp only [Act.put,List.setIfInBounds_toArray,List.set_cons_zero,List.set_cons_succ,i64_w,i32_w]
               rfl
              refine pure_ (i:=9) (N:=some 61) (v:=undef) (a':=?_) #[true,true,true,true,true,true,true,true,true,true,false,false,false,false,false,false,false,false,false,false,false,false,false,false,false,false,false,false,false,false,false,false,false] rfl rfl (any_of HT_.out (by kernel_rfl)) (fun _ _ _ h=>h) (Or.inr ⟨by rfl,rfl⟩) ?_ ?_
              rotate_left
              ·simp only [Act.put,List.setIfInBounds_toArray,List.set_cons_zero,List.set_cons_succ,i64_w,i32_w]
               rfl
              refine pure_ (i:=10) (N:=some 62) (v:=undef) (a':=?_) #[true,true,true,true,true,true,true,true,true,true,true,false,false,false,false,false,false,false,false,false,false,false,false,false,false,false,false,false,false,false,false,false,false] rfl rfl (any_of HT_.out (by kernel_rfl)) (fun _ _ _ h=>h) (Or.inr ⟨by rfl,rfl⟩) ?_ ?_
              rotate_left
              ·simp only [Act.put,List.setIfInBounds_toArray,List.set_cons_zero,List.set_cons_succ,i64_w,i32_w]
               rfl
              refine pure_ (i:=11) (N:=some 63) (v:=undef) (a':=?_) #[true,true,true,true,true,true,true,true,true,true,true,true,false,false,false,false,false,false,false,false,false,false,false,false,false,false,false,false,false,false,false,false,false] rfl rfl (any_of HT_.out (by kernel_rfl)) (fun _ _ _ h=>h) (Or.inr ⟨by rfl,rfl⟩) ?_ ?_
              rotate_left
              ·simp only [Act.put,List.setIfInBounds_toArray,List.set_cons_zero,List.set_cons_succ,i64_w,i32_w]
               rfl
              refine pure_ (i:=12) (N:=some 64) (v:=undef) (a':=?_) #[true,true,true,true,true,true,true,true,true,true,true,true,true,false,false,false,false,false,false,false,false,false,false,false,false,false,false,false,false,false,false,false,false] rfl rfl (any_of HT_.out (by kernel_rfl)) (fun _ _ _ h=>h) (Or.inr ⟨by rfl,rfl⟩) ?_ ?_
              rotate_left
              ·simp only [Act.put,List.setIfInBounds_toArray,List.set_cons_zero,List.set_cons_succ,i64_w,i32_w]
               rfl
              refine pure_ (i:=13) (N:=some 65) (v:=undef) (a':=?_) #[true,true,true,true,true,true,true,true,true,true,true,true,true,true,false,false,false,false,false,false,false,false,false,false,false,false,false,false,false,false,false,false,false] rfl rfl (any_of HT_.out (by kernel_rfl)) (fun _ _ _ h=>h) (Or.inr ⟨by rfl,rfl⟩) ?_ ?_
              rotate_left
              ·simp only [Act.put,List.setIfInBounds_toArray,List.set_cons_zero,List.set_cons_succ,i64_w,i32_w]
               rfl
              refine pure_ (i:=14) (N:=some 66) (v:=undef) (a':=?_) #[true,true,true,true,true,true,true,true,true,true,true,true,true,true,true,false,false,false,false,false,false,false,false,false,false,false,false,false,false,false,false,false,false] rfl rfl (any_of HT_.out (by kernel_rfl)) (fun _ _ _ h=>h) (Or.inr ⟨by rfl,rfl⟩) ?_ ?_
              rotate_left
              ·simp only [Act.put,List.setIfInBounds_toArray,List.set_cons_zero,List.set_cons_succ,i64_w,i32_w]
               rfl
              refine pure_ (i:=15) (N:=some 67) (v:=undef) (a':=?_) #[true,true,true,true,true,true,true,true,true,true,true,true,true,true,true,true,false,false,false,false,false,false,false,false,false,false,false,false,false,false,false,false,false] rfl rfl (any_of HT_.out (by kernel_rfl)) (fun _ _ _ h=>h) (Or.inr ⟨by rfl,rfl⟩) ?_ ?_
              rotate_left
              ·simp only [Act.put,List.setIfInBounds_toArray,List.set_cons_zero,List.set_cons_succ,i64_w,i32_w]
               rfl
              refine pure_ (i:=16) (N:=some 68) (v:=undef) (a':=?_) #[true,true,true,true,true,true,true,true,true,true,true,true,true,true,true,true,true,false,false,false,false,false,false,false,false,false,false,false,false,false,false,false,false] rfl rfl (any_of HT_.out (by kernel_rfl)) (fun _ _ _ h=>h) (Or.inr ⟨by rfl,rfl⟩) ?_ ?_
              rotate_left
              ·simp only [Act.put,List.setIfInBounds_toArray,List.set_cons_zero,List.set_cons_succ,i64_w,i32_w]
               rfl
              refine pure_ (i:=17) (N:=some 69) (v:=undef) (a':=?_) #[true,true,true,true,true,true,true,true,true,true,true,true,true,true,true,true,true,true,false,false,false,false,false,false,false,false,false,false,false,false,false,false,false] rfl rfl (any_of HT_.out (by kernel_rfl)) (fun _ _ _ h=>h) (Or.inr ⟨by rfl,rfl⟩) ?_ ?_
              rotate_left
              ·simp only [Act.put,List.setIfInBounds_toArray,List.set_cons_zero,List.set_cons_succ,i64_w,i32_w]
               rfl
              refine pure_ (i:=18) (N:=some 70) (v:=undef) (a':=?_) #[true,true,true,true,true,true,true,true,true,true,true,true,true,true,true,true,true,true,true,false,false,false,false,false,false,false,false,false,false,false,false,false,false] rfl rfl (any_of HT_.out (by kernel_rfl)) (fun _ _ _ h=>h) (Or.inr ⟨by rfl,rfl⟩) ?_ ?_
              rotate_left
              ·simp only [Act.put,List.setIfInBounds_toArray,List.set_cons_zero,List.set_cons_succ,i64_w,i32_w]
               rfl
              refine pure_ (i:=19) (N:=some 71) (v:=?_) (a':=?_) #[true,true,true,true,true,true,true,true,true,true,true,true,true,true,true,true,true,true,true,true,false,false,false,false,false,false,false,false,false,false,false,false,false] rfl rfl (any_of HT_.out (by kernel_rfl)) (fun _ _ _ h=>h) (Or.inl ⟨by rfl,?_⟩) ?_ ?_
              rotate_left
              ·intro w'
               go_simp
               with_reducible rfl
              rotate_left
              ·simp only [Act.put,List.setIfInBounds_toArray,List.set_cons_zero,List.set_cons_succ,i64_w,i32_w]
               rfl
              refine pure_ (i:=20) (N:=some 72) (v:=?_) (a':=?_) #[true,true,true,true,true,true,true,true,true,true,true,true,true,true,true,true,true,true,true,true,true,false,false,false,false,false,false,false,false,false,false,false,false] rfl rfl (any_of HT_.out (by kernel_rfl)) (fun _ _ _ h=>h) (Or.inl ⟨by rfl,?_⟩) ?_ ?_
              rotate_left
              ·intro w'
               go_simp
               with_reducible rfl
              rotate_left
              ·simp only [Act.put,List.setIfInBounds_toArray,List.set_cons_zero,List.set_cons_succ,i64_w,i32_w]
               rfl
              refine pure_ (i:=21) (N:=some 73) (v:=?_) (a':=?_) #[true,true,true,true,true,true,true,true,true,true,true,true,true,true,true,true,true,true,true,true,true,true,false,false,false,false,false,false,false,false,false,false,false] rfl rfl (any_of HT_.out (by kernel_rfl)) (fun _ _ _ h=>h) (Or.inl ⟨by rfl,?_⟩) ?_ ?_
              rotate_left
              ·intro w'
               go_simp
               with_reducible rfl
              rotate_left
              ·simp only [Act.put,List.setIfInBounds_toArray,List.set_cons_zero,List.set_cons_succ,i64_w,i32_w]
               rfl
              refine pure_ (i:=22) (N:=some 74) (v:=?_) (a':=?_) #[true,true,true,true,true,true,true,true,true,true,true,true,true,true,true,true,true,true,true,true,true,true,true,false,false,false,false,false,false,false,false,false,false] rfl rfl (any_of HT_.out (by kernel_rfl)) (fun _ _ _ h=>h) (Or.inl ⟨by rfl,?_⟩) ?_ ?_
              rotate_left
              ·intro w'
               go_simp
               with_reducible rfl
              rotate_left
              ·simp only [Act.put,List.setIfInBounds_toArray,List.set_cons_zero,List.set_cons_succ,i64_w,i32_w]
               rfl
              refine take_ (i:=23) (N:=some 75) (v:=?_) (a':=?_) #[true,true,true,true,true,true,true,true,true,true,true,true,true,true,true,true,true,true,true,true,true,true,true,true,false,false,false,false,false,false,false,false,false] rfl rfl (take_ofW HT_.out HW_.out (by kernel_rfl)) (fun _ _ _ h=>h) (Or.inl ⟨by rfl,?_⟩) hHeld ?_ ?_
              rotate_left
              ·rintro w' ⟨s0,s1,s2,s3,s4⟩
               go_simp
               with_reducible rfl
              rotate_left
              ·simp only [Act.put,List.setIfInBounds_toArray,List.set_cons_zero,List.set_cons_succ,i64_w,i32_w]
               rfl
              refine pure_ (i:=24) (N:=some 76) (v:=?_) (a':=?_) #[true,true,true,true,true,true,true,true,true,true,true,true,true,true,true,true,true,true,true,true,true,true,true,true,true,false,false,false,false,false,false,false,false] rfl rfl (any_of HT_.out (by kernel_rfl)) (fun _ _ _ h=>h) (Or.inl ⟨by rfl,?_⟩) ?_ ?_
              rotate_left
              ·intro w'
               go_simp
               with_reducible rfl
              rotate_left
              ·simp only [Act.put,List.setIfInBounds_toArray,List.set_cons_zero,List.set_cons_succ,i64_w,i32_w]
               rfl
              refine pure_ (i:=25) (N:=some 77) (v:=?_) (a':=?_) #[true,true,true,true,true,true,true,true,true,true,true,true,true,true,true,true,true,true,true,true,true,true,true,true,true,true,false,false,false,false,false,false,false] rfl rfl (any_of HT_.out (by kernel_rfl)) (fun _ _ _ h=>h) (Or.inl ⟨by rfl,?_⟩) ?_ ?_
              rotate_left
              ·intro w'
               go_simp
               with_reducible rfl
              rotate_left
              ·simp only [Act.put,List.setIfInBounds_toArray,List.set_cons_zero,List.set_cons_succ,i64_w,i32_w]
               rfl
              refine pure_ (i:=26) (N:=some 78) (v:=?_) (a':=?_) #[true,true,true,true,true,true,true,true,true,true,true,true,true,true,true,true,true,true,true,true,true,true,true,true,true,true,true,false,false,false,false,false,false] rfl rfl (any_of HT_.out (by kernel_rfl)) (fun _ _ _ h=>h) (Or.inl ⟨by rfl,?_⟩) ?_ ?_
              rotate_left
              ·intro w'
               go_simp
               with_reducible rfl
              rotate_left
              ·simp only [Act.put,List.setIfInBounds_toArray,List.set_cons_zero,List.set_cons_succ,i64_w,i32_w]
               rfl
              refine pure_ (i:=27) (N:=some 79) (v:=?_) (a':=?_) #[true,true,true,true,true,true,true,true,true,true,true,true,true,true,true,true,true,true,true,true,true,true,true,true,true,true,true,true,false,false,false,false,false] rfl rfl (any_of HT_.out (by kernel_rfl)) (fun _ _ _ h=>h) (Or.inl ⟨by rfl,?_⟩) ?_ ?_
              rotate_left
              ·intro w'
               go_simp
               with_reducible rfl
              rotate_left
              ·simp only [Act.put,List.setIfInBounds_toArray,List.set_cons_zero,List.set_cons_succ,i64_w,i32_w]
               rfl
              refine pure_ (i:=28) (N:=some 80) (v:=undef) (a':=?_) #[true,true,true,true,true,true,true,true,true,true,true,true,true,true,true,true,true,true,true,true,true,true,true,true,true,true,true,true,true,false,false,false,false] rfl rfl (any_of HT_.out (by kernel_rfl)) (fun _ _ _ h=>h) (Or.inr ⟨by rfl,rfl⟩) ?_ ?_
              rotate_left
              ·simp only [Act.put,List.setIfInBounds_toArray,List.set_cons_zero,List.set_cons_succ,i64_w,i32_w]
               rfl
              refine pure_ (i:=29) (N:=some 81) (v:=undef) (a':=?_) #[true,true,true,true,true,true,true,true,true,true,true,true,true,true,true,true,true,true,true,true,true,true,true,true,true,true,true,true,true,true,false,false,false] rfl rfl (any_of HT_.out (by kernel_rfl)) (fun _ _ _ h=>h) (Or.inr ⟨by rfl,rfl⟩) ?_ ?_
              rotate_left
              ·simp only [Act.put,List.setIfInBounds_toArray,List.set_cons_zero,List.set_cons_succ,i64_w,i32_w]
               rfl
              refine pure_ (i:=30) (N:=some 82) (v:=undef) (a':=?_) #[true,true,true,true,true,true,true,true,true,true,true,true,true,true,true,true,true,true,true,true,true,true,true,true,true,true,true,true,true,true,true,false,false] rfl rfl (any_of HT_.out (by kernel_rfl)) (fun _ _ _ h=>h) (Or.inr ⟨by rfl,rfl⟩) ?_ ?_
              rotate_left
              ·simp only [Act.put,List.setIfInBounds_toArray,List.set_cons_zero,List.set_cons_succ,i64_w,i32_w]
               rfl
              refine pure_ (i:=31) (N:=some 83) (v:=undef) (a':=?_) #[true,true,true,true,true,true,true,true,true,true,true,true,true,true,true,true,true,true,true,true,true,true,true,true,true,true,true,true,true,true,true,true,false] rfl rfl (any_of HT_.out (by kernel_rfl)) (fun _ _ _ h=>h) (Or.inr ⟨by rfl,rfl⟩) ?_ ?_
              rotate_left
              ·simp only [Act.put,List.setIfInBounds_toArray,List.set_cons_zero,List.set_cons_succ,i64_w,i32_w]
               rfl
              refine pure_ (i:=32) (N:=some 84) (v:=?_) (a':=?_) #[true,true,true,true,true,true,true,true,true,true,true,true,true,true,true,true,true,true,true,true,true,true,true,true,true,true,true,true,true,true,true,true,true] rfl rfl (any_of HT_.out (by kernel_rfl)) (fun _ _ _ h=>h) (Or.inl ⟨by rfl,?_⟩) ?_ ?_
              rotate_left
              ·intro w'
               go_simp
               with_reducible rfl
              rotate_left
              ·simp only [Act.put,List.setIfInBounds_toArray,List.set_cons_zero,List.set_cons_succ,i64_w,i32_w]
               rfl
              refine done_ (done_of HT_.out (by kernel_rfl)) ?_
              try go_wp2
              go_meet
              case rel=>exact ⟨_,(true),(by first|rfl|(simp;done)|(simp [*];done)),H',⟨by have:=HJ1.out;have:=HK2.out;first|omega|exact Nat.le_refl _⟩,⟨by (with_reducible repeat (first|refine qb ?_ _|refine qe ?_|refine qc ?_ _));exact BK161.out⟩,⟨by (with_reducible repeat (first|refine qb ?_ _|refine qe ?_|refine qc ?_ _));exact BK170.out⟩,⟨by repeat (first|(with_reducible first|exact HB.out|apply qf|apply qa|apply qd|refine qg ?_ GE161.out|refine qg ?_ GE170.out)|exact HB.out)⟩⟩
             ·rw [if_neg c43] at H
              have c43b0 : decide (54 < (((rd_T61 l0_1 x47_2).f0).size : Int)) = false:=decide_eq_false c43
              have c43b1 : decide (54 < ((rd_T61 l0_1 x47_2).f0).size) = false:=decide_eq_false (by omega)
              clear c43
              have H':=qn.mk H
              clear H
              try go_wp2
              have n0_ : qn ((((w23.setCell ⟨gb170,0,none⟩ (.string ((rd_T61 l0_1 x47_2).f0))).setCell ⟨gb170,1,none⟩ (.string ((rd_T61 l0_1 x47_2).f1))).setCell ⟨gb170,2,none⟩ (.int .i64 ((rd_T61 l0_1 x47_2).f2))).heap[gb161]? = some (.cells #[.int .i64 a0_0,.slice (some ad169) l0_1.length c0_1] 50 (0,0))):=⟨by (with_reducible repeat (first|refine qb ?_ _|refine qe ?_|refine qc ?_ _));refine blk_far ?_ NB161_170.out _;(with_reducible repeat (first|refine qb ?_ _|refine qe ?_|refine qc ?_ _));refine blk_far ?_ NB161_170.out _;(with_reducible repeat (first|refine qb ?_ _|refine qe ?_|refine qc ?_ _));refine blk_far ?_ NB161_170.out _;(with_reducible repeat (first|refine qb ?_ _|refine qe ?_|refine qc ?_ _));exact BK161.out⟩
              have n1_ : qn ((((w23.setCell ⟨gb170,0,none⟩ (.string ((rd_T61 l0_1 x47_2).f0))).setCell ⟨gb170,1,none⟩ (.string ((rd_T61 l0_1 x47_2).f1))).setCell ⟨gb170,2,none⟩ (.int .i64 ((rd_T61 l0_1 x47_2).f2))).heap[gb170]? = some (.cells #[.string ((rd_T61 l0_1 x47_2).f0),.string ((rd_T61 l0_1 x47_2).f1),.int .i64 ((rd_T61 l0_1 x47_2).f2)] 61 (0,0))):=⟨by (with_reducible repeat (first|refine qb ?_ _|refine qe ?_|refine qc ?_ _));refine blk_put (cs:=#[.string ((rd_T61 l0_1 x47_2).f0),.string ((rd_T61 l0_1 x47_2).f1),.int .i64 0]) ?_ 2 _ rfl;(with_reducible repeat (first|refine qb ?_ _|refine qe ?_|refine qc ?_ _));refine blk_put (cs:=#[.string ((rd_T61 l0_1 x47_2).f0),.string (⟨#[]⟩ : ByteArray),.int .i64 0]) ?_ 1 _ rfl;(with_reducible repeat (first|refine qb ?_ _|refine qe ?_|refine qc ?_ _));refine blk_put (cs:=#[.string (⟨#[]⟩ : ByteArray),.string (⟨#[]⟩ : ByteArray),.int .i64 0]) ?_ 0 _ rfl;(with_reducible repeat (first|refine qb ?_ _|refine qe ?_|refine qc ?_ _));exact BK170.out⟩
              have n2_ : qn (Below w.heap.size w (((w23.setCell ⟨gb170,0,none⟩ (.string ((rd_T61 l0_1 x47_2).f0))).setCell ⟨gb170,1,none⟩ (.string ((rd_T61 l0_1 x47_2).f1))).setCell ⟨gb170,2,none⟩ (.int .i64 ((rd_T61 l0_1 x47_2).f2)))):=⟨by repeat (first|(with_reducible first|exact HB.out|apply qf|apply qa|apply qd|refine qg ?_ GE161.out|refine qg ?_ GE170.out)|exact HB.out)⟩
              (try clear BK161)
              (try clear BK170)
              (try clear HB)
              generalize (((w23.setCell ⟨gb170,0,none⟩ (.string ((rd_T61 l0_1 x47_2).f0))).setCell ⟨gb170,1,none⟩ (.string ((rd_T61 l0_1 x47_2).f1))).setCell ⟨gb170,2,none⟩ (.int .i64 ((rd_T61 l0_1 x47_2).f2))) = w47 at n0_ n1_ n2_ ⊢
              have BK161:=n0_
              have BK170:=n1_
              have HB:=n2_
              clear n0_ n1_ n2_
              have n0_:=qn.mk (qe BK161.out)
              have n1_:=qn.mk (qe BK170.out)
              have n2_:=qn.mk (qd HB.out)
              clear BK161
              clear BK170
              clear HB
              have BK161:=n0_
              have BK170:=n1_
              have HB:=n2_
              clear n0_ n1_ n2_
              refine start_ (n:=33) (S:=fun w'=>w'.cell? ⟨gb161,0,none⟩ = some (.int .i64 a0_0) ∧ w'.cell? ⟨gb161,1,none⟩ = some (.slice (some ad169) l0_1.length c0_1) ∧ w'.cell? ⟨gb170,0,none⟩ = some (.string ((rd_T61 l0_1 x47_2).f0)) ∧ w'.cell? ⟨gb170,1,none⟩ = some (.string ((rd_T61 l0_1 x47_2).f1)) ∧ w'.cell? ⟨gb170,2,none⟩ = some (.int .i64 ((rd_T61 l0_1 x47_2).f2))) (ds:=[]) #[false,false,false,false,false,false,false,false,false,false,false,false,false,false,false,false,false,false,false,false,false,false,false,false,false,false,false,false,false,false,false,false,false] (by kernel_rfl) rfl rfl ⟨(qh BK161.out 0).trans rfl,(qh BK161.out 1).trans rfl,(qh BK170.out 0).trans rfl,(qh BK170.out 1).trans rfl,(qh BK170.out 2).trans rfl⟩ (fun hHeld=>?_);refine with_tabW impl_PageText.tab9 impl_PageText.bits9 (fun HT_ HW_=>?_)
              generalize w47.drew = w48 at BK161 BK170 HB hHeld ⊢
              refine pure_ (i:=0) (N:=some 52) (v:=?_) (a':=?_) #[true,false,false,false,false,false,false,false,false,false,false,false,false,false,false,false,false,false,false,false,false,false,false,false,false,false,false,false,false,false,false,false,false] rfl rfl (any_of HT_.out (by kernel_rfl)) (fun _ _ _ h=>h) (Or.inl ⟨by rfl,?_⟩) ?_ ?_
              rotate_left
              ·intro w'
               go_simp
               with_reducible rfl
              rotate_left
              ·simp only [Act.put,List.setIfInBounds_toArray,List.set_cons_zero,List.set_cons_succ,i64_w,i32_w]
               rfl
              refine take_ (i:=1) (N:=some 53) (v:=?_) (a':=?_) #[true,true,false,false,false,false,false,false,false,false,false,false,false,false,false,false,false,false,false,false,false,false,false,false,false,false,false,false,false,false,false,false,false] rfl rfl (take_ofW HT_.out HW_.out (by kernel_rfl)) (fun _ _ _ h=>h) (Or.inl ⟨by rfl,?_⟩) hHeld ?_ ?_
              rotate_left
              ·rintro w' ⟨s0,s1,s2,s3,s4⟩
               go_simp
               with_reducible rfl
              rotate_left
              ·simp only [Act.put,List.setIfInBounds_toArray,List.set_cons_zero,List.set_cons_succ,i64_w,i32_w]
               rfl
              refine take_ (i:=2) (N:=some 54) (v:=?_) (a':=?_) #[true,true,true,false,false,false,false,false,false,false,false,false,false,false,false,false,false,false,false,false,false,false,false,false,false,false,false,false,false,false,false,false,false] rfl rfl (take_ofW HT_.out HW_.out (by kernel_rfl)) (fun _ _ _ h=>h) (Or.inl ⟨by rfl,?_⟩) hHeld ?_ ?_
              rotate_left
              ·rintro w' ⟨s0,s1,s2,s3,s4⟩
               go_simp
               with_reducible rfl
              rotate_left
              ·simp only [Act.put,List.setIfInBounds_toArray,List.set_cons_zero,List.set_cons_succ,i64_w,i32_w]
               rfl
              refine one_ (i:=3) (N:=some 55) #[true,true,true,true,false,false,false,false,false,false,false,false,false,false,false,false,false,false,false,false,false,false,false,false,false,false,false,false,false,false,false,false,false] rfl rfl (one_of HT_.out (by kernel_rfl)) (by decide) (fun K hK=>?_)
              refine goes_ Try.func96 (by kernel_rfl) rfl #[.int .i64 a0_0,.agg #[.string ((rd_T61 l0_1 x47_2).f0),.string ((rd_T61 l0_1 x47_2).f1),.int .i64 ((rd_T61 l0_1 x47_2).f2)]] (by rfl) rfl rfl (by (try simp only [List.map_toArray,List.map_cons,List.map_nil]);first|done|rfl|(simp only [List.length_drop,List.length_take];rfl)) ?_
              with_reducible refine (impl_itemOk.calls a0_0 ((rd_T61 l0_1 x47_2).f0) ((rd_T61 l0_1 x47_2).f1) ((rd_T61 l0_1 x47_2).f2) true _ A26.out).mono ?_
              rintro e w49 ⟨rfl,hb⟩
              refine ⟨_,rfl,?_⟩
              have n0_:=bb_ BK161 hb
              have n1_:=bb_ BK170 hb
              have n2_:=hs_ HB hb
              clear BK161
              clear BK170
              clear HB
              have BK161:=n0_
              have BK170:=n1_
              have HB:=n2_
              clear n0_ n1_ n2_
              (try clear hb)
              (try clear hb2)
              (try clear hk)
              (try clear hi)
              refine hK.out _ _ ⟨(qh BK161.out 0).trans rfl,(qh BK161.out 1).trans rfl,(qh BK170.out 0).trans rfl,(qh BK170.out 1).trans rfl,(qh BK170.out 2).trans rfl⟩ (fun hHeld=>?_)
              clear hK K
              refine norm_ (a':=?_) ?_ ?_
              rotate_left
              ·show Act.put _ (some 55) _ = _
               simp only [Act.put,List.setIfInBounds_toArray,List.set_cons_zero,List.set_cons_succ,i64_w,i32_w]
               rfl
              refine pure_ (i:=4) (N:=some 56) (v:=?_) (a':=?_) #[true,true,true,true,true,false,false,false,false,false,false,false,false,false,false,false,false,false,false,false,false,false,false,false,false,false,false,false,false,false,false,false,false] rfl rfl (any_of HT_.out (by kernel_rfl)) (fun _ _ _ h=>h) (Or.inl ⟨by rfl,?_⟩) ?_ ?_
              rotate_left
              ·intro w'
               go_simp
               with_reducible rfl
              rotate_left
              ·simp only [Act.put,List.setIfInBounds_toArray,List.set_cons_zero,List.set_cons_succ,i64_w,i32_w]
               rfl
              refine pure_ (i:=5) (N:=some 57) (v:=?_) (a':=?_) #[true,true,true,true,true,true,false,false,false,false,false,false,false,false,false,false,false,false,false,false,false,false,false,false,false,false,false,false,false,false,false,false,false] rfl rfl (any_of HT_.out (by kernel_rfl)) (fun _ _ _ h=>h) (Or.inl ⟨by rfl,?_⟩) ?_ ?_
              rotate_left
              ·intro w'
               go_simp
               with_reducible rfl
              rotate_left
              ·simp only [Act.put,List.setIfInBounds_toArray,List.set_cons_zero,List.set_cons_succ,i64_w,i32_w]
               rfl
              refine pure_ (i:=6) (N:=some 58) (v:=?_) (a':=?_) #[true,true,true,true,true,true,true,false,false,false,false,false,false,false,false,false,false,false,false,false,false,false,false,false,false,false,false,false,false,false,false,false,false] rfl rfl (any_of HT_.out (by kernel_rfl)) (fun _ _ _ h=>h) (Or.inl ⟨by rfl,?_⟩) ?_ ?_
              rotate_left
              ·intro w'
               go_simp
               with_reducible rfl
              rotate_left
              ·simp only [Act.put,List.setIfInBounds_toArray,List.set_cons_zero,List.set_cons_succ,i64_w,i32_w]
               rfl
              refine pure_ (i:=7) (N:=some 59) (v:=?_) (a':=?_) #[true,true,true,true,true,true,true,true,false,false,false,false,false,false,false,false,false,false,false,false,false,false,false,false,false,false,false,false,false,false,false,false,false] rfl rfl (any_of HT_.out (by kernel_rfl)) (fun _ _ _ h=>h) (Or.inl ⟨by rfl,?_⟩) ?_ ?_
              rotate_left
              ·intro w'
               go_simp
               with_reducible rfl
              rotate_left
              ·simp only [Act.put,List.setIfInBounds_toArray,List.set_cons_zero,List.set_cons_succ,i64_w,i32_w]
               rfl
              refine pure_ (i:=8) (N:=some 60) (v:=?_) (a':=?_) #[true,true,true,true,true,true,true,true,true,false,false,false,false,false,false,false,false,false,false,false,false,false,false,false,false,false,false,false,false,false,false,false,false] rfl rfl (any_of HT_.out (by kernel_rfl)) (fun _ _ _ h=>h) (Or.inl ⟨by rfl,?_⟩) ?_ ?_
              rotate_left
              ·intro w'
               go_simp
               with_reducible rfl
              rotate_left
              ·simp only [Act.put,List.setIfInBounds_toArray,List.set_cons_zero,List.set_cons_succ,i64_w,i32_w]
               rfl
              refine pure_ (i:=9) (N:=some 61) (v:=undef) (a':=?_) #[true,true,true,true,true,true,true,true,true,true,false,false,false,false,false,false,false,false,false,false,false,false,false,false,false,false,false,false,false,false,false,false,false] rfl rfl (any_of HT_.out (by kernel_rfl)) (fun _ _ _ h=>h) (Or.inr ⟨by rfl,rfl⟩) ?_ ?_
              rotate_left
              ·simp only [Act.put,List.setIfInBounds_toArray,List.set_cons_zero,List.set_cons_succ,i64_w,i32_w]
               rfl
              refine pure_ (i:=10) (N:=some 62) (v:=undef) (a':=?_) #[true,true,true,true,true,true,true,true,true,true,true,false,false,false,false,false,false,false,false,false,false,false,false,false,false,false,false,false,false,false,false,false,false] rfl rfl (any_of HT_.out (by kernel_rfl)) (fun _ _ _ h=>h) (Or.inr ⟨by rfl,rfl⟩) ?_ ?_
              rotate_left
              ·simp only [Act.put,List.setIfInBounds_toArray,List.set_cons_zero,List.set_cons_succ,i64_w,i32_w]
               rfl
              refine pure_ (i:=11) (N:=some 63) (v:=undef) (a':=?_) #[true,true,true,true,true,true,true,true,true,true,true,true,false,false,false,false,false,false,false,false,false,false,false,false,false,false,false,false,false,false,false,false,false] rfl rfl (any_of HT_.out (by kernel_rfl)) (fun _ _ _ h=>h) (Or.inr ⟨by rfl,rfl⟩) ?_ ?_
              rotate_left
              ·simp only [Act.put,List.setIfInBounds_toArray,List.set_cons_zero,List.set_cons_succ,i64_w,i32_w]
               rfl
              refine pure_ (i:=12) (N:=some 64) (v:=undef) (a':=?_) #[true,true,true,true,true,true,true,true,true,true,true,true,true,false,false,false,false,false,false,false,false,false,false,false,false,false,false,false,false,false,false,false,false] rfl rfl (any_of HT_.out (by kernel_rfl)) (fun _ _ _ h=>h) (Or.inr ⟨by rfl,rfl⟩) ?_ ?_
              rotate_left
              ·simp only [Act.put,List.setIfInBounds_toArray,List.set_cons_zero,List.set_cons_succ,i64_w,i32_w]
               rfl
              refine pure_ (i:=13) (N:=some 65) (v:=undef) (a':=?_) #[true,true,true,true,true,true,true,true,true,true,true,true,true,true,false,false,false,false,false,false,false,false,false,false,false,false,false,false,false,false,false,false,false] rfl rfl (any_of HT_.out (by kernel_rfl)) (fun _ _ _ h=>h) (Or.inr ⟨by rfl,rfl⟩) ?_ ?_
              rotate_left
              ·simp only [Act.put,List.setIfInBounds_toArray,List.set_cons_zero,List.set_cons_succ,i64_w,i32_w]
               rfl
              refine pure_ (i:=14) (N:=some 66) (v:=undef) (a':=?_) #[true,true,true,true,true,true,true,true,true,true,true,true,true,true,true,false,false,false,false,false,false,false,false,false,false,false,false,false,false,false,false,false,false] rfl rfl (any_of HT_.out (by kernel_rfl)) (fun _ _ _ h=>h) (Or.inr ⟨by rfl,rfl⟩) ?_ ?_
              rotate_left
              ·simp only [Act.put,List.setIfInBounds_toArray,List.set_cons_zero,List.set_cons_succ,i64_w,i32_w]
               rfl
              refine pure_ (i:=15) (N:=some 67) (v:=undef) (a':=?_) #[true,true,true,true,true,true,true,true,true,true,true,true,true,true,true,true,false,false,false,false,false,false,false,false,false,false,false,false,false,false,false,false,false] rfl rfl (any_of HT_.out (by kernel_rfl)) (fun _ _ _ h=>h) (Or.inr ⟨by rfl,rfl⟩) ?_ ?_
              rotate_left
              ·simp only [Act.put,List.setIfInBounds_toArray,List.set_cons_zero,List.set_cons_succ,i64_w,i32_w]
               rfl
              refine pure_ (i:=16) (N:=some 68) (v:=undef) (a':=?_) #[true,true,true,true,true,true,true,true,true,true,true,true,true,true,true,true,true,false,false,false,false,false,false,false,false,false,false,false,false,false,false,false,false] rfl rfl (any_of HT_.out (by kernel_rfl)) (fun _ _ _ h=>h) (Or.inr ⟨by rfl,rfl⟩) ?_ ?_
              rotate_left
              ·simp only [Act.put,List.setIfInBounds_toArray,List.set_cons_zero,List.set_cons_succ,i64_w,i32_w]
               rfl
              refine pure_ (i:=17) (N:=some 69) (v:=undef) (a':=?_) #[true,true,true,true,true,true,true,true,true,true,true,true,true,true,true,true,true,true,false,false,false,false,false,false,false,false,false,false,false,false,false,false,false] rfl rfl (any_of HT_.out (by kernel_rfl)) (fun _ _ _ h=>h) (Or.inr ⟨by rfl,rfl⟩) ?_ ?_
              rotate_left
              ·simp only [Act.put,List.setIfInBounds_toArray,List.set_cons_zero,List.set_cons_succ,i64_w,i32_w]
               rfl
              refine pure_ (i:=18) (N:=some 70) (v:=undef) (a':=?_) #[true,true,true,true,true,true,true,true,true,true,true,true,true,true,true,true,true,true,true,false,false,false,false,false,false,false,false,false,false,false,false,false,false] rfl rfl (any_of HT_.out (by kernel_rfl)) (fun _ _ _ h=>h) (Or.inr ⟨by rfl,rfl⟩) ?_ ?_
              rotate_left
              ·simp only [Act.put,List.setIfInBounds_toArray,List.set_cons_zero,List.set_cons_succ,i64_w,i32_w]
               rfl
              refine pure_ (i:=19) (N:=some 71) (v:=?_) (a':=?_) #[true,true,true,true,true,true,true,true,true,true,true,true,true,true,true,true,true,true,true,true,false,false,false,false,false,false,false,false,false,false,false,false,false] rfl rfl (any_of HT_.out (by kernel_rfl)) (fun _ _ _ h=>h) (Or.inl ⟨by rfl,?_⟩) ?_ ?_
              rotate_left
              ·intro w'
               go_simp
               with_reducible rfl
              rotate_left
              ·simp only [Act.put,List.setIfInBounds_toArray,List.set_cons_zero,List.set_cons_succ,i64_w,i32_w]
               rfl
              refine pure_ (i:=20) (N:=some 72) (v:=?_) (a':=?_) #[true,true,true,true,true,true,true,true,true,true,true,true,true,true,true,true,true,true,true,true,true,false,false,false,false,false,false,false,false,false,false,false,false] rfl rfl (any_of HT_.out (by kernel_rfl)) (fun _ _ _ h=>h) (Or.inl ⟨by rfl,?_⟩) ?_ ?_
              rotate_left
              ·intro w'
               go_simp
               with_reducible rfl
              rotate_left
              ·simp only [Act.put,List.setIfInBounds_toArray,List.set_cons_zero,List.set_cons_succ,i64_w,i32_w]
               rfl
              refine pure_ (i:=21) (N:=some 73) (v:=?_) (a':=?_) #[true,true,true,true,true,true,true,true,true,true,true,true,true,true,true,true,true,true,true,true,true,true,false,false,false,false,false,false,false,false,false,false,false] rfl rfl (any_of HT_.out (by kernel_rfl)) (fun _ _ _ h=>h) (Or.inl ⟨by rfl,?_⟩) ?_ ?_
              rotate_left
              ·intro w'
               go_simp
               with_reducible rfl
              rotate_left
              ·simp only [Act.put,List.setIfInBounds_toArray,List.set_cons_zero,List.set_cons_succ,i64_w,i32_w]
               rfl
              refine pure_ (i:=22) (N:=some 74) (v:=?_) (a':=?_) #[true,true,true,true,true,true,true,true,true,true,true,true,true,true,true,true,true,true,true,true,true,true,true,false,false,false,false,false,false,false,false,false,false] rfl rfl (any_of HT_.out (by kernel_rfl)) (fun _ _ _ h=>h) (Or.inl ⟨by rfl,?_⟩) ?_ ?_
              rotate_left
              ·intro w'
               go_simp
               with_reducible rfl
              rotate_left
              ·simp only [Act.put,List.setIfInBounds_toArray,List.set_cons_zero,List.set_cons_succ,i64_w,i32_w]
               rfl
              refine take_ (i:=23) (N:=some 75) (v:=?_) (a':=?_) #[true,true,true,true,true,true,true,true,true,true,true,true,true,true,true,true,true,true,true,true,true,true,true,true,false,false,false,false,false,false,false,false,false] rfl rfl (take_ofW HT_.out HW_.out (by kernel_rfl)) (fun _ _ _ h=>h) (Or.inl ⟨by rfl,?_⟩) hHeld ?_ ?_
              rotate_left
              ·rintro w' ⟨s0,s1,s2,s3,s4⟩
               go_simp
               with_reducible rfl
              rotate_left
              ·simp only [Act.put,List.setIfInBounds_toArray,List.set_cons_zero,List.set_cons_succ,i64_w,i32_w]
               rfl
              refine pure_ (i:=24) (N:=some 76) (v:=?_) (a':=?_) #[true,true,true,true,true,true,true,true,true,true,true,true,true,true,true,true,true,true,true,true,true,true,true,true,true,false,false,false,false,false,false,false,false] rfl rfl (any_of HT_.out (by kernel_rfl)) (fun _ _ _ h=>h) (Or.inl ⟨by rfl,?_⟩) ?_ ?_
              rotate_left
              ·intro w'
               go_simp
               with_reducible rfl
              rotate_left
              ·simp only [Act.put,List.setIfInBounds_toArray,List.set_cons_zero,List.set_cons_succ,i64_w,i32_w]
               rfl
              refine pure_ (i:=25) (N:=some 77) (v:=?_) (a':=?_) #[true,true,true,true,true,true,true,true,true,true,true,true,true,true,true,true,true,true,true,true,true,true,true,true,true,true,false,false,false,false,false,false,false] rfl rfl (any_of HT_.out (by kernel_rfl)) (fun _ _ _ h=>h) (Or.inl ⟨by rfl,?_⟩) ?_ ?_
              rotate_left
              ·intro w'
               go_simp
               with_reducible rfl
              rotate_left
              ·simp only [Act.put,List.setIfInBounds_toArray,List.set_cons_zero,List.set_cons_succ,i64_w,i32_w]
               rfl
              refine pure_ (i:=26) (N:=some 78) (v:=?_) (a':=?_) #[true,true,true,true,true,true,true,true,true,true,true,true,true,true,true,true,true,true,true,true,true,true,true,true,true,true,true,false,false,false,false,false,false] rfl rfl (any_of HT_.out (by kernel_rfl)) (fun _ _ _ h=>h) (Or.inl ⟨by rfl,?_⟩) ?_ ?_
              rotate_left
              ·intro w'
               go_simp
               with_reducible rfl
              rotate_left
              ·simp only [Act.put,List.setIfInBounds_toArray,List.set_cons_zero,List.set_cons_succ,i64_w,i32_w]
               rfl
              refine pure_ (i:=27) (N:=some 79) (v:=?_) (a':=?_) #[true,true,true,true,true,true,true,true,true,true,true,true,true,true,true,true,true,true,true,true,true,true,true,true,true,true,true,true,false,false,false,false,false] rfl rfl (any_of HT_.out (by kernel_rfl)) (fun _ _ _ h=>h) (Or.inl ⟨by rfl,?_⟩) ?_ ?_
              rotate_left
              ·intro w'
               go_simp
               with_reducible rfl
              rotate_left
              ·simp only [Act.put,List.setIfInBounds_toArray,List.set_cons_zero,List.set_cons_succ,i64_w,i32_w]
               rfl
              refine pure_ (i:=28) (N:=some 80) (v:=?_) (a':=?_) #[true,true,true,true,true,true,true,true,true,true,true,true,true,true,true,true,true,true,true,true,true,true,true,true,true,true,true,true,true,false,false,false,false] rfl rfl (any_of HT_.out (by kernel_rfl)) (fun _ _ _ h=>h) (Or.inl ⟨by rfl,?_⟩) ?_ ?_
              rotate_left
              ·intro w'
               go_simp
               with_reducible rfl
              rotate_left
              ·simp only [Act.put,List.setIfInBounds_toArray,List.set_cons_zero,List.set_cons_succ,i64_w,i32_w]
               rfl
              refine take_ (i:=29) (N:=some 81) (v:=?_) (a':=?_) #[true,true,true,true,true,true,true,true,true,true,true,true,true,true,true,true,true,true,true,true,true,true,true,true,true,true,true,true,true,true,false,false,false] rfl rfl (take_ofW HT_.out HW_.out (by kernel_rfl)) (fun _ _ _ h=>h) (Or.inl ⟨by rfl,?_⟩) hHeld ?_ ?_
              rotate_left
              ·rintro w' ⟨s0,s1,s2,s3,s4⟩
               go_simp
               with_reducible rfl
              rotate_left
              ·simp only [Act.put,List.setIfInBounds_toArray,List.set_cons_zero,List.set_cons_succ,i64_w,i32_w]
               rfl
              refine pure_ (i:=30) (N:=some 82) (v:=?_) (a':=?_) #[true,true,true,true,true,true,true,true,true,true,true,true,true,true,true,true,true,true,true,true,true,true,true,true,true,true,true,true,true,true,true,false,false] rfl rfl (any_of HT_.out (by kernel_rfl)) (fun _ _ _ h=>h) (Or.inl ⟨by rfl,?_⟩) ?_ ?_
              rotate_left
              ·intro w'
               go_simp
               with_reducible rfl
              rotate_left
              ·simp only [Act.put,List.setIfInBounds_toArray,List.set_cons_zero,List.set_cons_succ,i64_w,i32_w]
               rfl
              refine pure_ (i:=31) (N:=some 83) (v:=?_) (a':=?_) #[true,true,true,true,true,true,true,true,true,true,true,true,true,true,true,true,true,true,true,true,true,true,true,true,true,true,true,true,true,true,true,true,false] rfl rfl (any_of HT_.out (by kernel_rfl)) (fun _ _ _ h=>h) (Or.inl ⟨by rfl,?_⟩) ?_ ?_
              rotate_left
              ·intro w'
               go_simp
               with_reducible rfl
              rotate_left
              ·simp only [Act.put,List.setIfInBounds_toArray,List.set_cons_zero,List.set_cons_succ,i64_w,i32_w]
               rfl
              refine pure_ (i:=32) (N:=some 84) (v:=?_) (a':=?_) #[true,true,true,true,true,true,true,true,true,true,true,true,true,true,true,true,true,true,true,true,true,true,true,true,true,true,true,true,true,true,true,true,true] rfl rfl (any_of HT_.out (by kernel_rfl)) (fun _ _ _ h=>h) (Or.inl ⟨by rfl,?_⟩) ?_ ?_
              rotate_left
              ·intro w'
               go_simp
               with_reducible rfl
              rotate_left
              ·simp only [Act.put,List.setIfInBounds_toArray,List.set_cons_zero,List.set_cons_succ,i64_w,i32_w]
               rfl
              refine done_ (done_of HT_.out (by kernel_rfl)) ?_
              try go_wp2
              go_meet
              case rel=>exact ⟨_,(decide ((((rd_T61 l0_1 x47_2).f1).size : Int) > 54)),(by first|rfl|(simp;done)|(simp [*];done)),H',⟨by have:=HJ1.out;have:=HK2.out;first|omega|exact Nat.le_refl _⟩,⟨by (with_reducible repeat (first|refine qb ?_ _|refine qe ?_|refine qc ?_ _));exact BK161.out⟩,⟨by (with_reducible repeat (first|refine qb ?_ _|refine qe ?_|refine qc ?_ _));exact BK170.out⟩,⟨by repeat (first|(with_reducible first|exact HB.out|apply qf|apply qa|apply qd|refine qg ?_ GE161.out|refine qg ?_ GE170.out)|exact HB.out)⟩⟩
           ·replace c27:=Bool.eq_false_iff.mpr c27
            subst c27
            have H1 : (impl_PageText.j2 k2 x6_2 x7_2 l0_1 (l0_1.length : Int) x47_2 true a0_0 l0_1 ((rd_T61 l0_1 x47_2).f0) ((rd_T61 l0_1 x47_2).f1) ((rd_T61 l0_1 x47_2).f2)) = some (r1,r2):=by rw [if_neg (show ¬ (false = true) by decide)] at H;exact H
            clear H
            have H:=H1
            clear H1
            have H':=qn.mk H
            clear H
            try go_wp2
            have n0_ : qn ((((w23.setCell ⟨gb170,0,none⟩ (.string ((rd_T61 l0_1 x47_2).f0))).setCell ⟨gb170,1,none⟩ (.string ((rd_T61 l0_1 x47_2).f1))).setCell ⟨gb170,2,none⟩ (.int .i64 ((rd_T61 l0_1 x47_2).f2))).heap[gb161]? = some (.cells #[.int .i64 a0_0,.slice (some ad169) l0_1.length c0_1] 50 (0,0))):=⟨by (with_reducible repeat (first|refine qb ?_ _|refine qe ?_|refine qc ?_ _));refine blk_far ?_ NB161_170.out _;(with_reducible repeat (first|refine qb ?_ _|refine qe ?_|refine qc ?_ _));refine blk_far ?_ NB161_170.out _;(with_reducible repeat (first|refine qb ?_ _|refine qe ?_|refine qc ?_ _));refine blk_far ?_ NB161_170.out _;(with_reducible repeat (first|refine qb ?_ _|refine qe ?_|refine qc ?_ _));exact BK161.out⟩
            have n1_ : qn ((((w23.setCell ⟨gb170,0,none⟩ (.string ((rd_T61 l0_1 x47_2).f0))).setCell ⟨gb170,1,none⟩ (.string ((rd_T61 l0_1 x47_2).f1))).setCell ⟨gb170,2,none⟩ (.int .i64 ((rd_T61 l0_1 x47_2).f2))).heap[gb170]? = some (.cells #[.string ((rd_T61 l0_1 x47_2).f0),.string ((rd_T61 l0_1 x47_2).f1),.int .i64 ((rd_T61 l0_1 x47_2).f2)] 61 (0,0))):=⟨by (with_reducible repeat (first|refine qb ?_ _|refine qe ?_|refine qc ?_ _));refine blk_put (cs:=#[.string ((rd_T61 l0_1 x47_2).f0),.string ((rd_T61 l0_1 x47_2).f1),.int .i64 0]) ?_ 2 _ rfl;(with_reducible repeat (first|refine qb ?_ _|refine qe ?_|refine qc ?_ _));refine blk_put (cs:=#[.string ((rd_T61 l0_1 x47_2).f0),.string (⟨#[]⟩ : ByteArray),.int .i64 0]) ?_ 1 _ rfl;(with_reducible repeat (first|refine qb ?_ _|refine qe ?_|refine qc ?_ _));refine blk_put (cs:=#[.string (⟨#[]⟩ : ByteArray),.string (⟨#[]⟩ : ByteArray),.int .i64 0]) ?_ 0 _ rfl;(with_reducible repeat (first|refine qb ?_ _|refine qe ?_|refine qc ?_ _));exact BK170.out⟩
            have n2_ : qn (Below w.heap.size w (((w23.setCell ⟨gb170,0,none⟩ (.string ((rd_T61 l0_1 x47_2).f0))).setCell ⟨gb170,1,none⟩ (.string ((rd_T61 l0_1 x47_2).f1))).setCell ⟨gb170,2,none⟩ (.int .i64 ((rd_T61 l0_1 x47_2).f2)))):=⟨by repeat (first|(with_reducible first|exact HB.out|apply qf|apply qa|apply qd|refine qg ?_ GE161.out|refine qg ?_ GE170.out)|exact HB.out)⟩
            (try clear BK161)
            (try clear BK170)
            (try clear HB)
            generalize (((w23.setCell ⟨gb170,0,none⟩ (.string ((rd_T61 l0_1 x47_2).f0))).setCell ⟨gb170,1,none⟩ (.string ((rd_T61 l0_1 x47_2).f1))).setCell ⟨gb170,2,none⟩ (.int .i64 ((rd_T61 l0_1 x47_2).f2))) = w50 at n0_ n1_ n2_ ⊢
            have BK161:=n0_
            have BK170:=n1_
            have HB:=n2_
            clear n0_ n1_ n2_
            have n0_:=qn.mk (qe BK161.out)
            have n1_:=qn.mk (qe BK170.out)
            have n2_:=qn.mk (qd HB.out)
            clear BK161
            clear BK170
            clear HB
            have BK161:=n0_
            have BK170:=n1_
            have HB:=n2_
            clear n0_ n1_ n2_
            refine start_ (n:=33) (S:=fun w'=>w'.cell? ⟨gb161,0,none⟩ = some (.int .i64 a0_0) ∧ w'.cell? ⟨gb161,1,none⟩ = some (.slice (some ad169) l0_1.length c0_1) ∧ w'.cell? ⟨gb170,0,none⟩ = some (.string ((rd_T61 l0_1 x47_2).f0)) ∧ w'.cell? ⟨gb170,1,none⟩ = some (.string ((rd_T61 l0_1 x47_2).f1)) ∧ w'.cell? ⟨gb170,2,none⟩ = some (.int .i64 ((rd_T61 l0_1 x47_2).f2))) (ds:=[]) #[false,false,false,false,false,false,false,false,false,false,false,false,false,false,false,false,false,false,false,false,false,false,false,false,false,false,false,false,false,false,false,false,false] (by kernel_rfl) rfl rfl ⟨(qh BK161.out 0).trans rfl,(qh BK161.out 1).trans rfl,(qh BK170.out 0).trans rfl,(qh BK170.out 1).trans rfl,(qh BK170.out 2).trans rfl⟩ (fun hHeld=>?_);refine with_tabW impl_PageText.tab9 impl_PageText.bits9 (fun HT_ HW_=>?_)
            generalize w50.drew = w51 at BK161 BK170 HB hHeld ⊢
            refine pure_ (i:=0) (N:=some 52) (v:=?_) (a':=?_) #[true,false,false,false,false,false,false,false,false,false,false,false,false,false,false,false,false,false,false,false,false,false,false,false,false,false,false,false,false,false,false,false,false] rfl rfl (any_of HT_.out (by kernel_rfl)) (fun _ _ _ h=>h) (Or.inl ⟨by rfl,?_⟩) ?_ ?_
            rotate_left
            ·intro w'
             go_simp
             with_reducible rfl
            rotate_left
            ·simp only [Act.put,List.setIfInBounds_toArray,List.set_cons_zero,List.set_cons_succ,i64_w,i32_w]
             rfl
            refine take_ (i:=1) (N:=some 53) (v:=?_) (a':=?_) #[true,true,false,false,false,false,false,false,false,false,false,false,false,false,false,false,false,false,false,false,false,false,false,false,false,false,false,false,false,false,false,false,false] rfl rfl (take_ofW HT_.out HW_.out (by kernel_rfl)) (fun _ _ _ h=>h) (Or.inl ⟨by rfl,?_⟩) hHeld ?_ ?_
            rotate_left
            ·rintro w' ⟨s0,s1,s2,s3,s4⟩
             go_simp
             with_reducible rfl
            rotate_left
            ·simp only [Act.put,List.setIfInBounds_toArray,List.set_cons_zero,List.set_cons_succ,i64_w,i32_w]
             rfl
            refine take_ (i:=2) (N:=some 54) (v:=?_) (a':=?_) #[true,true,true,false,false,false,false,false,false,false,false,false,false,false,false,false,false,false,false,false,false,false,false,false,false,false,false,false,false,false,false,false,false] rfl rfl (take_ofW HT_.out HW_.out (by kernel_rfl)) (fun _ _ _ h=>h) (Or.inl ⟨by rfl,?_⟩) hHeld ?_ ?_
            rotate_left
            ·rintro w' ⟨s0,s1,s2,s3,s4⟩
             go_simp
             with_reducible rfl
            rotate_left
            ·simp only [Act.put,List.setIfInBounds_toArray,List.set_cons_zero,List.set_cons_succ,i64_w,i32_w]
             rfl
            refine one_ (i:=3) (N:=some 55) #[true,true,true,true,false,false,false,false,false,false,false,false,false,false,false,false,false,false,false,false,false,false,false,false,false,false,false,false,false,false,false,false,false] rfl rfl (one_of HT_.out (by kernel_rfl)) (by decide) (fun K hK=>?_)
            refine goes_ Try.func96 (by kernel_rfl) rfl #[.int .i64 a0_0,.agg #[.string ((rd_T61 l0_1 x47_2).f0),.string ((rd_T61 l0_1 x47_2).f1),.int .i64 ((rd_T61 l0_1 x47_2).f2)]] (by rfl) rfl rfl (by (try simp only [List.map_toArray,List.map_cons,List.map_nil]);first|done|rfl|(simp only [List.length_drop,List.length_take];rfl)) ?_
            with_reducible refine (impl_itemOk.calls a0_0 ((rd_T61 l0_1 x47_2).f0) ((rd_T61 l0_1 x47_2).f1) ((rd_T61 l0_1 x47_2).f2) false _ A26.out).mono ?_
            rintro e w52 ⟨rfl,hb⟩
            refine ⟨_,rfl,?_⟩
            have n0_:=bb_ BK161 hb
            have n1_:=bb_ BK170 hb
            have n2_:=hs_ HB hb
            clear BK161
            clear BK170
            clear HB
            have BK161:=n0_
            have BK170:=n1_
            have HB:=n2_
            clear n0_ n1_ n2_
            (try clear hb)
            (try clear hb2)
            (try clear hk)
            (try clear hi)
            refine hK.out _ _ ⟨(qh BK161.out 0).trans rfl,(qh BK161.out 1).trans rfl,(qh BK170.out 0).trans rfl,(qh BK170.out 1).trans rfl,(qh BK170.out 2).trans rfl⟩ (fun hHeld=>?_)
            clear hK K
            refine norm_ (a':=?_) ?_ ?_
            rotate_left
            ·show Act.put _ (some 55) _ = _
             simp only [Act.put,List.setIfInBounds_toArray,List.set_cons_zero,List.set_cons_succ,i64_w,i32_w]
             rfl
            refine pure_ (i:=4) (N:=some 56) (v:=?_) (a':=?_) #[true,true,true,true,true,false,false,false,false,false,false,false,false,false,false,false,false,false,false,false,false,false,false,false,false,false,false,false,false,false,false,false,false] rfl rfl (any_of HT_.out (by kernel_rfl)) (fun _ _ _ h=>h) (Or.inl ⟨by rfl,?_⟩) ?_ ?_
            rotate_left
            ·intro w'
             go_simp
             with_reducible rfl
            rotate_left
            ·simp only [Act.put,List.setIfInBounds_toArray,List.set_cons_zero,List.set_cons_succ,i64_w,i32_w]
             rfl
            refine pure_ (i:=5) (N:=some 57) (v:=?_) (a':=?_) #[true,true,true,true,true,true,false,false,false,false,false,false,false,false,false,false,false,false,false,false,false,false,false,false,false,false,false,false,false,false,false,false,false] rfl rfl (any_of HT_.out (by kernel_rfl)) (fun _ _ _ h=>h) (Or.inl ⟨by rfl,?_⟩) ?_ ?_
            rotate_left
            ·intro w'
             go_simp
             with_reducible rfl
            rotate_left
            ·simp only [Act.put,List.setIfInBounds_toArray,List.set_cons_zero,List.set_cons_succ,i64_w,i32_w]
             rfl
            refine pure_ (i:=6) (N:=some 58) (v:=undef) (a':=?_) #[true,true,true,true,true,true,true,false,false,false,false,false,false,false,false,false,false,false,false,false,false,false,false,false,false,false,false,false,false,false,false,false,false] rfl rfl (any_of HT_.out (by kernel_rfl)) (fun _ _ _ h=>h) (Or.inr ⟨by rfl,rfl⟩) ?_ ?_
            rotate_left
            ·simp only [Act.put,List.setIfInBounds_toArray,List.set_cons_zero,List.set_cons_succ,i64_w,i32_w]
             rfl
            refine pure_ (i:=7) (N:=some 59) (v:=undef) (a':=?_) #[true,true,true,true,true,true,true,true,false,false,false,false,false,false,false,false,false,false,false,false,false,false,false,false,false,false,false,false,false,false,false,false,false] rfl rfl (any_of HT_.out (by kernel_rfl)) (fun _ _ _ h=>h) (Or.inr ⟨by rfl,rfl⟩) ?_ ?_
            rotate_left
            ·simp only [Act.put,List.setIfInBounds_toArray,List.set_cons_zero,List.set_cons_succ,i64_w,i32_w]
             rfl
            refine pure_ (i:=8) (N:=some 60) (v:=undef) (a':=?_) #[true,true,true,true,true,true,true,true,true,false,false,false,false,false,false,false,false,false,false,false,false,false,false,false,false,false,false,false,false,false,false,false,false] rfl rfl (any_of HT_.out (by kernel_rfl)) (fun _ _ _ h=>h) (Or.inr ⟨by rfl,rfl⟩) ?_ ?_
            rotate_left
            ·simp only [Act.put,List.setIfInBounds_toArray,List.set_cons_zero,List.set_cons_succ,i64_w,i32_w]
             rfl
            refine pure_ (i:=9) (N:=some 61) (v:=undef) (a':=?_) #[true,true,true,true,true,true,true,true,true,true,false,false,false,false,false,false,false,false,false,false,false,false,false,false,false,false,false,false,false,false,false,false,false] rfl rfl (any_of HT_.out (by kernel_rfl)) (fun _ _ _ h=>h) (Or.inr ⟨by rfl,rfl⟩) ?_ ?_
            rotate_left
            ·simp only [Act.put,List.setIfInBounds_toArray,List.set_cons_zero,List.set_cons_succ,i64_w,i32_w]
             rfl
            refine pure_ (i:=10) (N:=some 62) (v:=undef) (a':=?_) #[true,true,true,true,true,true,true,true,true,true,true,false,false,false,false,false,false,false,false,false,false,false,false,false,false,false,false,false,false,false,false,false,false] rfl rfl (any_of HT_.out (by kernel_rfl)) (fun _ _ _ h=>h) (Or.inr ⟨by rfl,rfl⟩) ?_ ?_
            rotate_left
            ·simp only [Act.put,List.setIfInBounds_toArray,List.set_cons_zero,List.set_cons_succ,i64_w,i32_w]
             rfl
            refine pure_ (i:=11) (N:=some 63) (v:=undef) (a':=?_) #[true,true,true,true,true,true,true,true,true,true,true,true,false,false,false,false,false,false,false,false,false,false,false,false,false,false,false,false,false,false,false,false,false] rfl rfl (any_of HT_.out (by kernel_rfl)) (fun _ _ _ h=>h) (Or.inr ⟨by rfl,rfl⟩) ?_ ?_
            rotate_left
            ·simp only [Act.put,List.setIfInBounds_toArray,List.set_cons_zero,List.set_cons_succ,i64_w,i32_w]
             rfl
            refine pure_ (i:=12) (N:=some 64) (v:=undef) (a':=?_) #[true,true,true,true,true,true,true,true,true,true,true,true,true,false,false,false,false,false,false,false,false,false,false,false,false,false,false,false,false,false,false,false,false] rfl rfl (any_of HT_.out (by kernel_rfl)) (fun _ _ _ h=>h) (Or.inr ⟨by rfl,rfl⟩) ?_ ?_
            rotate_left
            ·simp only [Act.put,List.setIfInBounds_toArray,List.set_cons_zero,List.set_cons_succ,i64_w,i32_w]
             rfl
            refine pure_ (i:=13) (N:=some 65) (v:=undef) (a':=?_) #[true,true,true,true,true,true,true,true,true,true,true,true,true,true,false,false,false,false,false,false,false,false,false,false,false,false,false,false,false,false,false,false,false] rfl rfl (any_of HT_.out (by kernel_rfl)) (fun _ _ _ h=>h) (Or.inr ⟨by rfl,rfl⟩) ?_ ?_
            rotate_left
            ·simp only [Act.put,List.setIfInBounds_toArray,List.set_cons_zero,List.set_cons_succ,i64_w,i32_w]
             rfl
            refine pure_ (i:=14) (N:=some 66) (v:=undef) (a':=?_) #[true,true,true,true,true,true,true,true,true,true,true,true,true,true,true,false,false,false,false,false,false,false,false,false,false,false,false,false,false,false,false,false,false] rfl rfl (any_of HT_.out (by kernel_rfl)) (fun _ _ _ h=>h) (Or.inr ⟨by rfl,rfl⟩) ?_ ?_
            rotate_left
            ·simp only [Act.put,List.setIfInBounds_toArray,List.set_cons_zero,List.set_cons_succ,i64_w,i32_w]
             rfl
            refine pure_ (i:=15) (N:=some 67) (v:=undef) (a':=?_) #[true,true,true,true,true,true,true,true,true,true,true,true,true,true,true,true,false,false,false,false,false,false,false,false,false,false,false,false,false,false,false,false,false] rfl rfl (any_of HT_.out (by kernel_rfl)) (fun _ _ _ h=>h) (Or.inr ⟨by rfl,rfl⟩) ?_ ?_
            rotate_left
            ·simp only [Act.put,List.setIfInBounds_toArray,List.set_cons_zero,List.set_cons_succ,i64_w,i32_w]
             rfl
            refine pure_ (i:=16) (N:=some 68) (v:=undef) (a':=?_) #[true,true,true,true,true,true,true,true,true,true,true,true,true,true,true,true,true,false,false,false,false,false,false,false,false,false,false,false,false,false,false,false,false] rfl rfl (any_of HT_.out (by kernel_rfl)) (fun _ _ _ h=>h) (Or.inr ⟨by rfl,rfl⟩) ?_ ?_
            rotate_left
            ·simp only [Act.put,List.setIfInBounds_toArray,List.set_cons_zero,List.set_cons_succ,i64_w,i32_w]
             rfl
            refine pure_ (i:=17) (N:=some 69) (v:=undef) (a':=?_) #[true,true,true,true,true,true,true,true,true,true,true,true,true,true,true,true,true,true,false,false,false,false,false,false,false,false,false,false,false,false,false,false,false] rfl rfl (any_of HT_.out (by kernel_rfl)) (fun _ _ _ h=>h) (Or.inr ⟨by rfl,rfl⟩) ?_ ?_
            rotate_left
            ·simp only [Act.put,List.setIfInBounds_toArray,List.set_cons_zero,List.set_cons_succ,i64_w,i32_w]
             rfl
            refine pure_ (i:=18) (N:=some 70) (v:=undef) (a':=?_) #[true,true,true,true,true,true,true,true,true,true,true,true,true,true,true,true,true,true,true,false,false,false,false,false,false,false,false,false,false,false,false,false,false] rfl rfl (any_of HT_.out (by kernel_rfl)) (fun _ _ _ h=>h) (Or.inr ⟨by rfl,rfl⟩) ?_ ?_
            rotate_left
            ·simp only [Act.put,List.setIfInBounds_toArray,List.set_cons_zero,List.set_cons_succ,i64_w,i32_w]
             rfl
            refine pure_ (i:=19) (N:=some 71) (v:=undef) (a':=?_) #[true,true,true,true,true,true,true,true,true,true,true,true,true,true,true,true,true,true,true,true,false,false,false,false,false,false,false,false,false,false,false,false,false] rfl rfl (any_of HT_.out (by kernel_rfl)) (fun _ _ _ h=>h) (Or.inr ⟨by rfl,rfl⟩) ?_ ?_
            rotate_left
            ·simp only [Act.put,List.setIfInBounds_toArray,List.set_cons_zero,List.set_cons_succ,i64_w,i32_w]
             rfl
            refine pure_ (i:=20) (N:=some 72) (v:=?_) (a':=?_) #[true,true,true,true,true,true,true,true,true,true,true,true,true,true,true,true,true,true,true,true,true,false,false,false,false,false,false,false,false,false,false,false,false] rfl rfl (any_of HT_.out (by kernel_rfl)) (fun _ _ _ h=>h) (Or.inl ⟨by rfl,?_⟩) ?_ ?_
            rotate_left
            ·intro w'
             go_simp
             with_reducible rfl
            rotate_left
            ·simp only [Act.put,List.setIfInBounds_toArray,List.set_cons_zero,List.set_cons_succ,i64_w,i32_w]
             rfl
            refine pure_ (i:=21) (N:=some 73) (v:=?_) (a':=?_) #[true,true,true,true,true,true,true,true,true,true,true,true,true,true,true,true,true,true,true,true,true,true,false,false,false,false,false,false,false,false,false,false,false] rfl rfl (any_of HT_.out (by kernel_rfl)) (fun _ _ _ h=>h) (Or.inl ⟨by rfl,?_⟩) ?_ ?_
            rotate_left
            ·intro w'
             go_simp
             with_reducible rfl
            rotate_left
            ·simp only [Act.put,List.setIfInBounds_toArray,List.set_cons_zero,List.set_cons_succ,i64_w,i32_w]
             rfl
            refine pure_ (i:=22) (N:=some 74) (v:=undef) (a':=?_) #[true,true,true,true,true,true,true,true,true,true,true,true,true,true,true,true,true,true,true,true,true,true,true,false,false,false,false,false,false,false,false,false,false] rfl rfl (any_of HT_.out (by kernel_rfl)) (fun _ _ _ h=>h) (Or.inr ⟨by rfl,rfl⟩) ?_ ?_
            rotate_left
            ·simp only [Act.put,List.setIfInBounds_toArray,List.set_cons_zero,List.set_cons_succ,i64_w,i32_w]
             rfl
            refine pure_ (i:=23) (N:=some 75) (v:=undef) (a':=?_) #[true,true,true,true,true,true,true,true,true,true,true,true,true,true,true,true,true,true,true,true,true,true,true,true,false,false,false,false,false,false,false,false,false] rfl rfl (any_of HT_.out (by kernel_rfl)) (fun _ _ _ h=>h) (Or.inr ⟨by rfl,rfl⟩) ?_ ?_
            rotate_left
            ·simp only [Act.put,List.setIfInBounds_toArray,List.set_cons_zero,List.set_cons_succ,i64_w,i32_w]
             rfl
            refine pure_ (i:=24) (N:=some 76) (v:=undef) (a':=?_) #[true,true,true,true,true,true,true,true,true,true,true,true,true,true,true,true,true,true,true,true,true,true,true,true,true,false,false,false,false,false,false,false,false] rfl rfl (any_of HT_.out (by kernel_rfl)) (fun _ _ _ h=>h) (Or.inr ⟨by rfl,rfl⟩) ?_ ?_
            rotate_left
            ·simp only [Act.put,List.setIfInBounds_toArray,List.set_cons_zero,List.set_cons_succ,i64_w,i32_w]
             rfl
            refine pure_ (i:=25) (N:=some 77) (v:=undef) (a':=?_) #[true,true,true,true,true,true,true,true,true,true,true,true,true,true,true,true,true,true,true,true,true,true,true,true,true,true,false,false,false,false,false,false,false] rfl rfl (any_of HT_.out (by kernel_rfl)) (fun _ _ _ h=>h) (Or.inr ⟨by rfl,rfl⟩) ?_ ?_
            rotate_left
            ·simp only [Act.put,List.setIfInBounds_toArray,List.set_cons_zero,List.set_cons_succ,i64_w,i32_w]
             rfl
            refine pure_ (i:=26) (N:=some 78) (v:=?_) (a':=?_) #[true,true,true,true,true,true,true,true,true,true,true,true,true,true,true,true,true,true,true,true,true,true,true,true,true,true,true,false,false,false,false,false,false] rfl rfl (any_of HT_.out (by kernel_rfl)) (fun _ _ _ h=>h) (Or.inl ⟨by rfl,?_⟩) ?_ ?_
            rotate_left
            ·intro w'
             go_simp
             with_reducible rfl
            rotate_left
            ·simp only [Act.put,List.setIfInBounds_toArray,List.set_cons_zero,List.set_cons_succ,i64_w,i32_w]
             rfl
            refine pure_ (i:=27) (N:=some 79) (v:=?_) (a':=?_) #[true,true,true,true,true,true,true,true,true,true,true,true,true,true,true,true,true,true,true,true,true,true,true,true,true,true,true,true,false,false,false,false,false] rfl rfl (any_of HT_.out (by kernel_rfl)) (fun _ _ _ h=>h) (Or.inl ⟨by rfl,?_⟩) ?_ ?_
            rotate_left
            ·intro w'
             go_simp
             with_reducible rfl
            rotate_left
            ·simp only [Act.put,List.setIfInBounds_toArray,List.set_cons_zero,List.set_cons_succ,i64_w,i32_w]
             rfl
            refine pure_ (i:=28) (N:=some 80) (v:=undef) (a':=?_) #[true,true,true,true,true,true,true,true,true,true,true,true,true,true,true,true,true,true,true,true,true,true,true,true,true,true,true,true,true,false,false,false,false] rfl rfl (any_of HT_.out (by kernel_rfl)) (fun _ _ _ h=>h) (Or.inr ⟨by rfl,rfl⟩) ?_ ?_
            rotate_left
            ·simp only [Act.put,List.setIfInBounds_toArray,List.set_cons_zero,List.set_cons_succ,i64_w,i32_w]
             rfl
            refine pure_ (i:=29) (N:=some 81) (v:=undef) (a':=?_) #[true,true,true,true,true,true,true,true,true,true,true,true,true,true,true,true,true,true,true,true,true,true,true,true,true,true,true,true,true,true,false,false,false] rfl rfl (any_of HT_.out (by kernel_rfl)) (fun _ _ _ h=>h) (Or.inr ⟨by rfl,rfl⟩) ?_ ?_
            rotate_left
            ·simp only [Act.put,List.setIfInBounds_toArray,List.set_cons_zero,List.set_cons_succ,i64_w,i32_w]
             rfl
            refine pure_ (i:=30) (N:=some 82) (v:=undef) (a':=?_) #[true,true,true,true,true,true,true,true,true,true,true,true,true,true,true,true,true,true,true,true,true,true,true,true,true,true,true,true,true,true,true,false,false] rfl rfl (any_of HT_.out (by kernel_rfl)) (fun _ _ _ h=>h) (Or.inr ⟨by rfl,rfl⟩) ?_ ?_
            rotate_left
            ·simp only [Act.put,List.setIfInBounds_toArray,List.set_cons_zero,List.set_cons_succ,i64_w,i32_w]
             rfl
            refine pure_ (i:=31) (N:=some 83) (v:=undef) (a':=?_) #[true,true,true,true,true,true,true,true,true,true,true,true,true,true,true,true,true,true,true,true,true,true,true,true,true,true,true,true,true,true,true,true,false] rfl rfl (any_of HT_.out (by kernel_rfl)) (fun _ _ _ h=>h) (Or.inr ⟨by rfl,rfl⟩) ?_ ?_
            rotate_left
            ·simp only [Act.put,List.setIfInBounds_toArray,List.set_cons_zero,List.set_cons_succ,i64_w,i32_w]
             rfl
            refine pure_ (i:=32) (N:=some 84) (v:=?_) (a':=?_) #[true,true,true,true,true,true,true,true,true,true,true,true,true,true,true,true,true,true,true,true,true,true,true,true,true,true,true,true,true,true,true,true,true] rfl rfl (any_of HT_.out (by kernel_rfl)) (fun _ _ _ h=>h) (Or.inl ⟨by rfl,?_⟩) ?_ ?_
            rotate_left
            ·intro w'
             go_simp
             with_reducible rfl
            rotate_left
            ·simp only [Act.put,List.setIfInBounds_toArray,List.set_cons_zero,List.set_cons_succ,i64_w,i32_w]
             rfl
            refine done_ (done_of HT_.out (by kernel_rfl)) ?_
            try go_wp2
            go_meet
            case rel=>exact ⟨_,(true),(by first|rfl|(simp;done)|(simp [*];done)),H',⟨by have:=HJ1.out;have:=HK2.out;first|omega|exact Nat.le_refl _⟩,⟨by (with_reducible repeat (first|refine qb ?_ _|refine qe ?_|refine qc ?_ _));exact BK161.out⟩,⟨by (with_reducible repeat (first|refine qb ?_ _|refine qe ?_|refine qc ?_ _));exact BK170.out⟩,⟨by repeat (first|(with_reducible first|exact HB.out|apply qf|apply qa|apply qd|refine qg ?_ GE161.out|refine qg ?_ GE170.out)|exact HB.out)⟩⟩
          case rest =>
           clear HC22
           try clear c2
           try clear p2
           try clear c4
           try clear c9
           try clear c27
           try clear c43
           try clear c43b0
           try clear c43b1
           obtain ⟨kq,x84_21,rfl,HA,HJ21,BK161,BK170,HB⟩:=hcut
           cases kq with
           | zero=>exact absurd HA.out (by simp [impl_PageText.j2])
           | succ kj21 =>
            have H:=HA.out
            clear HA
            simp only [impl_PageText.j2] at H
            by_cases c53 : x84_21 = true
            ·subst c53
             have H1 : (some ((⟨#[]⟩ : ByteArray),false)) = some (r1,r2):=by rw [if_pos rfl] at H;exact H
             clear H
             have H:=H1
             clear H1
             simp only [Option.some.injEq,Prod.mk.injEq] at H
             obtain ⟨rfl,rfl⟩:=H
             go_wp2
             go_ret2
             exact ⟨by first|rfl|(simp [errW_none,errW_some] <;> rfl)|(simp [*,errW_none,errW_some] <;> rfl),by repeat (first|(with_reducible first|exact HB.out|apply qf|apply qa|apply qd|refine qg ?_ GE161.out|refine qg ?_ GE170.out)|exact HB.out)⟩
            ·replace c53:=Bool.eq_false_iff.mpr c53
             subst c53
             have H1 : ((impl_ItemSize.f kj21 a0_0 ((rd_T61 l0_1 x47_2).f0) ((rd_T61 l0_1 x47_2).f1) ((rd_T61 l0_1 x47_2).f2)).bind fun t173=>((impl_ShortText.f kj21 ((rd_T61 l0_1 x47_2).f0)).bind fun bt174=>((impl_ShortText.f kj21 ((rd_T61 l0_1 x47_2).f1)).bind fun bt176=>(if a0_0 = 2 then ((impl_VarText.f kj21 ((rd_T61 l0_1 x47_2).f2)).bind fun bt178=>(if bt174.1.size + bt178.1.size ≤ 9223372036854775807 then (if x6_2.size + (bt174.1 ++ bt178.1).size ≤ 9223372036854775807 then (impl_PageText.l0 kj21 (x6_2 ++ (bt174.1 ++ bt178.1)) (wrap64 (x7_2 + t173)) l0_1 (l0_1.length : Int) (wrap64 (x47_2 + 1)) a0_0 l0_1) else (none)) else (none))) else (if bt174.1.size + bt176.1.size ≤ 9223372036854775807 then (if x6_2.size + (bt174.1 ++ bt176.1).size ≤ 9223372036854775807 then (impl_PageText.l0 kj21 (x6_2 ++ (bt174.1 ++ bt176.1)) (wrap64 (x7_2 + t173)) l0_1 (l0_1.length : Int) (wrap64 (x47_2 + 1)) a0_0 l0_1) else (none)) else (none)))))) = some (r1,r2):=by rw [if_neg (show ¬ (false = true) by decide)] at H;exact H
             clear H
             have H:=H1
             clear H1
             replace H:=Option.bind_eq_some_iff.mp H
             obtain ⟨t173,A540,H⟩:=H
             replace H : ((impl_ShortText.f kj21 ((rd_T61 l0_1 x47_2).f0)).bind fun bt174=>((impl_ShortText.f kj21 ((rd_T61 l0_1 x47_2).f1)).bind fun bt176=>(if a0_0 = 2 then ((impl_VarText.f kj21 ((rd_T61 l0_1 x47_2).f2)).bind fun bt178=>(if bt174.1.size + bt178.1.size ≤ 9223372036854775807 then (if x6_2.size + (bt174.1 ++ bt178.1).size ≤ 9223372036854775807 then (impl_PageText.l0 kj21 (x6_2 ++ (bt174.1 ++ bt178.1)) (wrap64 (x7_2 + t173)) l0_1 (l0_1.length : Int) (wrap64 (x47_2 + 1)) a0_0 l0_1) else (none)) else (none))) else (if bt174.1.size + bt176.1.size ≤ 9223372036854775807 then (if x6_2.size + (bt174.1 ++ bt176.1).size ≤ 9223372036854775807 then (impl_PageText.l0 kj21 (x6_2 ++ (bt174.1 ++ bt176.1)) (wrap64 (x7_2 + t173)) l0_1 (l0_1.length : Int) (wrap64 (x47_2 + 1)) a0_0 l0_1) else (none)) else (none))))) = some (r1,r2):=H
             have A54:=qn.mk A540
             clear A540
             replace H:=Option.bind_eq_some_iff.mp H
             obtain ⟨⟨t174,t175⟩,A550,H⟩:=H
             replace H : ((impl_ShortText.f kj21 ((rd_T61 l0_1 x47_2).f1)).bind fun bt176=>(if a0_0 = 2 then ((impl_VarText.f kj21 ((rd_T61 l0_1 x47_2).f2)).bind fun bt178=>(if t174.size + bt178.1.size ≤ 9223372036854775807 then (if x6_2.size + (t174 ++ bt178.1).size ≤ 9223372036854775807 then (impl_PageText.l0 kj21 (x6_2 ++ (t174 ++ bt178.1)) (wrap64 (x7_2 + t173)) l0_1 (l0_1.length : Int) (wrap64 (x47_2 + 1)) a0_0 l0_1) else (none)) else (none))) else (if t174.size + bt176.1.size ≤ 9223372036854775807 then (if x6_2.size + (t174 ++ bt176.1).size ≤ 9223372036854775807 then (impl_PageText.l0 kj21 (x6_2 ++ (t174 ++ bt176.1)) (wrap64 (x7_2 + t173)) l0_1 (l0_1.length : Int) (wrap64 (x47_2 + 1)) a0_0 l0_1) else (none)) else (none)))) = some (r1,r2):=H
             have A55:=qn.mk A550
             clear A550
             replace H:=Option.bind_eq_some_iff.mp H
             obtain ⟨⟨t176,t177⟩,A560,H⟩:=H
             replace H : (if a0_0 = 2 then ((impl_VarText.f kj21 ((rd_T61 l0_1 x47_2).f2)).bind fun bt178=>(if t174.size + bt178.1.size ≤ 9223372036854775807 then (if x6_2.size + (t174 ++ bt178.1).size ≤ 9223372036854775807 then (impl_PageText.l0 kj21 (x6_2 ++ (t174 ++ bt178.1)) (wrap64 (x7_2 + t173)) l0_1 (l0_1.length : Int) (wrap64 (x47_2 + 1)) a0_0 l0_1) else (none)) else (none))) else (if t174.size + t176.size ≤ 9223372036854775807 then (if x6_2.size + (t174 ++ t176).size ≤ 9223372036854775807 then (impl_PageText.l0 kj21 (x6_2 ++ (t174 ++ t176)) (wrap64 (x7_2 + t173)) l0_1 (l0_1.length : Int) (wrap64 (x47_2 + 1)) a0_0 l0_1) else (none)) else (none))) = some (r1,r2):=H
             have A56:=qn.mk A560
             clear A560
             by_cases c57 : a0_0 = 2
             ·rw [if_pos c57] at H
              have c57b0 : (a0_0 == 2) = true:=beq_iff_eq.mpr c57
              have c57b1 : (a0_0 != 2) = false:=bne_eq_false_iff_eq.mpr c57
              clear c57
              replace H:=Option.bind_eq_some_iff.mp H
              obtain ⟨⟨t178,t179⟩,A580,H⟩:=H
              replace H : (if t174.size + t178.size ≤ 9223372036854775807 then (if x6_2.size + (t174 ++ t178).size ≤ 9223372036854775807 then (impl_PageText.l0 kj21 (x6_2 ++ (t174 ++ t178)) (wrap64 (x7_2 + t173)) l0_1 (l0_1.length : Int) (wrap64 (x47_2 + 1)) a0_0 l0_1) else (none)) else (none)) = some (r1,r2):=H
              have A58:=qn.mk A580
              clear A580
              by_cases c59 : t174.size + t178.size ≤ 9223372036854775807
              ·rw [if_pos c59] at H
               have c59b0:=eq_true c59
               have c59b1 : decide (t174.size + t178.size ≤ 9223372036854775807) = true:=decide_eq_true c59
               try have c59b2 : (9223372036854775807 < t174.size + t178.size) = False:=eq_false (Nat.not_lt.2 c59)
               by_cases c60 : x6_2.size + (t174 ++ t178).size ≤ 9223372036854775807
               ·rw [if_pos c60] at H
                have c60b0:=eq_true c60
                have c60b1 : decide (x6_2.size + (t174 ++ t178).size ≤ 9223372036854775807) = true:=decide_eq_true c60
                try have c60b2 : (9223372036854775807 < x6_2.size + (t174 ++ t178).size) = False:=eq_false (Nat.not_lt.2 c60)
                have H':=qn.mk H
                clear H
                have hnb61:=NB161_170.out
                have hnc61:=NB170_161.out
                have hcz62_0 : wc.cell? ⟨gb161,0,none⟩ = some (.int .i64 a0_0):=(qh BK161.out 0).trans rfl
                have hcz62_1 : wc.cell? ⟨gb161,1,none⟩ = some (.slice (some ad169) l0_1.length c0_1):=(qh BK161.out 1).trans rfl
                have hfz62_0:=qi BK161.out 0
                have hfz62_1:=qi BK161.out 1
                have hcz63_0 : wc.cell? ⟨gb170,0,none⟩ = some (.string ((rd_T61 l0_1 x47_2).f0)):=(qh BK170.out 0).trans rfl
                have hcz63_1 : wc.cell? ⟨gb170,1,none⟩ = some (.string ((rd_T61 l0_1 x47_2).f1)):=(qh BK170.out 1).trans rfl
                have hcz63_2 : wc.cell? ⟨gb170,2,none⟩ = some (.int .i64 ((rd_T61 l0_1 x47_2).f2)):=(qh BK170.out 2).trans rfl
                have hfz63_0:=qi BK170.out 0
                have hfz63_1:=qi BK170.out 1
                have hfz63_2:=qi BK170.out 2
                go_wp2_with (first|((with_reducible refine gate_callee (f:=54) rfl ?_);refine goesL_ (some 89) rfl rfl Try.func54 (by kernel_rfl) rfl #[.int .i64 a0_0,.agg #[.string ((rd_T61 l0_1 x47_2).f0),.string ((rd_T61 l0_1 x47_2).f1),.int .i64 ((rd_T61 l0_1 x47_2).f2)]] rfl (by (try simp only [List.map_toArray,List.map_cons,List.map_nil]);first|done|rfl|(simp only [List.length_drop,List.length_take];rfl)) ?_;(with_reducible refine (impl_ItemSize.calls kj21 a0_0 ((rd_T61 l0_1 x47_2).f0) ((rd_T61 l0_1 x47_2).f1) ((rd_T61 l0_1 x47_2).f2) t173 _ A54.out).mono ?_);rintro e w64 ⟨rfl,hb⟩;refine ⟨_,rfl,?_⟩;have n0_:=bb_ BK161 hb;have n1_:=bb_ BK170 hb;have n2_:=hs_ HB hb;clear BK161;clear BK170;clear HB;have BK161:=n0_;have BK170:=n1_;have HB:=n2_;clear n0_ n1_ n2_;(try clear hb);(try clear hb2);(try clear hk);(try clear hi);have hcz65_0 : w64.cell? ⟨gb170,0,none⟩ = some (.string ((rd_T61 l0_1 x47_2).f0)):=(qh BK170.out 0).trans rfl;have hcz65_1 : w64.cell? ⟨gb170,1,none⟩ = some (.string ((rd_T61 l0_1 x47_2).f1)):=(qh BK170.out 1).trans rfl;have hcz65_2 : w64.cell? ⟨gb170,2,none⟩ = some (.int .i64 ((rd_T61 l0_1 x47_2).f2)):=(qh BK170.out 2).trans rfl;have hfz65_0:=qi BK170.out 0;have hfz65_1:=qi BK170.out 1;have hfz65_2:=qi BK170.out 2)|((with_reducible refine gate_callee (f:=97) rfl ?_);refine goesL_ (some 94) rfl rfl Try.func97 (by kernel_rfl) rfl #[.string ((rd_T61 l0_1 x47_2).f0)] rfl (by (try simp only [List.map_toArray,List.map_cons,List.map_nil]);first|done|rfl|(simp only [List.length_drop,List.length_take];rfl)) ?_;(with_reducible refine (impl_ShortText.calls kj21 ((rd_T61 l0_1 x47_2).f0) t174 t175 _ A55.out).mono ?_);rintro e w66 ⟨rfl,hb⟩;refine ⟨_,rfl,?_⟩;have n0_:=bb_ BK161 hb;have n1_:=bb_ BK170 hb;have n2_:=hs_ HB hb;clear BK161;clear BK170;clear HB;have BK161:=n0_;have BK170:=n1_;have HB:=n2_;clear n0_ n1_ n2_;(try clear hb);(try clear hb2);(try clear hk);(try clear hi);have hcz67_0 : w66.cell? ⟨gb170,0,none⟩ = some (.string ((rd_T61 l0_1 x47_2).f0)):=(qh BK170.out 0).trans rfl;have hcz67_1 : w66.cell? ⟨gb170,1,none⟩ = some (.string ((rd_T61 l0_1 x47_2).f1)):=(qh BK170.out 1).trans rfl;have hcz67_2 : w66.cell? ⟨gb170,2,none⟩ = some (.int .i64 ((rd_T61 l0_1 x47_2).f2)):=(qh BK170.out 2).trans rfl;have hfz67_0:=qi BK170.out 0;have hfz67_1:=qi BK170.out 1;have hfz67_2:=qi BK170.out 2)|((with_reducible refine gate_callee (f:=97) rfl ?_);refine goesL_ (some 100) rfl rfl Try.func97 (by kernel_rfl) rfl #[.string ((rd_T61 l0_1 x47_2).f1)] rfl (by (try simp only [List.map_toArray,List.map_cons,List.map_nil]);first|done|rfl|(simp only [List.length_drop,List.length_take];rfl)) ?_;(with_reducible refine (impl_ShortText.calls kj21 ((rd_T61 l0_1 x47_2).f1) t176 t177 _ A56.out).mono ?_);rintro e w68 ⟨rfl,hb⟩;refine ⟨_,rfl,?_⟩;have n0_:=bb_ BK161 hb;have n1_:=bb_ BK170 hb;have n2_:=hs_ HB hb;clear BK161;clear BK170;clear HB;have BK161:=n0_;have BK170:=n1_;have HB:=n2_;clear n0_ n1_ n2_;(try clear hb);(try clear hb2);(try clear hk);(try clear hi);have hcz69_0 : w68.cell? ⟨gb161,0,none⟩ = some (.int .i64 a0_0):=(qh BK161.out 0).trans rfl;have hcz69_1 : w68.cell? ⟨gb161,1,none⟩ = some (.slice (some ad169) l0_1.length c0_1):=(qh BK161.out 1).trans rfl;have hfz69_0:=qi BK161.out 0;have hfz69_1:=qi BK161.out 1;have hcz70_0 : w68.cell? ⟨gb170,0,none⟩ = some (.string ((rd_T61 l0_1 x47_2).f0)):=(qh BK170.out 0).trans rfl;have hcz70_1 : w68.cell? ⟨gb170,1,none⟩ = some (.string ((rd_T61 l0_1 x47_2).f1)):=(qh BK170.out 1).trans rfl;have hcz70_2 : w68.cell? ⟨gb170,2,none⟩ = some (.int .i64 ((rd_T61 l0_1 x47_2).f2)):=(qh BK170.out 2).trans rfl;have hfz70_0:=qi BK170.out 0;have hfz70_1:=qi BK170.out 1;have hfz70_2:=qi BK170.out 2)|((with_reducible refine gate_callee (f:=95) rfl ?_);refine goesL_ (some 109) rfl rfl Try.func95 (by kernel_rfl) rfl #[.int .i64 ((rd_T61 l0_1 x47_2).f2)] rfl (by (try simp only [List.map_toArray,List.map_cons,List.map_nil]);first|done|rfl|(simp only [List.length_drop,List.length_take];rfl)) ?_;(with_reducible refine (impl_VarText.calls kj21 ((rd_T61 l0_1 x47_2).f2) t178 t179 _ A58.out).mono ?_);rintro e w71 ⟨rfl,hb⟩;refine ⟨_,rfl,?_⟩;have n0_:=bb_ BK161 hb;have n1_:=bb_ BK170 hb;have n2_:=hs_ HB hb;clear BK161;clear BK170;clear HB;have BK161:=n0_;have BK170:=n1_;have HB:=n2_;clear n0_ n1_ n2_;(try clear hb);(try clear hb2);(try clear hk);(try clear hi)))
                go_roundg kj21
                case measure=>have:=HJ1.out;have:=HK2.out;have:=HJ21.out;omega
                case rel=>exact ⟨(x6_2 ++ (t174 ++ t178)),(wrap64 (x7_2 + t173)),(wrap64 (x47_2 + 1)),(by first|rfl|(simp;done)|(simp [*];done)),(by first|rfl|(simp;done)|(simp [*];done)),(by first|rfl|(simp;done)|(simp [*];done)),H',⟨by have:=HJ1.out;have:=HK2.out;have:=HJ21.out;omega⟩,⟨by (with_reducible repeat (first|refine qb ?_ _|refine qe ?_|refine qc ?_ _));exact BK161.out⟩,⟨by repeat (first|(with_reducible first|exact HB.out|apply qf|apply qa|apply qd|refine qg ?_ GE161.out|refine qg ?_ GE170.out)|exact HB.out)⟩⟩
               ·rw [if_neg c60] at H
                exact absurd H (by simp)
              ·rw [if_neg c59] at H
               exact absurd H (by simp)
             ·rw [if_neg c57] at H
              have c57b0 : (a0_0 == 2) = false:=beq_eq_false_iff_ne.mpr c57
              have c57b1 : (a0_0 != 2) = true:=bne_iff_ne.mpr c57
              by_cases c72 : t174.size + t176.size ≤ 9223372036854775807
              ·rw [if_pos c72] at H
               have c72b0:=eq_true c72
               have c72b1 : decide (t174.size + t176.size ≤ 9223372036854775807) = true:=decide_eq_true c72
               try have c72b2 : (9223372036854775807 < t174.size + t176.size) = False:=eq_false (Nat.not_lt.2 c72)
               by_cases c73 : x6_2.size + (t174 ++ t176).size ≤ 9223372036854775807
               ·rw [if_pos c73] at H
                have c73b0:=eq_true c73
                have c73b1 : decide (x6_2.size + (t174 ++ t176).size ≤ 9223372036854775807) = true:=decide_eq_true c73
                try have c73b2 : (9223372036854775807 < x6_2.size + (t174 ++ t176).size) = False:=eq_false (Nat.not_lt.2 c73)
                have H':=qn.mk H
                clear H
                have hnb74:=NB161_170.out
                have hnc74:=NB170_161.out
                have hcz75_0 : wc.cell? ⟨gb161,0,none⟩ = some (.int .i64 a0_0):=(qh BK161.out 0).trans rfl
                have hcz75_1 : wc.cell? ⟨gb161,1,none⟩ = some (.slice (some ad169) l0_1.length c0_1):=(qh BK161.out 1).trans rfl
                have hfz75_0:=qi BK161.out 0
                have hfz75_1:=qi BK161.out 1
                have hcz76_0 : wc.cell? ⟨gb170,0,none⟩ = some (.string ((rd_T61 l0_1 x47_2).f0)):=(qh BK170.out 0).trans rfl
                have hcz76_1 : wc.cell? ⟨gb170,1,none⟩ = some (.string ((rd_T61 l0_1 x47_2).f1)):=(qh BK170.out 1).trans rfl
                have hcz76_2 : wc.cell? ⟨gb170,2,none⟩ = some (.int .i64 ((rd_T61 l0_1 x47_2).f2)):=(qh BK170.out 2).trans rfl
                have hfz76_0:=qi BK170.out 0
                have hfz76_1:=qi BK170.out 1
                have hfz76_2:=qi BK170.out 2
                go_wp2_with (first|((with_reducible refine gate_callee (f:=54) rfl ?_);refine goesL_ (some 89) rfl rfl Try.func54 (by kernel_rfl) rfl #[.int .i64 a0_0,.agg #[.string ((rd_T61 l0_1 x47_2).f0),.string ((rd_T61 l0_1 x47_2).f1),.int .i64 ((rd_T61 l0_1 x47_2).f2)]] rfl (by (try simp only [List.map_toArray,List.map_cons,List.map_nil]);first|done|rfl|(simp only [List.length_drop,List.length_take];rfl)) ?_;(with_reducible refine (impl_ItemSize.calls kj21 a0_0 ((rd_T61 l0_1 x47_2).f0) ((rd_T61 l0_1 x47_2).f1) ((rd_T61 l0_1 x47_2).f2) t173 _ A54.out).mono ?_);rintro e w77 ⟨rfl,hb⟩;refine ⟨_,rfl,?_⟩;have n0_:=bb_ BK161 hb;have n1_:=bb_ BK170 hb;have n2_:=hs_ HB hb;clear BK161;clear BK170;clear HB;have BK161:=n0_;have BK170:=n1_;have HB:=n2_;clear n0_ n1_ n2_;(try clear hb);(try clear hb2);(try clear hk);(try clear hi);have hcz78_0 : w77.cell? ⟨gb170,0,none⟩ = some (.string ((rd_T61 l0_1 x47_2).f0)):=(qh BK170.out 0).trans rfl;have hcz78_1 : w77.cell? ⟨gb170,1,none⟩ = some (.string ((rd_T61 l0_1 x47_2).f1)):=(qh BK170.out 1).trans rfl;have hcz78_2 : w77.cell? ⟨gb170,2,none⟩ = some (.int .i64 ((rd_T61 l0_1 x47_2).f2)):=(qh BK170.out 2).trans rfl;have hfz78_0:=qi BK170.out 0;have hfz78_1:=qi BK170.out 1;have hfz78_2:=qi BK170.out 2)|((with_reducible refine gate_callee (f:=97) rfl ?_);refine goesL_ (some 94) rfl rfl Try.func97 (by kernel_rfl) rfl #[.string ((rd_T61 l0_1 x47_2).f0)] rfl (by (try simp only [List.map_toArray,List.map_cons,List.map_nil]);first|done|rfl|(simp only [List.length_drop,List.length_take];rfl)) ?_;(with_reducible refine (impl_ShortText.calls kj21 ((rd_T61 l0_1 x47_2).f0) t174 t175 _ A55.out).mono ?_);rintro e w79 ⟨rfl,hb⟩;refine ⟨_,rfl,?_⟩;have n0_:=bb_ BK161 hb;have n1_:=bb_ BK170 hb;have n2_:=hs_ HB hb;clear BK161;clear BK170;clear HB;have BK161:=n0_;have BK170:=n1_;have HB:=n2_;clear n0_ n1_ n2_;(try clear hb);(try clear hb2);(try clear hk);(try clear hi);have hcz80_0 : w79.cell? ⟨gb170,0,none⟩ = some (.string ((rd_T61 l0_1 x47_2).f0)):=(qh BK170.out 0).trans rfl;have hcz80_1 : w79.cell? ⟨gb170,1,none⟩ = some (.string ((rd_T61 l0_1 x47_2).f1)):=(qh BK170.out 1).trans rfl;have hcz80_2 : w79.cell? ⟨gb170,2,none⟩ = some (.int .i64 ((rd_T61 l0_1 x47_2).f2)):=(qh BK170.out 2).trans rfl;have hfz80_0:=qi BK170.out 0;have hfz80_1:=qi BK170.out 1;have hfz80_2:=qi BK170.out 2)|((with_reducible refine gate_callee (f:=97) rfl ?_);refine goesL_ (some 100) rfl rfl Try.func97 (by kernel_rfl) rfl #[.string ((rd_T61 l0_1 x47_2).f1)] rfl (by (try simp only [List.map_toArray,List.map_cons,List.map_nil]);first|done|rfl|(simp only [List.length_drop,List.length_take];rfl)) ?_;(with_reducible refine (impl_ShortText.calls kj21 ((rd_T61 l0_1 x47_2).f1) t176 t177 _ A56.out).mono ?_);rintro e w81 ⟨rfl,hb⟩;refine ⟨_,rfl,?_⟩;have n0_:=bb_ BK161 hb;have n1_:=bb_ BK170 hb;have n2_:=hs_ HB hb;clear BK161;clear BK170;clear HB;have BK161:=n0_;have BK170:=n1_;have HB:=n2_;clear n0_ n1_ n2_;(try clear hb);(try clear hb2);(try clear hk);(try clear hi);have hcz82_0 : w81.cell? ⟨gb161,0,none⟩ = some (.int .i64 a0_0):=(qh BK161.out 0).trans rfl;have hcz82_1 : w81.cell? ⟨gb161,1,none⟩ = some (.slice (some ad169) l0_1.length c0_1):=(qh BK161.out 1).trans rfl;have hfz82_0:=qi BK161.out 0;have hfz82_1:=qi BK161.out 1))
                go_roundg kj21
                case measure=>have:=HJ1.out;have:=HK2.out;have:=HJ21.out;omega
                case rel=>exact ⟨(x6_2 ++ (t174 ++ t176)),(wrap64 (x7_2 + t173)),(wrap64 (x47_2 + 1)),(by first|rfl|(simp;done)|(simp [*];done)),(by first|rfl|(simp;done)|(simp [*];done)),(by first|rfl|(simp;done)|(simp [*];done)),H',⟨by have:=HJ1.out;have:=HK2.out;have:=HJ21.out;omega⟩,⟨by (with_reducible repeat (first|refine qb ?_ _|refine qe ?_|refine qc ?_ _));exact BK161.out⟩,⟨by repeat (first|(with_reducible first|exact HB.out|apply qf|apply qa|apply qd|refine qg ?_ GE161.out|refine qg ?_ GE170.out)|exact HB.out)⟩⟩
               ·rw [if_neg c73] at H
                exact absurd H (by simp)
              ·rw [if_neg c72] at H
               exact absurd H (by simp)
         ·rw [if_neg c21] at H
          exact absurd H (by simp)
        ·rw [if_neg c20] at H
         exact absurd H (by simp)
       ·rw [if_neg c19] at H
        have c19b0 : decide (x47_2 < (l0_1.length : Int)) = false:=decide_eq_false c19
        clear c19
        by_cases c83 : x7_2 > 54
        ·rw [if_pos c83] at H
         have c83b0 : decide (54 < x7_2) = true:=decide_eq_true c83
         clear c83
         simp only [Option.some.injEq,Prod.mk.injEq] at H
         obtain ⟨rfl,rfl⟩:=H
         go_wp2
         go_ret2
         exact ⟨by first|rfl|(simp [errW_none,errW_some] <;> rfl)|(simp [*,errW_none,errW_some] <;> rfl),by repeat (first|(with_reducible first|exact HB.out|apply qf|apply qa|apply qd|refine qg ?_ GE161.out)|exact HB.out)⟩
        ·rw [if_neg c83] at H
         have c83b0 : decide (54 < x7_2) = false:=decide_eq_false c83
         clear c83
         replace H:=Option.bind_eq_some_iff.mp H
         obtain ⟨⟨t167,t168⟩,A840,H⟩:=H
         replace H : (some (t167,t168)) = some (r1,r2):=H
         have A84:=qn.mk A840
         clear A840
         simp only [Option.some.injEq,Prod.mk.injEq] at H
         obtain ⟨rfl,rfl⟩:=H
         go_wp2_with (first|((with_reducible refine gate_callee (f:=47) rfl ?_);refine goesL_ (some 122) rfl rfl Try.func47 (by kernel_rfl) rfl #[.string x6_2] rfl (by (try simp only [List.map_toArray,List.map_cons,List.map_nil]);first|done|rfl|(simp only [List.length_drop,List.length_take];rfl)) ?_;(with_reducible refine (impl_Sealed.calls k2 x6_2 t167 t168 _ A84.out).mono ?_);rintro e w85 ⟨rfl,hb⟩;refine ⟨_,rfl,?_⟩;have n0_:=bb_ BK161 hb;have n1_:=hs_ HB hb;clear BK161;clear HB;have BK161:=n0_;have HB:=n1_;clear n0_ n1_;(try clear hb);(try clear hb2);(try clear hk);(try clear hi)))
         go_ret2
         exact ⟨by first|rfl|(simp [errW_none,errW_some] <;> rfl)|(simp [*,errW_none,errW_some] <;> rfl),by repeat (first|(with_reducible first|exact HB.out|apply qf|apply qa|apply qd|refine qg ?_ GE161.out)|exact HB.out)⟩
    ·rw [if_neg c11] at H
     exact absurd H (by simp)

end Go.Proofs.Ytfmemcffbfahhaa.QFnPages
