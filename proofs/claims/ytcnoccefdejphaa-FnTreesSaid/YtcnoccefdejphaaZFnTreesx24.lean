/- impl's placer.page: where a page is put on the device, walked by hand. -/
import Derived.Test.YtcnoccefdejphaaZFnTreesx4
import Derived.Test.YtcnoccefdejphaaZFnTreesx5
import Derived.Test.YtcnoccefdejphaaZFnTreesx23
namespace Go.Proofs.Ytcnoccefdejphaa.QFnTrees
open Go.RowKit Go.Proofs.YtcnoccefdejphaaW.PrintWords Go.Proofs.YtcnoccefdejphaaW.PrintLast Go.Proofs.YtcnoccefdejphaaW.PrintMore
attribute [local go_sem] max2_int min2_int max_two min_two max_three min_three max_four min_four
set_option linter.unusedVariables false
set_option linter.unusedSimpArgs false
/-- The first sector from i on that isn't free and reads as the text. -/
noncomputable def impl_page.find (S : List ByteArray) (P : List (S96)) (free : List Int) (t : ByteArray) : Nat → Nat → Option (Option Nat)
 | 0,_=>some none
 | d + 1,i=>(lim fun k=>impl_hasInt.f k free (i : Int)).bind fun b=>if b = true then impl_page.find S P free t d (i + 1) else (lim fun k=>impl_readSector.f k S P (i : Int)).bind fun x=>if x.toList = t.toList then some (some i) else impl_page.find S P free t d (i + 1)
/-- What is answered, and the builder behind it: sectors, what is pending, what is left, what is used. -/
noncomputable def impl_page.f (S : List ByteArray) (P : List (S96)) (F L U : List Int) (kind : Int) (items : List (S71)) : Option (Int × List ByteArray × List (S96) × List Int × List Int) :=
 (lim fun k=>impl_PageText.f k kind items).bind fun t=>if U.length ≤ 1000000 then if t.2 = false then some (-1,S,P,L,U) else
  (impl_page.find S P F t.1 S.length 0).bind fun o=>match o with
   | some i=>some ((i : Int),S,P,L,impl_with.f U (i : Int))
   | none=>if L.length = 0 then some (-1,S,P,L,U) else (lim fun k=>impl_WriteSector.f k S P (rd L 0) t.1).bind fun q=>if q.2.2 = false then some (-1,S,P,L,U) else some (rd L 0,q.1,q.2.1,L.drop 1,impl_with.f U (rd L 0))
  else none
set_option maxHeartbeats 8000000 in
set_option maxRecDepth 100000 in
theorem impl_page.calls (g : Nat) (s0 : List ByteArray) (s1 : List (S96)) (s2 s3 s4 : List Int) (kd : Int) (Ai : Option Addr) (ci : Nat) (it : List (S71)) (r : Int) (z0 : List ByteArray) (z1 : List (S96)) (z3 z4 : List Int) (w0 w : World) (hI : IsP w0 w g s0 s1 s2 s3 s4) (hB : Below w0.heap.size w0 w) (hri : ∀ W_,KeepBut w W_ g none → Kd.C k71 W_ Ai it.length it) (hci : it.length ≤ ci) (h : impl_page.f s0 s1 s2 s3 s4 kd it = some (r,z0,z1,z3,z4)) :
  Calls Try.prog 45 #[.pointer (some ⟨g,0,none⟩),.agg #[.int .i64 kd,.slice Ai it.length ci]] w fun e w'=>e = .returned (.int .i64 r) ∧ IsP w0 w' g z0 z1 s2 z3 z4 ∧ Below w0.heap.size w0 w' ∧ KeepBut w w' g none:=by
 have hu32:=Try.underlying32
 have hu82:=Try.underlying82
 have hu76:=Try.underlying76
 have hu96:=Try.underlying96
 obtain ⟨v0,v1,A2,c2,A3,c3,v4,hV⟩:=hI
 obtain ⟨A0,c0,e0⟩:=Kd.R_slice hV.r0
 subst e0
 obtain ⟨A1,c1,e1⟩:=Kd.R_slice hV.r1
 subst e1
 obtain ⟨A4,c4,e4⟩:=Kd.R_slice hV.r4
 subst e4
 have hlen:=row_len hV.r0
 have GEG:=qo.mk hV.ge
 have hcz0_0 : World.cell? _ ⟨g,0,none⟩ = some (.slice A0 s0.length c0):=(qh hV.blk 0).trans rfl;have hcz0_1 : World.cell? _ ⟨g,1,none⟩ = some (.slice A1 s1.length c1):=(qh hV.blk 1).trans rfl;have hcz0_2 : World.cell? _ ⟨g,2,none⟩ = some (.slice A2 s2.length c2):=(qh hV.blk 2).trans rfl;have hcz0_3 : World.cell? _ ⟨g,3,none⟩ = some (.slice A3 s3.length c3):=(qh hV.blk 3).trans rfl;have hcz0_4 : World.cell? _ ⟨g,4,none⟩ = some (.slice A4 s4.length c4):=(qh hV.blk 4).trans rfl;have hfz0_0:=qj hV.blk 0;have hfz0_1:=qj hV.blk 1;have hfz0_2:=qj hV.blk 2;have hfz0_3:=qj hV.blk 3;have hfz0_4:=qj hV.blk 4
 have HV:=qo.mk hV
 have HB:=qo.mk hB
 have HK:=qo.mk (KeepBut.refl w g none)
 have HR2:=qo.mk hri
 have HC2:=qo.mk hci
 clear hV hB hri hci
 unfold impl_page.f at h
 replace h:=Option.bind_eq_some_iff.mp h
 obtain ⟨⟨t,ok⟩,hP,h⟩:=h
 obtain ⟨kp,hP⟩:=(lim_ev hP).rounds
 by_cases cu : s4.length ≤ 1000000
 ·rw [if_pos cu] at h
  have HU:=qo.mk cu
  clear cu
  by_cases co : ok = true
  ·subst co
   simp only [Bool.true_eq_false,if_false] at h
   replace h:=Option.bind_eq_some_iff.mp h
   obtain ⟨o,hF,h⟩:=h
   have hF':=qo.mk hF
   have h':=qo.mk h
   clear hF h
   go_enter Try.func45,Try.ntmps45
   go_wp2_with (first|((with_reducible refine gate_dst (N:=3) rfl ?_);refine box_event ?hg (N:=3) ?hd (cs:=#[.int .i64 kd,.slice Ai it.length ci]) (t:=76) ?hr ?_;(case hd=>rfl);(case hg=>rfl);(case hr=>first|(go_simp;done)|(go_simp;rfl));intro gb3 hg w3 hbox hb;replace HV:=qo.mk (StP.below (by repeat (first|(with_reducible first|exact HV.out|apply StP.alloc|apply StP.drewN|apply StP.drew)|exact HV.out)) hb);replace HK:=qo.mk (keep_step (by repeat (first|(with_reducible first|exact HK.out|refine keep_alloc ?_ _|refine keep_drewN ?_ _|apply keep_drew|refine keep_step ?_ (below_drew (Below.refl _ _)))|exact HK.out)) hb);replace HB:=qo.mk (qn (by repeat (first|(with_reducible first|exact HB.out|apply qf|apply qa|apply qd|apply below_drew|refine qg ?_ GEG.out)|exact HB.out)) hb);have hczw3_0 : World.cell? _ ⟨g,0,none⟩ = some (.slice A0 s0.length c0):=(qh HV.out.blk 0).trans rfl;have hczw3_1 : World.cell? _ ⟨g,1,none⟩ = some (.slice A1 s1.length c1):=(qh HV.out.blk 1).trans rfl;have hczw3_2 : World.cell? _ ⟨g,2,none⟩ = some (.slice A2 s2.length c2):=(qh HV.out.blk 2).trans rfl;have hczw3_3 : World.cell? _ ⟨g,3,none⟩ = some (.slice A3 s3.length c3):=(qh HV.out.blk 3).trans rfl;have hczw3_4 : World.cell? _ ⟨g,4,none⟩ = some (.slice A4 s4.length c4):=(qh HV.out.blk 4).trans rfl;have hfzw3_0:=qj HV.out.blk 0;have hfzw3_1:=qj HV.out.blk 1;have hfzw3_2:=qj HV.out.blk 2;have hfzw3_3:=qj HV.out.blk 3;have hfzw3_4:=qj HV.out.blk 4;have BK3:=qo.mk hbox;clear hg;obtain ⟨hczb_0,hczb_1,hfzb_0,hfzb_1⟩:=c2f_ BK3.out)|((with_reducible refine gate_callee (f:=71) rfl ?_);refine goesL_ (some 13) rfl rfl Try.func71 (by kernel_rfl) rfl #[.agg #[.int .i64 kd,.slice Ai it.length ci]] rfl sm_ ?_;(with_reducible refine (impl_PageText.calls kp _ _ _ it t _ _ ?side1 ?side2 hP).mono ?_);(case side1=>exact HR2.out _ (by repeat (first|(with_reducible first|exact HK.out|refine keep_alloc ?_ _|refine keep_drewN ?_ _|apply keep_drew|refine keep_step ?_ (below_drew (Below.refl _ _)))|exact HK.out)));(case side2=>exact HC2.out);rintro e w4 ⟨rfl,hb⟩;refine ⟨_,rfl,?_⟩;replace HV:=qo.mk (StP.below (by repeat (first|(with_reducible first|exact HV.out|apply StP.alloc|apply StP.drewN|apply StP.drew)|exact HV.out)) hb);replace HK:=qo.mk (keep_step (by repeat (first|(with_reducible first|exact HK.out|refine keep_alloc ?_ _|refine keep_drewN ?_ _|apply keep_drew|refine keep_step ?_ (below_drew (Below.refl _ _)))|exact HK.out)) hb);replace HB:=qo.mk (qn (by repeat (first|(with_reducible first|exact HB.out|apply qf|apply qa|apply qd|apply below_drew|refine qg ?_ GEG.out)|exact HB.out)) hb);have hczw4_0 : World.cell? _ ⟨g,0,none⟩ = some (.slice A0 s0.length c0):=(qh HV.out.blk 0).trans rfl;have hczw4_1 : World.cell? _ ⟨g,1,none⟩ = some (.slice A1 s1.length c1):=(qh HV.out.blk 1).trans rfl;have hczw4_2 : World.cell? _ ⟨g,2,none⟩ = some (.slice A2 s2.length c2):=(qh HV.out.blk 2).trans rfl;have hczw4_3 : World.cell? _ ⟨g,3,none⟩ = some (.slice A3 s3.length c3):=(qh HV.out.blk 3).trans rfl;have hczw4_4 : World.cell? _ ⟨g,4,none⟩ = some (.slice A4 s4.length c4):=(qh HV.out.blk 4).trans rfl;have hfzw4_0:=qj HV.out.blk 0;have hfzw4_1:=qj HV.out.blk 1;have hfzw4_2:=qj HV.out.blk 2;have hfzw4_3:=qj HV.out.blk 3;have hfzw4_4:=qj HV.out.blk 4))
   go_loopg [24] (s0.length + 1) (fun kq v9 w'=>∃ i : Nat,v9 = .int .i64 (i : Int) ∧ qo (i + kq = s0.length + 1 ∧ i ≤ s0.length) ∧ qo (impl_page.find s0 s1 s2 t (kq - 1) i = some o) ∧ qo (Below w0.heap.size w0 w') ∧ qo (StP w0 w' g (.slice A0 s0.length c0) (.slice A1 s1.length c1) A2 c2 A3 c3 (.slice A4 s4.length c4) s0 s1 s2 s3 s4) ∧ qo (KeepBut w w' g none))
   case atStart=>exact ⟨0,rfl,⟨by omega,Nat.zero_le _⟩,hF',⟨(by repeat (first|(with_reducible first|exact HB.out|apply qf|apply qa|apply qd|apply below_drew|refine qg ?_ GEG.out)|exact HB.out))⟩,⟨(by repeat (first|(with_reducible first|exact HV.out|apply StP.alloc|apply StP.drewN|apply StP.drew)|exact HV.out))⟩,⟨(by repeat (first|(with_reducible first|exact HK.out|refine keep_alloc ?_ _|refine keep_drewN ?_ _|apply keep_drew|refine keep_step ?_ (below_drew (Below.refl _ _)))|exact HK.out))⟩⟩
   clear hF'
   clear HB HV HK
   obtain ⟨i,rfl,HI,HF,HB,HV,HK⟩:=hrel
   obtain ⟨k1,rfl⟩ : ∃ k,gk = k + 1:=⟨gk - 1,by have:=HI.out;omega⟩
   have hi1:=HI.out
   have hf:=HF.out
   clear HI HF
   rw [Nat.add_sub_cancel] at hf
   have hu:=h'.out
   have hczL_0 : World.cell? _ ⟨g,0,none⟩ = some (.slice A0 s0.length c0):=(qh HV.out.blk 0).trans rfl;have hczL_1 : World.cell? _ ⟨g,1,none⟩ = some (.slice A1 s1.length c1):=(qh HV.out.blk 1).trans rfl;have hczL_2 : World.cell? _ ⟨g,2,none⟩ = some (.slice A2 s2.length c2):=(qh HV.out.blk 2).trans rfl;have hczL_3 : World.cell? _ ⟨g,3,none⟩ = some (.slice A3 s3.length c3):=(qh HV.out.blk 3).trans rfl;have hczL_4 : World.cell? _ ⟨g,4,none⟩ = some (.slice A4 s4.length c4):=(qh HV.out.blk 4).trans rfl;have hfzL_0:=qj HV.out.blk 0;have hfzL_1:=qj HV.out.blk 1;have hfzL_2:=qj HV.out.blk 2;have hfzL_3:=qj HV.out.blk 3;have hfzL_4:=qj HV.out.blk 4
   by_cases cx : i < s0.length
   ·obtain ⟨d,rfl⟩ : ∃ d,k1 = d + 1:=⟨k1 - 1,by omega⟩
    have c0b0 : decide ((i : Int) < (s0.length : Int)) = true:=decide_eq_true (by omega)
    unfold impl_page.find at hf
    replace hf:=Option.bind_eq_some_iff.mp hf
    obtain ⟨b,hin,hf⟩:=hf
    obtain ⟨kin,hin⟩:=(lim_ev hin).rounds
    by_cases cb : b = true
    ·subst cb
     simp only [if_true] at hf
     go_wp2_with (first|((with_reducible refine gate_callee (f:=58) rfl ?_);refine goesL_ (some 32) rfl rfl Try.func58 (by kernel_rfl) rfl #[.slice A2 s2.length c2,.int .i64 (i : Int)] rfl sm_ ?_;(with_reducible refine (impl_hasInt.calls kin _ _ s2 (i : Int) true _ ?side1 ?side2 hin).mono ?_);(case side1=>repeat (first|exact Kd.C_below HV.out.r2 HB.out|(with_reducible refine Kd.C_alloc ?_ _)|(with_reducible refine Kd.C_drewN ?_ _)|(with_reducible refine Kd.C_drew ?_)));(case side2=>exact HV.out.l2);rintro e w5 ⟨rfl,⟨nd5,rfl⟩⟩;refine ⟨_,rfl,?_⟩))
     go_roundg (d + 1)
     case measure=>omega
     case rel=>exact ⟨i + 1,by first|rfl|(simp;done)|(rw [show wrap64 ((i : Int) + 1) = ((i + 1 : Nat) : Int) from by unfold wrap64;omega]),⟨by omega,by omega⟩,⟨hf⟩,⟨(by repeat (first|(with_reducible first|exact HB.out|apply qf|apply qa|apply qd|apply below_drew|refine qg ?_ GEG.out)|exact HB.out))⟩,⟨(by repeat (first|(with_reducible first|exact HV.out|apply StP.alloc|apply StP.drewN|apply StP.drew)|exact HV.out))⟩,⟨(by repeat (first|(with_reducible first|exact HK.out|refine keep_alloc ?_ _|refine keep_drewN ?_ _|apply keep_drew|refine keep_step ?_ (below_drew (Below.refl _ _)))|exact HK.out))⟩⟩
    obtain rfl : b = false:=by simpa using cb
    simp only [Bool.false_eq_true,if_false] at hf
    replace hf:=Option.bind_eq_some_iff.mp hf
    obtain ⟨rd0,hrd,hf⟩:=hf
    obtain ⟨krd,hrd⟩:=(lim_ev hrd).rounds
    by_cases ct : rd0.toList = t.toList
    ·rw [if_pos ct] at hf
     obtain rfl:=Option.some.inj hf
     have ctb : (rd0.toList == t.toList) = true:=beq_iff_eq.2 ct
     clear ct
     simp only at hu
     simp only [Option.some.injEq,Prod.mk.injEq] at hu
     obtain ⟨rfl,rfl,rfl,rfl,rfl⟩:=hu
     go_wp2_with (first|((with_reducible refine gate_callee (f:=58) rfl ?_);refine goesL_ (some 32) rfl rfl Try.func58 (by kernel_rfl) rfl #[.slice A2 s2.length c2,.int .i64 (i : Int)] rfl sm_ ?_;(with_reducible refine (impl_hasInt.calls kin _ _ s2 (i : Int) false _ ?side1 ?side2 hin).mono ?_);(case side1=>repeat (first|exact Kd.C_below HV.out.r2 HB.out|(with_reducible refine Kd.C_alloc ?_ _)|(with_reducible refine Kd.C_drewN ?_ _)|(with_reducible refine Kd.C_drew ?_)));(case side2=>exact HV.out.l2);rintro e w5 ⟨rfl,⟨nd5,rfl⟩⟩;refine ⟨_,rfl,?_⟩)|(go_at_call 72;(with_reducible refine (impl_readSector.calls krd _ _ s0 _ _ s1 (i : Int) rd0 _ ?side1 ?side2 ?side3 ?side4 hrd).mono ?_);(case side1=>exact StP.c0 (by repeat (first|(with_reducible first|exact HV.out|apply StP.alloc|apply StP.drewN|apply StP.drew)|exact HV.out)));(case side2=>exact (Kd.R_reads' HV.out.r0).2.1);(case side3=>exact StP.c1 (by repeat (first|(with_reducible first|exact HV.out|apply StP.alloc|apply StP.drewN|apply StP.drew)|exact HV.out)));(case side4=>exact (Kd.R_reads' HV.out.r1).2.1);rintro e w6 ⟨rfl,hb⟩;replace HV:=qo.mk (StP.below (by repeat (first|(with_reducible first|exact HV.out|apply StP.alloc|apply StP.drewN|apply StP.drew)|exact HV.out)) hb);replace HK:=qo.mk (keep_step (by repeat (first|(with_reducible first|exact HK.out|refine keep_alloc ?_ _|refine keep_drewN ?_ _|apply keep_drew|refine keep_step ?_ (below_drew (Below.refl _ _)))|exact HK.out)) hb);replace HB:=qo.mk (qn (by repeat (first|(with_reducible first|exact HB.out|apply qf|apply qa|apply qd|apply below_drew|refine qg ?_ GEG.out)|exact HB.out)) hb);have hczw6_0 : World.cell? _ ⟨g,0,none⟩ = some (.slice A0 s0.length c0):=(qh HV.out.blk 0).trans rfl;have hczw6_1 : World.cell? _ ⟨g,1,none⟩ = some (.slice A1 s1.length c1):=(qh HV.out.blk 1).trans rfl;have hczw6_2 : World.cell? _ ⟨g,2,none⟩ = some (.slice A2 s2.length c2):=(qh HV.out.blk 2).trans rfl;have hczw6_3 : World.cell? _ ⟨g,3,none⟩ = some (.slice A3 s3.length c3):=(qh HV.out.blk 3).trans rfl;have hczw6_4 : World.cell? _ ⟨g,4,none⟩ = some (.slice A4 s4.length c4):=(qh HV.out.blk 4).trans rfl;have hfzw6_0:=qj HV.out.blk 0;have hfzw6_1:=qj HV.out.blk 1;have hfzw6_2:=qj HV.out.blk 2;have hfzw6_3:=qj HV.out.blk 3;have hfzw6_4:=qj HV.out.blk 4)|((with_reducible refine gate_callee (f:=73) rfl ?_);refine goesL_ (some 50) rfl rfl Try.func73 (by kernel_rfl) rfl #[.slice A4 s4.length c4,.int .i64 (i : Int)] rfl sm_ ?_;(with_reducible refine (impl_with.calls _ _ s4 (i : Int) _ ?side1 ?side2 HU.out).mono ?_);(case side1=>exact StP.c4 (by repeat (first|(with_reducible first|exact HV.out|apply StP.alloc|apply StP.drewN|apply StP.drew)|exact HV.out)));(case side2=>exact (Kd.R_reads' HV.out.r4).2.1);rintro e w7 ⟨v7,rfl,ho,hb⟩;refine ⟨_,rfl,?_⟩;have HO:=qo.mk (RetW.own ho hb (StP.r4 (by repeat (first|(with_reducible first|exact HV.out|apply StP.alloc|apply StP.drewN|apply StP.drew)|exact HV.out))) (qk (by repeat (first|(with_reducible first|exact HB.out|apply qf|apply qa|apply qd|apply below_drew|refine qg ?_ GEG.out)|exact HB.out))));replace HV:=qo.mk (StP.below (by repeat (first|(with_reducible first|exact HV.out|apply StP.alloc|apply StP.drewN|apply StP.drew)|exact HV.out)) hb);replace HK:=qo.mk (keep_step (by repeat (first|(with_reducible first|exact HK.out|refine keep_alloc ?_ _|refine keep_drewN ?_ _|apply keep_drew|refine keep_step ?_ (below_drew (Below.refl _ _)))|exact HK.out)) hb);replace HB:=qo.mk (qn (by repeat (first|(with_reducible first|exact HB.out|apply qf|apply qa|apply qd|apply below_drew|refine qg ?_ GEG.out)|exact HB.out)) hb);have hczw7_0 : World.cell? _ ⟨g,0,none⟩ = some (.slice A0 s0.length c0):=(qh HV.out.blk 0).trans rfl;have hczw7_1 : World.cell? _ ⟨g,1,none⟩ = some (.slice A1 s1.length c1):=(qh HV.out.blk 1).trans rfl;have hczw7_2 : World.cell? _ ⟨g,2,none⟩ = some (.slice A2 s2.length c2):=(qh HV.out.blk 2).trans rfl;have hczw7_3 : World.cell? _ ⟨g,3,none⟩ = some (.slice A3 s3.length c3):=(qh HV.out.blk 3).trans rfl;have hczw7_4 : World.cell? _ ⟨g,4,none⟩ = some (.slice A4 s4.length c4):=(qh HV.out.blk 4).trans rfl;have hfzw7_0:=qj HV.out.blk 0;have hfzw7_1:=qj HV.out.blk 1;have hfzw7_2:=qj HV.out.blk 2;have hfzw7_3:=qj HV.out.blk 3;have hfzw7_4:=qj HV.out.blk 4;obtain ⟨Ao,co_,eo⟩:=Kd.R_slice HO.out;subst eo))
     go_ret
     exact ⟨rfl,⟨_,_,_,_,_,_,_,StP.set4 (by repeat (first|(with_reducible first|exact HV.out|apply StP.alloc|apply StP.drewN|apply StP.drew)|exact HV.out)) HO.out⟩,qg (by repeat (first|(with_reducible first|exact HB.out|apply qf|apply qa|apply qd|apply below_drew|refine qg ?_ GEG.out)|exact HB.out)) GEG.out,KeepBut.set_ (by repeat (first|(with_reducible first|exact HK.out|refine keep_alloc ?_ _|refine keep_drewN ?_ _|apply keep_drew|refine keep_step ?_ (below_drew (Below.refl _ _)))|exact HK.out)) _ _⟩
    rw [if_neg ct] at hf
    have ctb : (rd0.toList == t.toList) = false:=beq_eq_false_iff_ne.2 ct
    clear ct
    go_wp2_with (first|((with_reducible refine gate_callee (f:=58) rfl ?_);refine goesL_ (some 32) rfl rfl Try.func58 (by kernel_rfl) rfl #[.slice A2 s2.length c2,.int .i64 (i : Int)] rfl sm_ ?_;(with_reducible refine (impl_hasInt.calls kin _ _ s2 (i : Int) false _ ?side1 ?side2 hin).mono ?_);(case side1=>repeat (first|exact Kd.C_below HV.out.r2 HB.out|(with_reducible refine Kd.C_alloc ?_ _)|(with_reducible refine Kd.C_drewN ?_ _)|(with_reducible refine Kd.C_drew ?_)));(case side2=>exact HV.out.l2);rintro e w5 ⟨rfl,⟨nd5,rfl⟩⟩;refine ⟨_,rfl,?_⟩)|(go_at_call 72;(with_reducible refine (impl_readSector.calls krd _ _ s0 _ _ s1 (i : Int) rd0 _ ?side1 ?side2 ?side3 ?side4 hrd).mono ?_);(case side1=>exact StP.c0 (by repeat (first|(with_reducible first|exact HV.out|apply StP.alloc|apply StP.drewN|apply StP.drew)|exact HV.out)));(case side2=>exact (Kd.R_reads' HV.out.r0).2.1);(case side3=>exact StP.c1 (by repeat (first|(with_reducible first|exact HV.out|apply StP.alloc|apply StP.drewN|apply StP.drew)|exact HV.out)));(case side4=>exact (Kd.R_reads' HV.out.r1).2.1);rintro e w6 ⟨rfl,hb⟩;replace HV:=qo.mk (StP.below (by repeat (first|(with_reducible first|exact HV.out|apply StP.alloc|apply StP.drewN|apply StP.drew)|exact HV.out)) hb);replace HK:=qo.mk (keep_step (by repeat (first|(with_reducible first|exact HK.out|refine keep_alloc ?_ _|refine keep_drewN ?_ _|apply keep_drew|refine keep_step ?_ (below_drew (Below.refl _ _)))|exact HK.out)) hb);replace HB:=qo.mk (qn (by repeat (first|(with_reducible first|exact HB.out|apply qf|apply qa|apply qd|apply below_drew|refine qg ?_ GEG.out)|exact HB.out)) hb);have hczw6_0 : World.cell? _ ⟨g,0,none⟩ = some (.slice A0 s0.length c0):=(qh HV.out.blk 0).trans rfl;have hczw6_1 : World.cell? _ ⟨g,1,none⟩ = some (.slice A1 s1.length c1):=(qh HV.out.blk 1).trans rfl;have hczw6_2 : World.cell? _ ⟨g,2,none⟩ = some (.slice A2 s2.length c2):=(qh HV.out.blk 2).trans rfl;have hczw6_3 : World.cell? _ ⟨g,3,none⟩ = some (.slice A3 s3.length c3):=(qh HV.out.blk 3).trans rfl;have hczw6_4 : World.cell? _ ⟨g,4,none⟩ = some (.slice A4 s4.length c4):=(qh HV.out.blk 4).trans rfl;have hfzw6_0:=qj HV.out.blk 0;have hfzw6_1:=qj HV.out.blk 1;have hfzw6_2:=qj HV.out.blk 2;have hfzw6_3:=qj HV.out.blk 3;have hfzw6_4:=qj HV.out.blk 4))
    go_roundg (d + 1)
    case measure=>omega
    case rel=>exact ⟨i + 1,by first|rfl|(simp;done)|(rw [show wrap64 ((i : Int) + 1) = ((i + 1 : Nat) : Int) from by unfold wrap64;omega]),⟨by omega,by omega⟩,⟨hf⟩,⟨(by repeat (first|(with_reducible first|exact HB.out|apply qf|apply qa|apply qd|apply below_drew|refine qg ?_ GEG.out)|exact HB.out))⟩,⟨(by repeat (first|(with_reducible first|exact HV.out|apply StP.alloc|apply StP.drewN|apply StP.drew)|exact HV.out))⟩,⟨(by repeat (first|(with_reducible first|exact HK.out|refine keep_alloc ?_ _|refine keep_drewN ?_ _|apply keep_drew|refine keep_step ?_ (below_drew (Below.refl _ _)))|exact HK.out))⟩⟩
   obtain rfl : k1 = 0:=by omega
   have c0b0 : decide ((i : Int) < (s0.length : Int)) = false:=decide_eq_false (by omega)
   unfold impl_page.find at hf
   obtain rfl:=Option.some.inj hf
   clear hf
   simp only at hu
   by_cases cf : s3.length = 0
   ·rw [if_pos cf] at hu
    simp only [Option.some.injEq,Prod.mk.injEq] at hu
    obtain ⟨rfl,rfl,rfl,rfl,rfl⟩:=hu
    have cfb : ((s3.length : Int) == 0) = true:=beq_iff_eq.2 (by omega)
    go_wp2
    go_ret
    exact ⟨rfl,⟨_,_,_,_,_,_,_,(by repeat (first|(with_reducible first|exact HV.out|apply StP.alloc|apply StP.drewN|apply StP.drew)|exact HV.out))⟩,(by repeat (first|(with_reducible first|exact HB.out|apply qf|apply qa|apply qd|apply below_drew|refine qg ?_ GEG.out)|exact HB.out)),(by repeat (first|(with_reducible first|exact HK.out|refine keep_alloc ?_ _|refine keep_drewN ?_ _|apply keep_drew|refine keep_step ?_ (below_drew (Below.refl _ _)))|exact HK.out))⟩
   have cfb : ((s3.length : Int) == 0) = false:=beq_eq_false_iff_ne.2 (by omega)
   rw [if_neg cf] at hu
   replace hu:=Option.bind_eq_some_iff.mp hu
   obtain ⟨⟨y0,y1,fine⟩,hws,hu⟩:=hu
   obtain ⟨kws,hws⟩:=(lim_ev hws).rounds
   have p0 : (0 : Int) ≤ 0:=Int.le_refl _
   have q0 : (0 : Int) < (s3.length : Int):=by omega
   obtain ⟨ad,eA,hx0⟩:=Kd.at_int HV.out.r3 0 p0 q0
   subst eA
   rw [show ((0 : Int)).toNat = 0 from rfl,Addr.add_zero'] at hx0
   have hx1:=(HB.out.cell (World.block_lt_of_cell? _ _ hx0)).trans hx0
   have qi : (0 < s3.length) = True:=eq_true (by omega)
   have q1 : (1 : Int) ≤ (s3.length : Int):=by omega
   clear hx0
   by_cases cn : fine = false
   ·subst cn
    simp only [if_true,Option.some.injEq,Prod.mk.injEq] at hu
    obtain ⟨rfl,rfl,rfl,rfl,rfl⟩:=hu
    go_wp2_with (first|((with_reducible refine gate_callee (f:=74) rfl ?_);refine goesL_ (some 74) rfl rfl Try.func74 (by kernel_rfl) rfl #[.agg #[.slice A0 s0.length c0,.slice A1 s1.length c1],.int .i64 (rd s3 0),.string t] rfl sm_ ?_;(with_reducible refine (impl_WriteSector.calls kws _ _ s0 _ _ s1 (rd s3 0) t y0 y1 _ _ ?side1 ?side2 ?side3 ?side4 hws).mono ?_);(case side1=>exact StP.c0 (by repeat (first|(with_reducible first|exact HV.out|apply StP.alloc|apply StP.drewN|apply StP.drew)|exact HV.out)));(case side2=>exact (Kd.R_reads' HV.out.r0).2.1);(case side3=>exact StP.c1 (by repeat (first|(with_reducible first|exact HV.out|apply StP.alloc|apply StP.drewN|apply StP.drew)|exact HV.out)));(case side4=>exact (Kd.R_reads' HV.out.r1).2.1);rintro e w8 ⟨v80,v81,rfl,ho0,ho1,hb⟩;refine ⟨_,rfl,?_⟩;have HW0:=qo.mk (Kd.R_lower ho0 (qk (by repeat (first|(with_reducible first|exact HB.out|apply qf|apply qa|apply qd|apply below_drew|refine qg ?_ GEG.out)|exact HB.out))));have HW1:=qo.mk (Kd.R_lower ho1 (qk (by repeat (first|(with_reducible first|exact HB.out|apply qf|apply qa|apply qd|apply below_drew|refine qg ?_ GEG.out)|exact HB.out))));obtain ⟨AW0,cW0,eW0⟩:=Kd.R_slice HW0.out;subst eW0;obtain ⟨AW1,cW1,eW1⟩:=Kd.R_slice HW1.out;subst eW1;replace HV:=qo.mk (StP.below (by repeat (first|(with_reducible first|exact HV.out|apply StP.alloc|apply StP.drewN|apply StP.drew)|exact HV.out)) hb);replace HK:=qo.mk (keep_step (by repeat (first|(with_reducible first|exact HK.out|refine keep_alloc ?_ _|refine keep_drewN ?_ _|apply keep_drew|refine keep_step ?_ (below_drew (Below.refl _ _)))|exact HK.out)) hb);replace HB:=qo.mk (qn (by repeat (first|(with_reducible first|exact HB.out|apply qf|apply qa|apply qd|apply below_drew|refine qg ?_ GEG.out)|exact HB.out)) hb);have hczw8_0 : World.cell? _ ⟨g,0,none⟩ = some (.slice A0 s0.length c0):=(qh HV.out.blk 0).trans rfl;have hczw8_1 : World.cell? _ ⟨g,1,none⟩ = some (.slice A1 s1.length c1):=(qh HV.out.blk 1).trans rfl;have hczw8_2 : World.cell? _ ⟨g,2,none⟩ = some (.slice A2 s2.length c2):=(qh HV.out.blk 2).trans rfl;have hczw8_3 : World.cell? _ ⟨g,3,none⟩ = some (.slice (some ad) s3.length c3):=(qh HV.out.blk 3).trans rfl;have hczw8_4 : World.cell? _ ⟨g,4,none⟩ = some (.slice A4 s4.length c4):=(qh HV.out.blk 4).trans rfl;have hfzw8_0:=qj HV.out.blk 0;have hfzw8_1:=qj HV.out.blk 1;have hfzw8_2:=qj HV.out.blk 2;have hfzw8_3:=qj HV.out.blk 3;have hfzw8_4:=qj HV.out.blk 4))
    go_ret
    exact ⟨rfl,⟨_,_,_,_,_,_,_,(by repeat (first|(with_reducible first|exact HV.out|apply StP.alloc|apply StP.drewN|apply StP.drew)|exact HV.out))⟩,(by repeat (first|(with_reducible first|exact HB.out|apply qf|apply qa|apply qd|apply below_drew|refine qg ?_ GEG.out)|exact HB.out)),(by repeat (first|(with_reducible first|exact HK.out|refine keep_alloc ?_ _|refine keep_drewN ?_ _|apply keep_drew|refine keep_step ?_ (below_drew (Below.refl _ _)))|exact HK.out))⟩
   obtain rfl : fine = true:=by simpa using cn
   simp only [Bool.true_eq_false,if_false,Option.some.injEq,Prod.mk.injEq] at hu
   obtain ⟨rfl,rfl,rfl,rfl,rfl⟩:=hu
   go_upto_region 17 with (first|((with_reducible refine gate_callee (f:=74) rfl ?_);refine goesL_ (some 74) rfl rfl Try.func74 (by kernel_rfl) rfl #[.agg #[.slice A0 s0.length c0,.slice A1 s1.length c1],.int .i64 (rd s3 0),.string t] rfl sm_ ?_;(with_reducible refine (impl_WriteSector.calls kws _ _ s0 _ _ s1 (rd s3 0) t y0 y1 _ _ ?side1 ?side2 ?side3 ?side4 hws).mono ?_);(case side1=>exact StP.c0 (by repeat (first|(with_reducible first|exact HV.out|apply StP.alloc|apply StP.drewN|apply StP.drew)|exact HV.out)));(case side2=>exact (Kd.R_reads' HV.out.r0).2.1);(case side3=>exact StP.c1 (by repeat (first|(with_reducible first|exact HV.out|apply StP.alloc|apply StP.drewN|apply StP.drew)|exact HV.out)));(case side4=>exact (Kd.R_reads' HV.out.r1).2.1);rintro e w8 ⟨v80,v81,rfl,ho0,ho1,hb⟩;refine ⟨_,rfl,?_⟩;have HW0:=qo.mk (Kd.R_lower ho0 (qk (by repeat (first|(with_reducible first|exact HB.out|apply qf|apply qa|apply qd|apply below_drew|refine qg ?_ GEG.out)|exact HB.out))));have HW1:=qo.mk (Kd.R_lower ho1 (qk (by repeat (first|(with_reducible first|exact HB.out|apply qf|apply qa|apply qd|apply below_drew|refine qg ?_ GEG.out)|exact HB.out))));obtain ⟨AW0,cW0,eW0⟩:=Kd.R_slice HW0.out;subst eW0;obtain ⟨AW1,cW1,eW1⟩:=Kd.R_slice HW1.out;subst eW1;replace HV:=qo.mk (StP.below (by repeat (first|(with_reducible first|exact HV.out|apply StP.alloc|apply StP.drewN|apply StP.drew)|exact HV.out)) hb);replace HK:=qo.mk (keep_step (by repeat (first|(with_reducible first|exact HK.out|refine keep_alloc ?_ _|refine keep_drewN ?_ _|apply keep_drew|refine keep_step ?_ (below_drew (Below.refl _ _)))|exact HK.out)) hb);replace HB:=qo.mk (qn (by repeat (first|(with_reducible first|exact HB.out|apply qf|apply qa|apply qd|apply below_drew|refine qg ?_ GEG.out)|exact HB.out)) hb);have hczw8_0 : World.cell? _ ⟨g,0,none⟩ = some (.slice A0 s0.length c0):=(qh HV.out.blk 0).trans rfl;have hczw8_1 : World.cell? _ ⟨g,1,none⟩ = some (.slice A1 s1.length c1):=(qh HV.out.blk 1).trans rfl;have hczw8_2 : World.cell? _ ⟨g,2,none⟩ = some (.slice A2 s2.length c2):=(qh HV.out.blk 2).trans rfl;have hczw8_3 : World.cell? _ ⟨g,3,none⟩ = some (.slice (some ad) s3.length c3):=(qh HV.out.blk 3).trans rfl;have hczw8_4 : World.cell? _ ⟨g,4,none⟩ = some (.slice A4 s4.length c4):=(qh HV.out.blk 4).trans rfl;have hfzw8_0:=qj HV.out.blk 0;have hfzw8_1:=qj HV.out.blk 1;have hfzw8_2:=qj HV.out.blk 2;have hfzw8_3:=qj HV.out.blk 3;have hfzw8_4:=qj HV.out.blk 4))
   obtain ⟨i0,hi0,hz0_,hsz,hz2_⟩:=info_parts info3
   have hcut:=cut_from (P:=Try.prog) 26 3 .i64 Try.underlying26 hi0 1 hsz (some ad) s3.length c3 1 (by omega) q1
   have hC:=Kd.C_drop HV.out.r3 (m:=1) (c:=c3) (by omega) HV.out.l3
   obtain ⟨Ac,hAc⟩ : ∃ A1,A1 = (if c3 = 1 then some ad else (some ad : Option Addr).map (·.add (1 * 1))):=⟨_,rfl⟩
   obtain ⟨cc,hcc⟩ : ∃ c1,c1 = c3 - 1:=⟨_,rfl⟩
   have hnn : s3.length - 1 = (s3.drop 1).length:=by rw [List.length_drop]
   have hlc : (s3.drop 1).length ≤ cc:=by have:=HV.out.l3;rw [hcc,List.length_drop];omega
   obtain ⟨F1,hF1⟩ : ∃ F1,F1 = s3.drop 1:=⟨_,rfl⟩
   rw [← hF1] at hnn hC hlc
   have HF1:=qo.mk hF1
   have hcut' : ∀ W : World,Sem.run Try.prog (Instr.slice 26 (Value.slice (some ad) s3.length c3) (some (Value.int IntKind.i64 1)) none none) W = Result.ok (.slice Ac F1.length cc) W:=by
    intro W
    rw [hcut W,hAc,hcc,← hnn]
    rfl
   have HC3 : qo ((Kd.int IntKind.i64).C w0 Ac F1.length F1):=⟨by rw [hAc];exact hC⟩
   have HL3:=qo.mk hlc
   have BK9 : qo ((w8.alloc (.cells #[Value.slice AW0 y0.length cW0,Value.slice AW1 y1.length cW1] 32)).heap[w8.heap.size]? = some (.cells #[Value.slice AW0 y0.length cW0,Value.slice AW1 y1.length cW1] 32 (0,0))):=⟨heap_alloc_new _ _⟩
   clear hcut hC hAc hcc hnn hF1 hlc hi0 hsz hz0_ hz2_ i0
   refine start_ (n:=24) (S:=fun w'=>w'.cell? ⟨w8.heap.size,0,none⟩ = some (.slice AW0 y0.length cW0) ∧ w'.cell? ⟨w8.heap.size,1,none⟩ = some (.slice AW1 y1.length cW1) ∧ w'.cell? ⟨g,3,none⟩ = some (.slice (some ad) s3.length c3) ∧ w'.cell? ⟨g,4,none⟩ = some (.slice A4 s4.length c4)) (ds:=[17,20,23]) (Array.replicate 24 false) (by kernel_rfl) rfl rfl ⟨(qh (bx_ BK9).out 0).trans rfl,(qh (bx_ BK9).out 1).trans rfl,(qh (StP.blk (by repeat (first|(with_reducible first|exact HV.out|apply StP.alloc|apply StP.drewN|apply StP.drew)|exact HV.out))) 3).trans rfl,(qh (StP.blk (by repeat (first|(with_reducible first|exact HV.out|apply StP.alloc|apply StP.drewN|apply StP.drew)|exact HV.out))) 4).trans rfl⟩ (fun hHeld=>?_)
   refine pa_ 0 79 (bz_ 24 1) ?_
   refine pa_ 1 80 (bz_ 24 3) ?_
   refine pa_ 2 81 (bz_ 24 7) ?_
   refine pa_ 4 83 (bz_ 24 23) ?_
   refine pa_ 5 84 (bz_ 24 55) ?_
   refine pa_ 6 85 (bz_ 24 119) ?_
   refine pa_ 9 88 (bz_ 24 631) ?_
   refine pa_ 10 89 (bz_ 24 1655) ?_
   refine pa_ 11 90 (bz_ 24 3703) ?_
   refine pa_ 13 92 (bz_ 24 11895) ?_
   refine ta_ 3 82 (bz_ 24 11903) hHeld (hy:=Or.inl ⟨by rfl,by rintro w' ⟨s0,s1,s2,s3⟩;go_simp;with_reducible rfl⟩) (h:=?_)
   refine ta_ 7 86 (bz_ 24 12031) hHeld (hy:=Or.inl ⟨by rfl,by rintro w' ⟨s0,s1,s2,s3⟩;go_simp;with_reducible rfl⟩) (h:=?_)
   refine pa_ 8 87 (bz_ 24 12287) ?_
   refine ta_ 12 91 (bz_ 24 16383) hHeld (hy:=Or.inl ⟨by rfl,by rintro w' ⟨s0,s1,s2,s3⟩;go_simp;with_reducible rfl⟩) (h:=?_)
   refine one_ (i:=14) (N:=some 93) (bz_ 24 32767) rfl rfl (by kernel_rfl) (by decide) (fun K hK=>?_)
   refine goes_ Try.func73 (by kernel_rfl) rfl #[.slice A4 s4.length c4,.int .i64 (rd s3 0)] (by rfl) rfl rfl (by simp only [List.map_toArray,List.map_cons,List.map_nil];rfl) ?_
   with_reducible refine (impl_with.calls _ _ s4 (rd s3 0) _ ?side1 ?side2 HU.out).mono ?_
   (case side1=>exact StP.c4 (by repeat (first|(with_reducible first|exact HV.out|apply StP.alloc|apply StP.drewN|apply StP.drew)|exact HV.out)))
   (case side2=>exact (Kd.R_reads' HV.out.r4).2.1)
   rintro e w10 ⟨v10,rfl,ho,hb⟩
   refine ⟨_,rfl,?_⟩
   have HO:=qo.mk (RetW.own ho hb (StP.r4 (by repeat (first|(with_reducible first|exact HV.out|apply StP.alloc|apply StP.drewN|apply StP.drew)|exact HV.out))) (qk (by repeat (first|(with_reducible first|exact HB.out|apply qf|apply qa|apply qd|apply below_drew|refine qg ?_ GEG.out)|exact HB.out))))
   have BKa:=qo.mk (qm (g:=w8.heap.size) (bx_ BK9).out hb)
   have HWa0:=qo.mk (Kd.R_below (by (with_reducible repeat (first|apply Kd.R_alloc|apply Kd.R_drewN|apply Kd.R_drew));exact HW0.out) hb)
   have HWa1:=qo.mk (Kd.R_below (by (with_reducible repeat (first|apply Kd.R_alloc|apply Kd.R_drewN|apply Kd.R_drew));exact HW1.out) hb)
   replace HV:=qo.mk (StP.below (by repeat (first|(with_reducible first|exact HV.out|apply StP.alloc|apply StP.drewN|apply StP.drew)|exact HV.out)) hb);replace HB:=qo.mk (qn (by repeat (first|(with_reducible first|exact HB.out|apply qf|apply qa|apply qd|apply below_drew|refine qg ?_ GEG.out)|exact HB.out)) hb);replace HK:=qo.mk (keep_step (keep_drew (keep_alloc HK.out _)) hb)
   have hczw10_0 : World.cell? _ ⟨g,0,none⟩ = some (.slice A0 s0.length c0):=(qh HV.out.blk 0).trans rfl
   have hczw10_1 : World.cell? _ ⟨g,1,none⟩ = some (.slice A1 s1.length c1):=(qh HV.out.blk 1).trans rfl
   have hczw10_2 : World.cell? _ ⟨g,2,none⟩ = some (.slice A2 s2.length c2):=(qh HV.out.blk 2).trans rfl
   have hczw10_3 : World.cell? _ ⟨g,3,none⟩ = some (.slice (some ad) s3.length c3):=(qh HV.out.blk 3).trans rfl
   have hczw10_4 : World.cell? _ ⟨g,4,none⟩ = some (.slice A4 s4.length c4):=(qh HV.out.blk 4).trans rfl
   have hfzw10_0:=qj HV.out.blk 0
   have hfzw10_1:=qj HV.out.blk 1
   have hfzw10_2:=qj HV.out.blk 2
   have hfzw10_3:=qj HV.out.blk 3
   have hfzw10_4:=qj HV.out.blk 4
   clear ho
   obtain ⟨Ao,co_,eo⟩:=Kd.R_slice HO.out
   subst eo
   refine hK.out _ _ ⟨(qh BKa.out 0).trans rfl,(qh BKa.out 1).trans rfl,(qh HV.out.blk 3).trans rfl,(qh HV.out.blk 4).trans rfl⟩ (fun hHeld=>?_)
   clear hK K
   refine norm_ (a':=?_) ?_ ?_
   rotate_left
   ·show Act.put _ (some 93) _ = _
    simp only [Act.put,List.setIfInBounds_toArray,List.set_cons_zero,List.set_cons_succ,i64_w,i32_w]
    rfl
   refine pa_ 15 94 (bz_ 24 65535) ?_
   refine pa_ 16 95 (bz_ 24 131071) ?_
   refine last_ (i:=17) (N:=none) (bz_ 24 262143) rfl rfl (by kernel_rfl) (by decide) (fun K hK=>?_)
   refine skip_ (w1:=?_) (by rfl) rfl ?_ ?_
   rotate_left
   ·go_simp
    rfl
   refine hK.out _ _ ?_
   clear hK K
   refine pa_ 18 96 (bz_ 24 524287) ?_
   refine pa_ 19 97 (bz_ 24 1048575) ?_
   refine last_ (i:=20) (N:=none) (bz_ 24 2097151) rfl rfl (by kernel_rfl) (by decide) (fun K hK=>?_)
   refine skip_ (w1:=?_) (by rfl) rfl ?_ ?_
   rotate_left
   ·go_simp
    rfl
   refine hK.out _ _ ?_
   clear hK K
   refine pa_ 21 98 (bz_ 24 4194303) ?_
   refine pa_ 22 99 (bz_ 24 8388607) ?_
   refine last_ (i:=23) (N:=none) (bz_ 24 16777215) rfl rfl (by kernel_rfl) (by decide) (fun K hK=>?_)
   refine skip_ (w1:=?_) (by rfl) rfl ?_ ?_
   rotate_left
   ·go_simp
    rfl
   refine hK.out _ _ ?_
   clear hK K
   refine done_ (by kernel_rfl) ?_
   go_wp2
   go_ret
   exact ⟨rfl,⟨_,_,_,_,_,_,_,by rw [show s3.tail = F1 from by rw [HF1.out,List.drop_one]];exact StP.put HV.out HWa0.out HWa1.out HC3.out HL3.out HO.out⟩,qg (qg (qg (qg HB.out GEG.out) GEG.out) GEG.out) GEG.out,KeepBut.set_ (KeepBut.set_ (KeepBut.set_ (KeepBut.set_ HK.out _ _) _ _) _ _) _ _⟩
  obtain rfl : ok = false:=by simpa using co
  simp only [if_true,Option.some.injEq,Prod.mk.injEq] at h
  obtain ⟨rfl,rfl,rfl,rfl,rfl⟩:=h
  go_enter Try.func45,Try.ntmps45
  go_wp2_with (first|((with_reducible refine gate_dst (N:=3) rfl ?_);refine box_event ?hg (N:=3) ?hd (cs:=#[.int .i64 kd,.slice Ai it.length ci]) (t:=76) ?hr ?_;(case hd=>rfl);(case hg=>rfl);(case hr=>first|(go_simp;done)|(go_simp;rfl));intro gb3 hg w3 hbox hb;replace HV:=qo.mk (StP.below (by repeat (first|(with_reducible first|exact HV.out|apply StP.alloc|apply StP.drewN|apply StP.drew)|exact HV.out)) hb);replace HK:=qo.mk (keep_step (by repeat (first|(with_reducible first|exact HK.out|refine keep_alloc ?_ _|refine keep_drewN ?_ _|apply keep_drew|refine keep_step ?_ (below_drew (Below.refl _ _)))|exact HK.out)) hb);replace HB:=qo.mk (qn (by repeat (first|(with_reducible first|exact HB.out|apply qf|apply qa|apply qd|apply below_drew|refine qg ?_ GEG.out)|exact HB.out)) hb);have hczw3_0 : World.cell? _ ⟨g,0,none⟩ = some (.slice A0 s0.length c0):=(qh HV.out.blk 0).trans rfl;have hczw3_1 : World.cell? _ ⟨g,1,none⟩ = some (.slice A1 s1.length c1):=(qh HV.out.blk 1).trans rfl;have hczw3_2 : World.cell? _ ⟨g,2,none⟩ = some (.slice A2 s2.length c2):=(qh HV.out.blk 2).trans rfl;have hczw3_3 : World.cell? _ ⟨g,3,none⟩ = some (.slice A3 s3.length c3):=(qh HV.out.blk 3).trans rfl;have hczw3_4 : World.cell? _ ⟨g,4,none⟩ = some (.slice A4 s4.length c4):=(qh HV.out.blk 4).trans rfl;have hfzw3_0:=qj HV.out.blk 0;have hfzw3_1:=qj HV.out.blk 1;have hfzw3_2:=qj HV.out.blk 2;have hfzw3_3:=qj HV.out.blk 3;have hfzw3_4:=qj HV.out.blk 4;have BK3:=qo.mk hbox;clear hg;obtain ⟨hczb_0,hczb_1,hfzb_0,hfzb_1⟩:=c2f_ BK3.out)|((with_reducible refine gate_callee (f:=71) rfl ?_);refine goesL_ (some 13) rfl rfl Try.func71 (by kernel_rfl) rfl #[.agg #[.int .i64 kd,.slice Ai it.length ci]] rfl sm_ ?_;(with_reducible refine (impl_PageText.calls kp _ _ _ it t _ _ ?side1 ?side2 hP).mono ?_);(case side1=>exact HR2.out _ (by repeat (first|(with_reducible first|exact HK.out|refine keep_alloc ?_ _|refine keep_drewN ?_ _|apply keep_drew|refine keep_step ?_ (below_drew (Below.refl _ _)))|exact HK.out)));(case side2=>exact HC2.out);rintro e w4 ⟨rfl,hb⟩;refine ⟨_,rfl,?_⟩;replace HV:=qo.mk (StP.below (by repeat (first|(with_reducible first|exact HV.out|apply StP.alloc|apply StP.drewN|apply StP.drew)|exact HV.out)) hb);replace HK:=qo.mk (keep_step (by repeat (first|(with_reducible first|exact HK.out|refine keep_alloc ?_ _|refine keep_drewN ?_ _|apply keep_drew|refine keep_step ?_ (below_drew (Below.refl _ _)))|exact HK.out)) hb);replace HB:=qo.mk (qn (by repeat (first|(with_reducible first|exact HB.out|apply qf|apply qa|apply qd|apply below_drew|refine qg ?_ GEG.out)|exact HB.out)) hb);have hczw4_0 : World.cell? _ ⟨g,0,none⟩ = some (.slice A0 s0.length c0):=(qh HV.out.blk 0).trans rfl;have hczw4_1 : World.cell? _ ⟨g,1,none⟩ = some (.slice A1 s1.length c1):=(qh HV.out.blk 1).trans rfl;have hczw4_2 : World.cell? _ ⟨g,2,none⟩ = some (.slice A2 s2.length c2):=(qh HV.out.blk 2).trans rfl;have hczw4_3 : World.cell? _ ⟨g,3,none⟩ = some (.slice A3 s3.length c3):=(qh HV.out.blk 3).trans rfl;have hczw4_4 : World.cell? _ ⟨g,4,none⟩ = some (.slice A4 s4.length c4):=(qh HV.out.blk 4).trans rfl;have hfzw4_0:=qj HV.out.blk 0;have hfzw4_1:=qj HV.out.blk 1;have hfzw4_2:=qj HV.out.blk 2;have hfzw4_3:=qj HV.out.blk 3;have hfzw4_4:=qj HV.out.blk 4))
  go_ret
  exact ⟨rfl,⟨_,_,_,_,_,_,_,(by repeat (first|(with_reducible first|exact HV.out|apply StP.alloc|apply StP.drewN|apply StP.drew)|exact HV.out))⟩,(by repeat (first|(with_reducible first|exact HB.out|apply qf|apply qa|apply qd|apply below_drew|refine qg ?_ GEG.out)|exact HB.out)),(by repeat (first|(with_reducible first|exact HK.out|refine keep_alloc ?_ _|refine keep_drewN ?_ _|apply keep_drew|refine keep_step ?_ (below_drew (Below.refl _ _)))|exact HK.out))⟩
 rw [if_neg cu] at h
 cases h
end Go.Proofs.Ytcnoccefdejphaa.QFnTrees
