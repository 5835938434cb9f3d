/- The reference's l05Place: what it puts on the device that it builds, walked by hand: the builder is a struct behind a pointer whose slices are its own rows. -/
import Derived.Test.YtcnoccefdejphaaZFnExactPlaceTreex6
import Derived.Test.YtcnoccefdejphaaZFnExactPlaceTreex20
namespace Go.Proofs.Ytcnoccefdejphaa.QFnExactPlaceTree
open Go.RowKit Go.Proofs.YtcnoccefdejphaaW.PrintWords Go.Proofs.YtcnoccefdejphaaW.PrintLast Go.Proofs.YtcnoccefdejphaaW.PrintMore
attribute [local go_sem] max2_int min2_int max_two min_two max_three min_three max_four min_four
set_option linter.unusedVariables false
set_option linter.unusedSimpArgs false
/-- The first sector from i on that isn't free and reads as the text. -/
noncomputable def spec_l05Place.find (S : List ByteArray) (P : List (S96)) (free : List Int) (t : ByteArray) : Nat → Nat → Option (Option Nat)
 | 0,_=>some none
 | d + 1,i=>(lim fun k=>spec_l03In.f k free (i : Int)).bind fun b=>if b = true then spec_l05Place.find S P free t d (i + 1) else (lim fun k=>spec_l03Read.f k S P (i : Int)).bind fun x=>if x.toList = t.toList then some (some i) else spec_l05Place.find S P free t d (i + 1)
noncomputable def spec_l05Place.f (S : List ByteArray) (P : List (S96)) (F U : List Int) (bad : Bool) (free : List Int) (kind : Int) (items : List (S71)) : Option (Int × List (S96) × List Int × List Int × Bool) :=
 (lim fun k=>spec_PageText.f k kind items).bind fun t=>if bad = true ∨ t.2 = false then some (0,P,F,U,true) else
  (spec_l05Place.find S P free t.1 S.length 0).bind fun o=>match o with
   | some i=>(lim fun k=>spec_l05With.f k U (i : Int)).bind fun U'=>some ((i : Int),P,F,U',false)
   | none=>if F.length = 0 ∨ P.length = 400 then some (0,P,F,U,true) else if P.length < 400 then (lim fun k=>spec_l05With.f k U (rd F 0)).bind fun U'=>some (rd F 0,P ++ [(⟨rd F 0,t.1⟩ : S96)],F.drop 1,U',false) else none
set_option maxHeartbeats 8000000 in
set_option maxRecDepth 100000 in
theorem spec_l05Place.calls (g : Nat) (s0_0 : List ByteArray) (s0_1 : List (S96)) (s0_2 : List Int) (s0_3 : List Int) (bb : Bool) (A1 : Option Addr) (c1 : Nat) (l1 : List Int) (a2_0 : Int) (A2_1 : Option Addr) (c2_1 : Nat) (l2_1 : List (S71)) (r1 : Int) (rP : List (S96)) (rF : List Int) (rU : List Int) (r2 : Bool) (w0 w : World) (hI : IsS67 w0 w g s0_0 s0_1 s0_2 s0_3 bb) (hB : Below w0.heap.size w0 w) (hr1 : Kd.C (Kd.int .i64) w0 A1 l1.length l1) (hc1 : l1.length ≤ c1) (hr2_1 : ∀ W_,KeepBut w W_ g none → Kd.C k71 W_ A2_1 l2_1.length l2_1) (hc2_1 : l2_1.length ≤ c2_1) (h : spec_l05Place.f s0_0 s0_1 s0_2 s0_3 bb l1 a2_0 l2_1 = some (r1,rP,rF,rU,r2)) :
  Calls Try.prog 36 #[.pointer (some ⟨g,0,none⟩),.slice A1 l1.length c1,.agg #[.int .i64 a2_0,.slice A2_1 l2_1.length c2_1]] w fun e w'=>e = .returned (.int .i64 r1) ∧ IsS67 w0 w' g s0_0 rP rF rU r2 ∧ Below w0.heap.size w0 w' ∧ Kp w w' g:=by
 have hu32:=Try.underlying32
 have hu67:=Try.underlying67
 have hu76:=Try.underlying76
 have hu96:=Try.underlying96
 obtain ⟨v0,v1,v2,v3,hV⟩:=hI
 obtain ⟨A0,c0,e0⟩:=Kd.R_slice hV.r0
 subst e0
 obtain ⟨A1v,c1v,e1⟩:=Kd.R_slice hV.r1
 subst e1
 obtain ⟨A2v,c2v,e2,hc2v⟩:=Kd.Q_slice hV.r2
 subst e2
 obtain ⟨A3v,c3v,e3⟩:=Kd.R_slice hV.r3
 subst e3
 have H1:=qo.mk hV.r1
 have hlen:=row_len hV.r0
 have GEG:=qo.mk hV.ge
 have HV:=qo.mk hV
 have HB:=qo.mk hB
 have HK:=qo.mk (KeepBut.refl w g none)
 have HR1:=qo.mk hr1
 have HC1:=qo.mk hc1
 have HR2:=qo.mk hr2_1
 have HC2:=qo.mk hc2_1
 clear hV hB hr1 hc1 hr2_1 hc2_1
 unfold spec_l05Place.f at h
 replace h:=Option.bind_eq_some_iff.mp h
 obtain ⟨⟨t,ok⟩,hP,h⟩:=h
 obtain ⟨kp,hP⟩:=(lim_ev hP).rounds
 by_cases cb : bb = true
 ·subst cb
  simp only [true_or,if_true,Option.some.injEq,Prod.mk.injEq] at h
  obtain ⟨rfl,rfl,rfl,rfl,rfl⟩:=h
  go_enter Try.func36,Try.ntmps36
  go_wp2_with (first|((with_reducible refine gate_dst (N:=5) rfl ?_);refine box_event ?hg (N:=5) ?hd (cs:=#[.int .i64 a2_0,.slice A2_1 l2_1.length c2_1]) (t:=76) ?hr ?_;(case hd=>rfl);(case hg=>rfl);(case hr=>first|(go_simp;done)|(go_simp;rfl));intro gb5 hg w5 hbox hb;replace HV:=qo.mk (StV.below (by repeat (first|(with_reducible first|exact HV.out|apply StV.alloc|apply StV.drewN|apply StV.drew)|exact HV.out)) hb);replace HK:=qo.mk (keep_step (by repeat (first|(with_reducible first|exact HK.out|refine keep_alloc ?_ _|refine keep_drewN ?_ _)|exact HK.out)) hb);replace HB:=hs_ HB hb;have hczw5_0 : World.cell? _ ⟨g,0,none⟩ = some (.slice A0 s0_0.length c0):=(qh HV.out.blk 0).trans rfl;have hczw5_1 : World.cell? _ ⟨g,1,none⟩ = some (.slice A1v s0_1.length c1v):=(qh HV.out.blk 1).trans rfl;have hczw5_2 : World.cell? _ ⟨g,2,none⟩ = some (.slice A2v s0_2.length c2v):=(qh HV.out.blk 2).trans rfl;have hczw5_3 : World.cell? _ ⟨g,3,none⟩ = some (.slice A3v s0_3.length c3v):=(qh HV.out.blk 3).trans rfl;have hczw5_4 : World.cell? _ ⟨g,4,none⟩ = some (.bool true):=(qh HV.out.blk 4).trans rfl;have hfzw5_0:=qj HV.out.blk 0;have hfzw5_1:=qj HV.out.blk 1;have hfzw5_2:=qj HV.out.blk 2;have hfzw5_3:=qj HV.out.blk 3;have hfzw5_4:=qj HV.out.blk 4;have BK5:=qo.mk hbox;clear hg;obtain ⟨hczb_0,hczb_1,hfzb_0,hfzb_1⟩:=c2f_ BK5.out)|((with_reducible refine gate_callee (f:=64) rfl ?_);refine goesL_ (some 13) rfl rfl Try.func64 (by kernel_rfl) rfl #[.agg #[.int .i64 a2_0,.slice A2_1 l2_1.length c2_1]] rfl sm_ ?_;(with_reducible refine (spec_PageText.calls kp _ _ _ l2_1 t _ _ ?side1 ?side2 hP).mono ?_);(case side1=>exact HR2.out _ (by repeat (first|(with_reducible first|exact HK.out|refine keep_alloc ?_ _|refine keep_drewN ?_ _)|exact HK.out)));(case side2=>exact HC2.out);rintro e w6 ⟨rfl,hb⟩;refine ⟨_,rfl,?_⟩;replace HV:=qo.mk (StV.below (by repeat (first|(with_reducible first|exact HV.out|apply StV.alloc|apply StV.drewN|apply StV.drew)|exact HV.out)) hb);replace HK:=qo.mk (keep_step (by repeat (first|(with_reducible first|exact HK.out|refine keep_alloc ?_ _|refine keep_drewN ?_ _)|exact HK.out)) hb);replace HB:=hs_ HB hb;have hczw6_0 : World.cell? _ ⟨g,0,none⟩ = some (.slice A0 s0_0.length c0):=(qh HV.out.blk 0).trans rfl;have hczw6_1 : World.cell? _ ⟨g,1,none⟩ = some (.slice A1v s0_1.length c1v):=(qh HV.out.blk 1).trans rfl;have hczw6_2 : World.cell? _ ⟨g,2,none⟩ = some (.slice A2v s0_2.length c2v):=(qh HV.out.blk 2).trans rfl;have hczw6_3 : World.cell? _ ⟨g,3,none⟩ = some (.slice A3v s0_3.length c3v):=(qh HV.out.blk 3).trans rfl;have hczw6_4 : World.cell? _ ⟨g,4,none⟩ = some (.bool true):=(qh HV.out.blk 4).trans rfl;have hfzw6_0:=qj HV.out.blk 0;have hfzw6_1:=qj HV.out.blk 1;have hfzw6_2:=qj HV.out.blk 2;have hfzw6_3:=qj HV.out.blk 3;have hfzw6_4:=qj HV.out.blk 4))
  go_ret
  exact ⟨rfl,⟨_,_,_,_,StV.set4 (by repeat (first|(with_reducible first|exact HV.out|apply StV.alloc|apply StV.drewN|apply StV.drew)|exact HV.out)) true⟩,qg hx_ GEG.out,(Kp.of_keep (by repeat (first|(with_reducible first|exact HK.out|refine keep_alloc ?_ _|refine keep_drewN ?_ _)|exact HK.out))).set _ _⟩
 obtain rfl : bb = false:=by simpa using cb
 clear cb
 by_cases co : ok = true
 ·subst co
  simp only [Bool.false_eq_true,false_or,if_false] at h
  replace h:=Option.bind_eq_some_iff.mp h
  obtain ⟨o,hF,h⟩:=h
  have hF':=qo.mk hF
  have h':=qo.mk h
  clear hF h
  go_enter Try.func36,Try.ntmps36
  go_wp2_with (first|((with_reducible refine gate_dst (N:=5) rfl ?_);refine box_event ?hg (N:=5) ?hd (cs:=#[.int .i64 a2_0,.slice A2_1 l2_1.length c2_1]) (t:=76) ?hr ?_;(case hd=>rfl);(case hg=>rfl);(case hr=>first|(go_simp;done)|(go_simp;rfl));intro gb5 hg w5 hbox hb;replace HV:=qo.mk (StV.below (by repeat (first|(with_reducible first|exact HV.out|apply StV.alloc|apply StV.drewN|apply StV.drew)|exact HV.out)) hb);replace HK:=qo.mk (keep_step (by repeat (first|(with_reducible first|exact HK.out|refine keep_alloc ?_ _|refine keep_drewN ?_ _)|exact HK.out)) hb);replace HB:=hs_ HB hb;have hczw5_0 : World.cell? _ ⟨g,0,none⟩ = some (.slice A0 s0_0.length c0):=(qh HV.out.blk 0).trans rfl;have hczw5_1 : World.cell? _ ⟨g,1,none⟩ = some (.slice A1v s0_1.length c1v):=(qh HV.out.blk 1).trans rfl;have hczw5_2 : World.cell? _ ⟨g,2,none⟩ = some (.slice A2v s0_2.length c2v):=(qh HV.out.blk 2).trans rfl;have hczw5_3 : World.cell? _ ⟨g,3,none⟩ = some (.slice A3v s0_3.length c3v):=(qh HV.out.blk 3).trans rfl;have hczw5_4 : World.cell? _ ⟨g,4,none⟩ = some (.bool false):=(qh HV.out.blk 4).trans rfl;have hfzw5_0:=qj HV.out.blk 0;have hfzw5_1:=qj HV.out.blk 1;have hfzw5_2:=qj HV.out.blk 2;have hfzw5_3:=qj HV.out.blk 3;have hfzw5_4:=qj HV.out.blk 4;have BK5:=qo.mk hbox;clear hg;obtain ⟨hczb_0,hczb_1,hfzb_0,hfzb_1⟩:=c2f_ BK5.out)|((with_reducible refine gate_callee (f:=64) rfl ?_);refine goesL_ (some 13) rfl rfl Try.func64 (by kernel_rfl) rfl #[.agg #[.int .i64 a2_0,.slice A2_1 l2_1.length c2_1]] rfl sm_ ?_;(with_reducible refine (spec_PageText.calls kp _ _ _ l2_1 t _ _ ?side1 ?side2 hP).mono ?_);(case side1=>exact HR2.out _ (by repeat (first|(with_reducible first|exact HK.out|refine keep_alloc ?_ _|refine keep_drewN ?_ _)|exact HK.out)));(case side2=>exact HC2.out);rintro e w6 ⟨rfl,hb⟩;refine ⟨_,rfl,?_⟩;replace HV:=qo.mk (StV.below (by repeat (first|(with_reducible first|exact HV.out|apply StV.alloc|apply StV.drewN|apply StV.drew)|exact HV.out)) hb);replace HK:=qo.mk (keep_step (by repeat (first|(with_reducible first|exact HK.out|refine keep_alloc ?_ _|refine keep_drewN ?_ _)|exact HK.out)) hb);replace HB:=hs_ HB hb;have hczw6_0 : World.cell? _ ⟨g,0,none⟩ = some (.slice A0 s0_0.length c0):=(qh HV.out.blk 0).trans rfl;have hczw6_1 : World.cell? _ ⟨g,1,none⟩ = some (.slice A1v s0_1.length c1v):=(qh HV.out.blk 1).trans rfl;have hczw6_2 : World.cell? _ ⟨g,2,none⟩ = some (.slice A2v s0_2.length c2v):=(qh HV.out.blk 2).trans rfl;have hczw6_3 : World.cell? _ ⟨g,3,none⟩ = some (.slice A3v s0_3.length c3v):=(qh HV.out.blk 3).trans rfl;have hczw6_4 : World.cell? _ ⟨g,4,none⟩ = some (.bool false):=(qh HV.out.blk 4).trans rfl;have hfzw6_0:=qj HV.out.blk 0;have hfzw6_1:=qj HV.out.blk 1;have hfzw6_2:=qj HV.out.blk 2;have hfzw6_3:=qj HV.out.blk 3;have hfzw6_4:=qj HV.out.blk 4))
  go_loopg [9] (s0_0.length + 1) (fun kq v9 w'=>∃ i : Nat,v9 = .int .i64 (i : Int) ∧ qo (i + kq = s0_0.length + 1 ∧ i ≤ s0_0.length) ∧ qo (spec_l05Place.find s0_0 s0_1 l1 t (kq - 1) i = some o) ∧ qo (Below w0.heap.size w0 w') ∧ qo (StV w0 w' g (.slice A0 s0_0.length c0) (.slice A1v s0_1.length c1v) (.slice A2v s0_2.length c2v) (.slice A3v s0_3.length c3v) s0_0 s0_1 s0_2 s0_3 false) ∧ qo (KeepBut w w' g none))
  case atStart=>exact ⟨0,rfl,⟨by omega,Nat.zero_le _⟩,hF',⟨hx_⟩,⟨(by repeat (first|(with_reducible first|exact HV.out|apply StV.alloc|apply StV.drewN|apply StV.drew)|exact HV.out))⟩,⟨(by repeat (first|(with_reducible first|exact HK.out|refine keep_alloc ?_ _|refine keep_drewN ?_ _)|exact HK.out))⟩⟩
  clear hF'
  obtain ⟨i,rfl,HI,HF,HB,HV,HK⟩:=hrel
  cases gk with
  | zero =>
   exfalso
   have h1:=HI.out
   omega
  | succ k1 =>
   have hi1:=HI.out
   have hf:=HF.out
   clear HI HF
   rw [Nat.add_sub_cancel] at hf
   have hu:=h'.out
   have hczwL_0 : World.cell? _ ⟨g,0,none⟩ = some (.slice A0 s0_0.length c0):=(qh HV.out.blk 0).trans rfl;have hczwL_1 : World.cell? _ ⟨g,1,none⟩ = some (.slice A1v s0_1.length c1v):=(qh HV.out.blk 1).trans rfl;have hczwL_2 : World.cell? _ ⟨g,2,none⟩ = some (.slice A2v s0_2.length c2v):=(qh HV.out.blk 2).trans rfl;have hczwL_3 : World.cell? _ ⟨g,3,none⟩ = some (.slice A3v s0_3.length c3v):=(qh HV.out.blk 3).trans rfl;have hczwL_4 : World.cell? _ ⟨g,4,none⟩ = some (.bool false):=(qh HV.out.blk 4).trans rfl;have hfzwL_0:=qj HV.out.blk 0;have hfzwL_1:=qj HV.out.blk 1;have hfzwL_2:=qj HV.out.blk 2;have hfzwL_3:=qj HV.out.blk 3;have hfzwL_4:=qj HV.out.blk 4
   by_cases ci : i < s0_0.length
   ·obtain ⟨d,rfl⟩ : ∃ d,k1 = d + 1:=⟨k1 - 1,by omega⟩
    have c0b0 : decide ((i : Int) < (s0_0.length : Int)) = true:=decide_eq_true (by omega)
    unfold spec_l05Place.find at hf
    replace hf:=Option.bind_eq_some_iff.mp hf
    obtain ⟨b,hin,hf⟩:=hf
    obtain ⟨kin,hin⟩:=(lim_ev hin).rounds
    by_cases cb : b = true
    ·subst cb
     simp only [if_true] at hf
     go_wp2_with (first|((with_reducible refine gate_callee (f:=65) rfl ?_);refine goesL_ (some 39) rfl rfl Try.func65 (by kernel_rfl) rfl #[.slice A1 l1.length c1,.int .i64 (i : Int)] rfl sm_ ?_;(with_reducible refine (spec_l03In.calls kin _ _ l1 (i : Int) true _ ?side1 ?side2 hin).mono ?_);(case side1=>repeat (first|exact Kd.C_below HR1.out HB.out|(with_reducible refine Kd.C_alloc ?_ _)|(with_reducible refine Kd.C_drewN ?_ _)|(with_reducible refine Kd.C_drew ?_)));(case side2=>exact HC1.out);rintro e w8 ⟨rfl,⟨nd8,rfl⟩⟩;refine ⟨_,rfl,?_⟩))
     go_roundg (d + 1)
     case measure=>omega
     case rel=>exact ⟨i + 1,by first|rfl|(simp;done)|(rw [show wrap64 ((i : Int) + 1) = ((i + 1 : Nat) : Int) from by unfold wrap64;omega]),⟨by omega,by omega⟩,⟨hf⟩,⟨hx_⟩,⟨(by repeat (first|(with_reducible first|exact HV.out|apply StV.alloc|apply StV.drewN|apply StV.drew)|exact HV.out))⟩,⟨(by repeat (first|(with_reducible first|exact HK.out|refine keep_alloc ?_ _|refine keep_drewN ?_ _)|exact HK.out))⟩⟩
    obtain rfl : b = false:=by simpa using cb
    simp only [Bool.false_eq_true,if_false] at hf
    replace hf:=Option.bind_eq_some_iff.mp hf
    obtain ⟨rd0,hrd,hf⟩:=hf
    obtain ⟨krd,hrd⟩:=(lim_ev hrd).rounds
    by_cases ct : rd0.toList = t.toList
    ·rw [if_pos ct] at hf
     obtain rfl:=Option.some.inj hf
     have ctb : (rd0.toList == t.toList) = true:=beq_iff_eq.2 ct
     clear ct
     simp only at hu
     replace hu:=Option.bind_eq_some_iff.mp hu
     obtain ⟨U1,hw,hu⟩:=hu
     obtain ⟨kw,hw⟩:=(lim_ev hw).rounds
     simp only [Option.some.injEq,Prod.mk.injEq] at hu
     obtain ⟨rfl,rfl,rfl,rfl,rfl⟩:=hu
     go_wp2_with (first|((with_reducible refine gate_callee (f:=65) rfl ?_);refine goesL_ (some 39) rfl rfl Try.func65 (by kernel_rfl) rfl #[.slice A1 l1.length c1,.int .i64 (i : Int)] rfl sm_ ?_;(with_reducible refine (spec_l03In.calls kin _ _ l1 (i : Int) false _ ?side1 ?side2 hin).mono ?_);(case side1=>repeat (first|exact Kd.C_below HR1.out HB.out|(with_reducible refine Kd.C_alloc ?_ _)|(with_reducible refine Kd.C_drewN ?_ _)|(with_reducible refine Kd.C_drew ?_)));(case side2=>exact HC1.out);rintro e w8 ⟨rfl,⟨nd8,rfl⟩⟩;refine ⟨_,rfl,?_⟩)|(go_at_call 66;(with_reducible refine (spec_l03Read.calls krd _ _ s0_0 _ _ s0_1 (i : Int) rd0 _ ?side1 ?side2 ?side3 ?side4 hrd).mono ?_);(case side1=>exact StV.c0 (by repeat (first|(with_reducible first|exact HV.out|apply StV.alloc|apply StV.drewN|apply StV.drew)|exact HV.out)));(case side2=>exact (Kd.R_reads' HV.out.r0).2.1);(case side3=>exact StV.c1 (by repeat (first|(with_reducible first|exact HV.out|apply StV.alloc|apply StV.drewN|apply StV.drew)|exact HV.out)));(case side4=>exact (Kd.R_reads' HV.out.r1).2.1);rintro e w9 ⟨rfl,hb⟩;replace HV:=qo.mk (StV.below (by repeat (first|(with_reducible first|exact HV.out|apply StV.alloc|apply StV.drewN|apply StV.drew)|exact HV.out)) hb);replace HK:=qo.mk (keep_step (by repeat (first|(with_reducible first|exact HK.out|refine keep_alloc ?_ _|refine keep_drewN ?_ _)|exact HK.out)) hb);replace HB:=hs_ HB hb;have hczw9_0 : World.cell? _ ⟨g,0,none⟩ = some (.slice A0 s0_0.length c0):=(qh HV.out.blk 0).trans rfl;have hczw9_1 : World.cell? _ ⟨g,1,none⟩ = some (.slice A1v s0_1.length c1v):=(qh HV.out.blk 1).trans rfl;have hczw9_2 : World.cell? _ ⟨g,2,none⟩ = some (.slice A2v s0_2.length c2v):=(qh HV.out.blk 2).trans rfl;have hczw9_3 : World.cell? _ ⟨g,3,none⟩ = some (.slice A3v s0_3.length c3v):=(qh HV.out.blk 3).trans rfl;have hczw9_4 : World.cell? _ ⟨g,4,none⟩ = some (.bool false):=(qh HV.out.blk 4).trans rfl;have hfzw9_0:=qj HV.out.blk 0;have hfzw9_1:=qj HV.out.blk 1;have hfzw9_2:=qj HV.out.blk 2;have hfzw9_3:=qj HV.out.blk 3;have hfzw9_4:=qj HV.out.blk 4)|((with_reducible refine gate_callee (f:=67) rfl ?_);refine goesL_ (some 57) rfl rfl Try.func67 (by kernel_rfl) rfl #[.slice A3v s0_3.length c3v,.int .i64 (i : Int)] rfl sm_ ?_;(with_reducible refine (spec_l05With.calls kw _ _ s0_3 (i : Int) U1 _ ?side1 ?side2 hw).mono ?_);(case side1=>exact StV.c3 (by repeat (first|(with_reducible first|exact HV.out|apply StV.alloc|apply StV.drewN|apply StV.drew)|exact HV.out)));(case side2=>exact (Kd.R_reads' HV.out.r3).2.1);rintro e w10 ⟨vw10,rfl,ho,hb⟩;refine ⟨_,rfl,?_⟩;have HO:=qo.mk (Kd.R_lower ho (qk hx_));replace HV:=qo.mk (StV.below (by repeat (first|(with_reducible first|exact HV.out|apply StV.alloc|apply StV.drewN|apply StV.drew)|exact HV.out)) hb);replace HK:=qo.mk (keep_step (by repeat (first|(with_reducible first|exact HK.out|refine keep_alloc ?_ _|refine keep_drewN ?_ _)|exact HK.out)) hb);replace HB:=hs_ HB hb;have hczw10_0 : World.cell? _ ⟨g,0,none⟩ = some (.slice A0 s0_0.length c0):=(qh HV.out.blk 0).trans rfl;have hczw10_1 : World.cell? _ ⟨g,1,none⟩ = some (.slice A1v s0_1.length c1v):=(qh HV.out.blk 1).trans rfl;have hczw10_2 : World.cell? _ ⟨g,2,none⟩ = some (.slice A2v s0_2.length c2v):=(qh HV.out.blk 2).trans rfl;have hczw10_3 : World.cell? _ ⟨g,3,none⟩ = some (.slice A3v s0_3.length c3v):=(qh HV.out.blk 3).trans rfl;have hczw10_4 : World.cell? _ ⟨g,4,none⟩ = some (.bool false):=(qh HV.out.blk 4).trans rfl;have hfzw10_0:=qj HV.out.blk 0;have hfzw10_1:=qj HV.out.blk 1;have hfzw10_2:=qj HV.out.blk 2;have hfzw10_3:=qj HV.out.blk 3;have hfzw10_4:=qj HV.out.blk 4;obtain ⟨Ao,co,eo⟩:=Kd.R_slice HO.out;subst eo))
     go_ret
     exact ⟨rfl,⟨_,_,_,_,StV.set3 (by repeat (first|(with_reducible first|exact HV.out|apply StV.alloc|apply StV.drewN|apply StV.drew)|exact HV.out)) HO.out⟩,qg hx_ GEG.out,(Kp.of_keep (by repeat (first|(with_reducible first|exact HK.out|refine keep_alloc ?_ _|refine keep_drewN ?_ _)|exact HK.out))).set _ _⟩
    rw [if_neg ct] at hf
    have ctb : (rd0.toList == t.toList) = false:=beq_eq_false_iff_ne.2 ct
    clear ct
    go_wp2_with (first|((with_reducible refine gate_callee (f:=65) rfl ?_);refine goesL_ (some 39) rfl rfl Try.func65 (by kernel_rfl) rfl #[.slice A1 l1.length c1,.int .i64 (i : Int)] rfl sm_ ?_;(with_reducible refine (spec_l03In.calls kin _ _ l1 (i : Int) false _ ?side1 ?side2 hin).mono ?_);(case side1=>repeat (first|exact Kd.C_below HR1.out HB.out|(with_reducible refine Kd.C_alloc ?_ _)|(with_reducible refine Kd.C_drewN ?_ _)|(with_reducible refine Kd.C_drew ?_)));(case side2=>exact HC1.out);rintro e w8 ⟨rfl,⟨nd8,rfl⟩⟩;refine ⟨_,rfl,?_⟩)|(go_at_call 66;(with_reducible refine (spec_l03Read.calls krd _ _ s0_0 _ _ s0_1 (i : Int) rd0 _ ?side1 ?side2 ?side3 ?side4 hrd).mono ?_);(case side1=>exact StV.c0 (by repeat (first|(with_reducible first|exact HV.out|apply StV.alloc|apply StV.drewN|apply StV.drew)|exact HV.out)));(case side2=>exact (Kd.R_reads' HV.out.r0).2.1);(case side3=>exact StV.c1 (by repeat (first|(with_reducible first|exact HV.out|apply StV.alloc|apply StV.drewN|apply StV.drew)|exact HV.out)));(case side4=>exact (Kd.R_reads' HV.out.r1).2.1);rintro e w9 ⟨rfl,hb⟩;replace HV:=qo.mk (StV.below (by repeat (first|(with_reducible first|exact HV.out|apply StV.alloc|apply StV.drewN|apply StV.drew)|exact HV.out)) hb);replace HK:=qo.mk (keep_step (by repeat (first|(with_reducible first|exact HK.out|refine keep_alloc ?_ _|refine keep_drewN ?_ _)|exact HK.out)) hb);replace HB:=hs_ HB hb;have hczw9_0 : World.cell? _ ⟨g,0,none⟩ = some (.slice A0 s0_0.length c0):=(qh HV.out.blk 0).trans rfl;have hczw9_1 : World.cell? _ ⟨g,1,none⟩ = some (.slice A1v s0_1.length c1v):=(qh HV.out.blk 1).trans rfl;have hczw9_2 : World.cell? _ ⟨g,2,none⟩ = some (.slice A2v s0_2.length c2v):=(qh HV.out.blk 2).trans rfl;have hczw9_3 : World.cell? _ ⟨g,3,none⟩ = some (.slice A3v s0_3.length c3v):=(qh HV.out.blk 3).trans rfl;have hczw9_4 : World.cell? _ ⟨g,4,none⟩ = some (.bool false):=(qh HV.out.blk 4).trans rfl;have hfzw9_0:=qj HV.out.blk 0;have hfzw9_1:=qj HV.out.blk 1;have hfzw9_2:=qj HV.out.blk 2;have hfzw9_3:=qj HV.out.blk 3;have hfzw9_4:=qj HV.out.blk 4))
    go_roundg (d + 1)
    case measure=>omega
    case rel=>exact ⟨i + 1,by first|rfl|(simp;done)|(rw [show wrap64 ((i : Int) + 1) = ((i + 1 : Nat) : Int) from by unfold wrap64;omega]),⟨by omega,by omega⟩,⟨hf⟩,⟨hx_⟩,⟨(by repeat (first|(with_reducible first|exact HV.out|apply StV.alloc|apply StV.drewN|apply StV.drew)|exact HV.out))⟩,⟨(by repeat (first|(with_reducible first|exact HK.out|refine keep_alloc ?_ _|refine keep_drewN ?_ _)|exact HK.out))⟩⟩
   obtain rfl : k1 = 0:=by omega
   have c0b0 : decide ((i : Int) < (s0_0.length : Int)) = false:=decide_eq_false (by omega)
   unfold spec_l05Place.find at hf
   obtain rfl:=Option.some.inj hf
   clear hf
   simp only at hu
   by_cases cf : s0_2.length = 0
   ·rw [if_pos (.inl cf)] at hu
    simp only [Option.some.injEq,Prod.mk.injEq] at hu
    obtain ⟨rfl,rfl,rfl,rfl,rfl⟩:=hu
    have cfb : ((s0_2.length : Int) == 0) = true:=beq_iff_eq.2 (by omega)
    go_wp2
    go_ret
    exact ⟨rfl,⟨_,_,_,_,StV.set4 (by repeat (first|(with_reducible first|exact HV.out|apply StV.alloc|apply StV.drewN|apply StV.drew)|exact HV.out)) true⟩,qg hx_ GEG.out,(Kp.of_keep (by repeat (first|(with_reducible first|exact HK.out|refine keep_alloc ?_ _|refine keep_drewN ?_ _)|exact HK.out))).set _ _⟩
   have cfb : ((s0_2.length : Int) == 0) = false:=beq_eq_false_iff_ne.2 (by omega)
   by_cases cp : s0_1.length = 400
   ·rw [if_pos (.inr cp)] at hu
    simp only [Option.some.injEq,Prod.mk.injEq] at hu
    obtain ⟨rfl,rfl,rfl,rfl,rfl⟩:=hu
    have cpb : ((s0_1.length : Int) == 400) = true:=beq_iff_eq.2 (by omega)
    go_wp2
    go_ret
    exact ⟨rfl,⟨_,_,_,_,StV.set4 (by repeat (first|(with_reducible first|exact HV.out|apply StV.alloc|apply StV.drewN|apply StV.drew)|exact HV.out)) true⟩,qg hx_ GEG.out,(Kp.of_keep (by repeat (first|(with_reducible first|exact HK.out|refine keep_alloc ?_ _|refine keep_drewN ?_ _)|exact HK.out))).set _ _⟩
   rw [if_neg (by rintro (h|h) <;> contradiction)] at hu
   have cpb : ((s0_1.length : Int) == 400) = false:=beq_eq_false_iff_ne.2 (by omega)
   by_cases cp4 : s0_1.length < 400
   ·rw [if_pos cp4] at hu
    replace hu:=Option.bind_eq_some_iff.mp hu
    obtain ⟨U1,hw,hu⟩:=hu
    obtain ⟨kw,hw⟩:=(lim_ev hw).rounds
    simp only [Option.some.injEq,Prod.mk.injEq] at hu
    obtain ⟨rfl,rfl,rfl,rfl,rfl⟩:=hu
    have p0 : (0 : Int) ≤ 0:=Int.le_refl _
    have q0 : (0 : Int) < (s0_2.length : Int):=by omega
    obtain ⟨ad,eA,hx0⟩:=Kd.at_int (StV.c2 (by repeat (first|(with_reducible first|exact HV.out|apply StV.alloc|apply StV.drewN|apply StV.drew)|exact HV.out))) 0 p0 q0
    subst eA
    rw [show ((0 : Int)).toNat = 0 from rfl,Addr.add_zero'] at hx0
    have qi : (0 < s0_2.length) = True:=eq_true (by omega)
    have q1 : (1 : Int) ≤ (s0_2.length : Int):=by omega
    obtain ⟨i0,hi0,_,hsz,_⟩:=info_parts info3
    have hcut:=cut_from (P:=Try.prog) 26 3 .i64 Try.underlying26 hi0 1 hsz (some ad) s0_2.length c2v 1 (by omega) q1
    have hQ:=Kd.Q_drop (StV.r2 (by repeat (first|(with_reducible first|exact HV.out|apply StV.alloc|apply StV.drewN|apply StV.drew)|exact HV.out))) (k:=1) (by omega)
    obtain ⟨Ac,hAc⟩ : ∃ A1,A1 = (if c2v = 1 then some ad else (some ad : Option Addr).map (·.add (1 * 1))):=⟨_,rfl⟩
    obtain ⟨cc,hcc⟩ : ∃ c1,c1 = c2v - 1:=⟨_,rfl⟩
    have hnn : s0_2.length - 1 = (s0_2.drop 1).length:=by rw [List.length_drop]
    obtain ⟨F1,hF1⟩ : ∃ F1,F1 = s0_2.drop 1:=⟨_,rfl⟩
    rw [← hF1] at hnn hQ
    have HF1:=qo.mk hF1
    have hcut' : ∀ W : World,Sem.run Try.prog (Instr.slice 26 (Value.slice (some ad) s0_2.length c2v) (some (Value.int IntKind.i64 1)) none none) W = Result.ok (.slice Ac F1.length cc) W:=by
     intro W
     rw [hcut W,hAc,hcc,← hnn]
     rfl
    have hQ' : (Kd.int IntKind.i64).Q 3 wr w0.heap.size (fun _=>True) (.slice Ac F1.length cc) F1:=by
     rw [hAc,hcc,← hnn]
     exact hQ
    clear hcut hQ
    have HV2:=qo.mk (StV.set2 HV.out hQ')
    clear hQ' hAc hcc hnn hF1
    go_wp2_with (first|((with_reducible refine gate_builtin (b:=.append) (xs:=#[.tmp 98,.tmp 102]) rfl ?_);at_builtin;refine Kd.R_append k96 (w0:=w0) w0.heap.size rfl (.tmp 98) (.tmp 102) 30 96 (.agg #[(.int .i64 0),(.string ⟨#[]⟩)]) 24 rfl Try.underlying30 info96 rfl (by decide) (by omega) (.slice A1v s0_1.length c1v) s0_1 (⟨(rd s0_2 0),t⟩ : S96) [.int .i64 (rd s0_2 0),.string t] (fun _=>True) (fun _=>False) rfl (by first|(go_simp;done)|(go_simp;rfl)) ?aP (fun _ hk=>hk.elim) ?aF ?aO ?aB ?aS ?aL ?_;(case aP=>exact k96_mkM _ _ _ (⟨(rd s0_2 0),t⟩ : S96));(case aB=>exact hx_);(case aF=>exact (fun _ _=>trivial));(case aO=>exact StV.r1 (by repeat (first|(with_reducible first|exact HV2.out|apply StV.alloc|apply StV.drewN|apply StV.drew)|exact HV2.out)));(case aS=>exact (qk hx_));(case aL=>omega);intro vA wA ho hb hg hat;obtain ⟨P1,hP1⟩ : ∃ P1,P1 = s0_1 ++ [(⟨(rd s0_2 0),t⟩ : S96)]:=⟨_,rfl⟩;rw [← hP1] at ho;have HP1:=qo.mk hP1;clear hP1;obtain ⟨AA,cA,eA⟩:=Kd.R_slice ho;subst eA;have HV3:=qo.mk (StV.app1 (by repeat (first|(with_reducible first|exact HV2.out|apply StV.alloc|apply StV.drewN|apply StV.drew)|exact HV2.out)) hg ho);have hpk:=KeepBut.set_ HK.out 2 (.slice Ac F1.length cc);have hpa:=Kp.app hpk H1.out hg;have HP:=qo.mk (Kp.set hpa 1 (.slice AA P1.length cA));have HBA:=qo.mk (qg (j:=1) (v:=.slice AA P1.length cA) hb GEG.out);have hbkA:=StV.app1_cell (by repeat (first|(with_reducible first|exact HV2.out|apply StV.alloc|apply StV.drewN|apply StV.drew)|exact HV2.out)) hg;clear HB;have HB:=qo.mk hb;have hczA_0 : World.cell? _ ⟨g,0,none⟩ = some (.slice A0 s0_0.length c0):=(qh hbkA 0).trans rfl;have hczA_1 : World.cell? _ ⟨g,1,none⟩ = some (.slice A1v s0_1.length c1v):=(qh hbkA 1).trans rfl;have hczA_2 : World.cell? _ ⟨g,2,none⟩ = some (.slice Ac F1.length cc):=(qh hbkA 2).trans rfl;have hczA_3 : World.cell? _ ⟨g,3,none⟩ = some (.slice A3v s0_3.length c3v):=(qh hbkA 3).trans rfl;have hczA_4 : World.cell? _ ⟨g,4,none⟩ = some (.bool false):=(qh hbkA 4).trans rfl;have hfzA_0:=qj hbkA 0;have hfzA_1:=qj hbkA 1;have hfzA_2:=qj hbkA 2;have hfzA_3:=qj hbkA 3;have hfzA_4:=qj hbkA 4;have hczB_0 : World.cell? _ ⟨g,0,none⟩ = some (.slice A0 s0_0.length c0):=(qh HV3.out.blk 0).trans rfl;have hczB_1 : World.cell? _ ⟨g,1,none⟩ = some (.slice AA P1.length cA):=(qh HV3.out.blk 1).trans rfl;have hczB_2 : World.cell? _ ⟨g,2,none⟩ = some (.slice Ac F1.length cc):=(qh HV3.out.blk 2).trans rfl;have hczB_3 : World.cell? _ ⟨g,3,none⟩ = some (.slice A3v s0_3.length c3v):=(qh HV3.out.blk 3).trans rfl;have hczB_4 : World.cell? _ ⟨g,4,none⟩ = some (.bool false):=(qh HV3.out.blk 4).trans rfl;have hfzB_0:=qj HV3.out.blk 0;have hfzB_1:=qj HV3.out.blk 1;have hfzB_2:=qj HV3.out.blk 2;have hfzB_3:=qj HV3.out.blk 3;have hfzB_4:=qj HV3.out.blk 4)|(go_at_call 67;(with_reducible refine (spec_l05With.calls kw _ _ s0_3 (rd s0_2 0) U1 _ ?side1 ?side2 hw).mono ?_);(case side1=>exact StV.c3 (by repeat (first|(with_reducible first|exact HV3.out|apply StV.alloc|apply StV.drewN|apply StV.drew)|exact HV3.out)));(case side2=>exact (Kd.R_reads' HV3.out.r3).2.1);rintro e w12 ⟨v12,rfl,ho,hb⟩;have HO:=qo.mk (Kd.R_lower ho (qk HBA.out));have HV4:=qo.mk (StV.below (by repeat (first|(with_reducible first|exact HV3.out|apply StV.alloc|apply StV.drewN|apply StV.drew)|exact HV3.out)) hb);replace HB:=qo.mk (qn HBA.out hb);have HP4:=qo.mk (Kp.below HP.out hb);obtain ⟨Ao,co,eo⟩:=Kd.R_slice HO.out;subst eo;have hczC_0 : World.cell? _ ⟨g,0,none⟩ = some (.slice A0 s0_0.length c0):=(qh HV4.out.blk 0).trans rfl;have hczC_1 : World.cell? _ ⟨g,1,none⟩ = some (.slice AA P1.length cA):=(qh HV4.out.blk 1).trans rfl;have hczC_2 : World.cell? _ ⟨g,2,none⟩ = some (.slice Ac F1.length cc):=(qh HV4.out.blk 2).trans rfl;have hczC_3 : World.cell? _ ⟨g,3,none⟩ = some (.slice A3v s0_3.length c3v):=(qh HV4.out.blk 3).trans rfl;have hczC_4 : World.cell? _ ⟨g,4,none⟩ = some (.bool false):=(qh HV4.out.blk 4).trans rfl;have hfzC_0:=qj HV4.out.blk 0;have hfzC_1:=qj HV4.out.blk 1;have hfzC_2:=qj HV4.out.blk 2;have hfzC_3:=qj HV4.out.blk 3;have hfzC_4:=qj HV4.out.blk 4))
    go_ret
    exact ⟨rfl,⟨_,_,_,_,by rw [← HF1.out,← HP1.out];exact StV.set3 HV4.out HO.out⟩,qg HB.out GEG.out,HP4.out.set _ _⟩
   rw [if_neg cp4] at hu
   cases hu
 obtain rfl : ok = false:=by simpa using co
 simp only [or_true,if_true,Option.some.injEq,Prod.mk.injEq] at h
 obtain ⟨rfl,rfl,rfl,rfl,rfl⟩:=h
 go_enter Try.func36,Try.ntmps36
 go_wp2_with (first|((with_reducible refine gate_dst (N:=5) rfl ?_);refine box_event ?hg (N:=5) ?hd (cs:=#[.int .i64 a2_0,.slice A2_1 l2_1.length c2_1]) (t:=76) ?hr ?_;(case hd=>rfl);(case hg=>rfl);(case hr=>first|(go_simp;done)|(go_simp;rfl));intro gb5 hg w5 hbox hb;replace HV:=qo.mk (StV.below (by repeat (first|(with_reducible first|exact HV.out|apply StV.alloc|apply StV.drewN|apply StV.drew)|exact HV.out)) hb);replace HK:=qo.mk (keep_step (by repeat (first|(with_reducible first|exact HK.out|refine keep_alloc ?_ _|refine keep_drewN ?_ _)|exact HK.out)) hb);replace HB:=hs_ HB hb;have hczw5_0 : World.cell? _ ⟨g,0,none⟩ = some (.slice A0 s0_0.length c0):=(qh HV.out.blk 0).trans rfl;have hczw5_1 : World.cell? _ ⟨g,1,none⟩ = some (.slice A1v s0_1.length c1v):=(qh HV.out.blk 1).trans rfl;have hczw5_2 : World.cell? _ ⟨g,2,none⟩ = some (.slice A2v s0_2.length c2v):=(qh HV.out.blk 2).trans rfl;have hczw5_3 : World.cell? _ ⟨g,3,none⟩ = some (.slice A3v s0_3.length c3v):=(qh HV.out.blk 3).trans rfl;have hczw5_4 : World.cell? _ ⟨g,4,none⟩ = some (.bool false):=(qh HV.out.blk 4).trans rfl;have hfzw5_0:=qj HV.out.blk 0;have hfzw5_1:=qj HV.out.blk 1;have hfzw5_2:=qj HV.out.blk 2;have hfzw5_3:=qj HV.out.blk 3;have hfzw5_4:=qj HV.out.blk 4;have BK5:=qo.mk hbox;clear hg;obtain ⟨hczb_0,hczb_1,hfzb_0,hfzb_1⟩:=c2f_ BK5.out)|((with_reducible refine gate_callee (f:=64) rfl ?_);refine goesL_ (some 13) rfl rfl Try.func64 (by kernel_rfl) rfl #[.agg #[.int .i64 a2_0,.slice A2_1 l2_1.length c2_1]] rfl sm_ ?_;(with_reducible refine (spec_PageText.calls kp _ _ _ l2_1 t _ _ ?side1 ?side2 hP).mono ?_);(case side1=>exact HR2.out _ (by repeat (first|(with_reducible first|exact HK.out|refine keep_alloc ?_ _|refine keep_drewN ?_ _)|exact HK.out)));(case side2=>exact HC2.out);rintro e w6 ⟨rfl,hb⟩;refine ⟨_,rfl,?_⟩;replace HV:=qo.mk (StV.below (by repeat (first|(with_reducible first|exact HV.out|apply StV.alloc|apply StV.drewN|apply StV.drew)|exact HV.out)) hb);replace HK:=qo.mk (keep_step (by repeat (first|(with_reducible first|exact HK.out|refine keep_alloc ?_ _|refine keep_drewN ?_ _)|exact HK.out)) hb);replace HB:=hs_ HB hb;have hczw6_0 : World.cell? _ ⟨g,0,none⟩ = some (.slice A0 s0_0.length c0):=(qh HV.out.blk 0).trans rfl;have hczw6_1 : World.cell? _ ⟨g,1,none⟩ = some (.slice A1v s0_1.length c1v):=(qh HV.out.blk 1).trans rfl;have hczw6_2 : World.cell? _ ⟨g,2,none⟩ = some (.slice A2v s0_2.length c2v):=(qh HV.out.blk 2).trans rfl;have hczw6_3 : World.cell? _ ⟨g,3,none⟩ = some (.slice A3v s0_3.length c3v):=(qh HV.out.blk 3).trans rfl;have hczw6_4 : World.cell? _ ⟨g,4,none⟩ = some (.bool false):=(qh HV.out.blk 4).trans rfl;have hfzw6_0:=qj HV.out.blk 0;have hfzw6_1:=qj HV.out.blk 1;have hfzw6_2:=qj HV.out.blk 2;have hfzw6_3:=qj HV.out.blk 3;have hfzw6_4:=qj HV.out.blk 4))
 go_ret
 exact ⟨rfl,⟨_,_,_,_,StV.set4 (by repeat (first|(with_reducible first|exact HV.out|apply StV.alloc|apply StV.drewN|apply StV.drew)|exact HV.out)) true⟩,qg hx_ GEG.out,(Kp.of_keep (by repeat (first|(with_reducible first|exact HK.out|refine keep_alloc ?_ _|refine keep_drewN ?_ _)|exact HK.out))).set _ _⟩
end Go.Proofs.Ytcnoccefdejphaa.QFnExactPlaceTree
