/- The law FnExactPlaceTree walked by hand: it answers true where the functions answer as told. -/
import Derived.Test.YtcnoccefdejphaaZFnExactPlaceTreex9
import Derived.Test.YtcnoccefdejphaaZFnExactPlaceTreex28
namespace Go.Proofs.Ytcnoccefdejphaa.QFnExactPlaceTree
open Go.RowKit Go.Proofs.YtcnoccefdejphaaW.PrintWords Go.Proofs.YtcnoccefdejphaaW.PrintLast Go.Proofs.YtcnoccefdejphaaW.PrintMore
attribute [local go_sem] max2_int min2_int max_two min_two max_three min_three max_four min_four
set_option linter.unusedVariables false
set_option linter.unusedSimpArgs false
theorem drawn_bl {W W1 : World} (h : Drawn0 W W1) : Bl W W1:=by
 obtain ⟨n,rfl⟩:=h
 exact qa (Below.refl _ _) n
set_option maxHeartbeats 16000000 in
set_option maxRecDepth 100000 in
theorem laws_FnExactPlaceTree.calls (A0 : Option Addr) (c0 : Nat) (l0 : List ByteArray) (A1 : Option Addr) (c1 : Nat) (p0 : List (S102)) (Au : Option Addr) (cu : Nat) (u : List Int) (Am : Option Addr) (cm : Nat) (m0 : List (S60)) (w : World)
  (h0 : Kd.C Kd.string w A0 l0.length l0) (h0' : l0.length ≤ c0) (h1 : Kd.C k102 w A1 p0.length p0) (h1' : p0.length ≤ c1) (hu : Kd.C (Kd.int .i64) w Au u.length u) (hu' : u.length ≤ cu) (hm : Kd.C k60 w Am m0.length m0) (hm' : m0.length ≤ cm) (hok : LawOk l0 p0 u m0) :
  Calls Try.prog 3 #[.agg #[.slice A0 l0.length c0,.slice A1 p0.length c1],.slice Au u.length cu,.slice Am m0.length cm] w fun e w'=>e = .returned (.bool true) ∧ Below w.heap.size w w':=by
 have hu25:=Try.underlying25
 have hu32:=Try.underlying32
 have H0:=qo.mk h0
 have H0':=qo.mk h0'
 have H1:=qo.mk h1
 have H1':=qo.mk h1'
 have Hu:=qo.mk hu
 have Hu':=qo.mk hu'
 have Hm:=qo.mk hm
 have Hm':=qo.mk hm'
 clear h0 h0' h1 h1' hu hu' hm hm'
 rcases hok with hl|⟨hl,z1,hz,hn⟩|⟨hl,z1,hz,hn,z2,hz2,hn2⟩|⟨hl,z1,hz,hn,z2,hz2,hn2,D1,D2,M,r1,r2,r3,r4,r5,a1,a2,a3,Q1,Q2,Q3,Q4,b1,b2,Y1,Y2,Y3,hmain⟩
 ·have cl : decide (1048576 < (u.length : Int)) = true:=decide_eq_true hl
  clear hl
  go_enter Try.func3,Try.ntmps3
  go_wp2_with (first|((with_reducible refine gate_dst (N:=3) rfl ?_);refine box_event ?hg (N:=3) ?hd (cs:=#[.slice A0 l0.length c0,.slice A1 p0.length c1]) (t:=25) ?hr ?_;(case hd=>rfl);(case hg=>rfl);(case hr=>first|(go_simp;done)|(go_simp;rfl));intro g3 hg_ w3 hbox hb;have HL : qo (L0 w w3 g3 (.slice A0 l0.length c0) (.slice A1 p0.length c1)):=⟨⟨hb,hbox⟩⟩;clear hbox hb hg_;have hc_HL:=two_cells HL.out.b3))
  go_ret
  exact ⟨rfl,HL.out.to.hb⟩
 ·have cl : decide (1048576 < (u.length : Int)) = false:=decide_eq_false hl
  have cz : decide (z1 < 0) = true:=decide_eq_true hn
  obtain ⟨kd,hd⟩:=hz.rounds
  clear hl hn hz
  go_enter Try.func3,Try.ntmps3
  go_wp2_with (first|((with_reducible refine gate_dst (N:=3) rfl ?_);refine box_event ?hg (N:=3) ?hd (cs:=#[.slice A0 l0.length c0,.slice A1 p0.length c1]) (t:=25) ?hr ?_;(case hd=>rfl);(case hg=>rfl);(case hr=>first|(go_simp;done)|(go_simp;rfl));intro g3 hg_ w3 hbox hb;have HL : qo (L0 w w3 g3 (.slice A0 l0.length c0) (.slice A1 p0.length c1)):=⟨⟨hb,hbox⟩⟩;clear hbox hb hg_;have hc_HL:=two_cells HL.out.b3)|((with_reducible refine gate_callee (f:=5) rfl ?_);refine goesL_ (some 31) rfl rfl Try.func5 (by kernel_rfl) rfl #[.agg #[.slice A0 l0.length c0,.slice A1 p0.length c1],.int .i64 1048576] rfl sm_ ?_;(with_reducible refine (laws_szDevice.calls kd _ _ l0 _ _ p0 1048576 z1 _ ?s1 H0'.out ?s2 H1'.out hd).mono ?_);(case s1=>exact HL.out.c H0.out);(case s2=>exact HL.out.c H1.out);rintro e w11 ⟨rfl,hb⟩;refine ⟨_,rfl,?_⟩;replace HL:=qo.mk (HL.out.to hb);clear hb;have hc_HL:=two_cells HL.out.b3))
  go_ret
  exact ⟨rfl,HL.out.to.hb⟩
 ·have cl : decide (1048576 < (u.length : Int)) = false:=decide_eq_false hl
  have cz : decide (z1 < 0) = false:=decide_eq_false hn
  have cz2 : decide (z2 < 0) = true:=decide_eq_true hn2
  obtain ⟨kd,hd⟩:=hz.rounds
  obtain ⟨kp,hp⟩:=hz2.rounds
  clear hl hn hz hn2 hz2
  go_enter Try.func3,Try.ntmps3
  go_wp2_with (first|((with_reducible refine gate_dst (N:=3) rfl ?_);refine box_event ?hg (N:=3) ?hd (cs:=#[.slice A0 l0.length c0,.slice A1 p0.length c1]) (t:=25) ?hr ?_;(case hd=>rfl);(case hg=>rfl);(case hr=>first|(go_simp;done)|(go_simp;rfl));intro g3 hg_ w3 hbox hb;have HL : qo (L0 w w3 g3 (.slice A0 l0.length c0) (.slice A1 p0.length c1)):=⟨⟨hb,hbox⟩⟩;clear hbox hb hg_;have hc_HL:=two_cells HL.out.b3)|((with_reducible refine gate_callee (f:=5) rfl ?_);refine goesL_ (some 31) rfl rfl Try.func5 (by kernel_rfl) rfl #[.agg #[.slice A0 l0.length c0,.slice A1 p0.length c1],.int .i64 1048576] rfl sm_ ?_;(with_reducible refine (laws_szDevice.calls kd _ _ l0 _ _ p0 1048576 z1 _ ?s1 H0'.out ?s2 H1'.out hd).mono ?_);(case s1=>exact HL.out.c H0.out);(case s2=>exact HL.out.c H1.out);rintro e w11 ⟨rfl,hb⟩;refine ⟨_,rfl,?_⟩;replace HL:=qo.mk (HL.out.to hb);clear hb;have hc_HL:=two_cells HL.out.b3)|((with_reducible refine gate_callee (f:=6) rfl ?_);refine goesL_ (some 36) rfl rfl Try.func6 (by kernel_rfl) rfl #[.slice Am m0.length cm,.int .i64 z1] rfl sm_ ?_;(with_reducible refine (laws_szPairS.calls kp _ _ m0 z1 z2 _ ?s1 Hm'.out hp).mono ?_);(case s1=>exact HL.out.c Hm.out);rintro e w12 ⟨rfl,hb⟩;refine ⟨_,rfl,?_⟩;replace HL:=qo.mk (HL.out.to hb);clear hb;have hc_HL:=two_cells HL.out.b3))
  go_ret
  exact ⟨rfl,HL.out.to.hb⟩
 have cl : decide (1048576 < (u.length : Int)) = false:=decide_eq_false hl
 have cz : decide (z1 < 0) = false:=decide_eq_false hn
 have cz2 : decide (z2 < 0) = false:=decide_eq_false hn2
 obtain ⟨kd,hd⟩:=hz.rounds
 obtain ⟨kp,hp⟩:=hz2.rounds
 clear hl hn hz hn2 hz2
 obtain ⟨td,tu,tm,sp,im,ed,ei,e0,eu,em,k1,k2,k3,n3,m1,m2,h1,h2,q1,q2⟩:=hmain
 obtain ⟨ktd,htd⟩:=td.rounds
 obtain ⟨ktu,htu⟩:=tu.rounds
 obtain ⟨ktm,htm⟩:=tm.rounds
 obtain ⟨ked,hed⟩:=ed.rounds
 obtain ⟨kei,hei⟩:=ei.rounds
 obtain ⟨ke0,he0⟩:=e0.rounds
 obtain ⟨keu,heu⟩:=eu.rounds
 obtain ⟨kem,hem⟩:=em.rounds
 obtain ⟨kk1,hk1⟩:=k1.rounds
 obtain ⟨kk2,hk2⟩:=k2.rounds
 obtain ⟨kk3,hk3⟩:=k3.rounds
 obtain ⟨km1,hm1⟩:=m1.rounds
 obtain ⟨km2,hm2⟩:=m2.rounds
 obtain ⟨kh1,hh1⟩:=h1.rounds
 obtain ⟨kh2,hh2⟩:=h2.rounds
 clear td tu tm ed ei e0 eu em k1 k2 k3 m1 m2 h1 h2
 replace htd:=qo.mk htd
 replace htu:=qo.mk htu
 replace htm:=qo.mk htm
 replace hed:=qo.mk hed
 replace hei:=qo.mk hei
 replace he0:=qo.mk he0
 replace heu:=qo.mk heu
 replace hem:=qo.mk hem
 replace hk1:=qo.mk hk1
 replace hk2:=qo.mk hk2
 replace hk3:=qo.mk hk3
 replace hm1:=qo.mk hm1
 replace hm2:=qo.mk hm2
 replace hh1:=qo.mk hh1
 replace hh2:=qo.mk hh2
 have hsp:=qo.mk sp
 have him:=qo.mk im
 have hn3:=qo.mk n3
 have hq1:=qo.mk q1
 have hq2:=qo.mk q2
 clear sp im n3 q1 q2
 go_enter Try.func3,Try.ntmps3
 go_upto_region 10 with (first|((with_reducible refine gate_dst (N:=3) rfl ?_);refine box_event ?hg (N:=3) ?hd (cs:=#[.slice A0 l0.length c0,.slice A1 p0.length c1]) (t:=25) ?hr ?_;(case hd=>rfl);(case hg=>rfl);(case hr=>first|(go_simp;done)|(go_simp;rfl));intro g3 hg_ w3 hbox hb;have HL : qo (L0 w w3 g3 (.slice A0 l0.length c0) (.slice A1 p0.length c1)):=⟨⟨hb,hbox⟩⟩;clear hbox hb hg_;have hc_HL:=two_cells HL.out.b3)|((with_reducible refine gate_callee (f:=5) rfl ?_);refine goesL_ (some 31) rfl rfl Try.func5 (by kernel_rfl) rfl #[.agg #[.slice A0 l0.length c0,.slice A1 p0.length c1],.int .i64 1048576] rfl sm_ ?_;(with_reducible refine (laws_szDevice.calls kd _ _ l0 _ _ p0 1048576 z1 _ ?s1 H0'.out ?s2 H1'.out hd).mono ?_);(case s1=>exact HL.out.c H0.out);(case s2=>exact HL.out.c H1.out);rintro e w11 ⟨rfl,hb⟩;refine ⟨_,rfl,?_⟩;replace HL:=qo.mk (HL.out.to hb);clear hb;have hc_HL:=two_cells HL.out.b3)|((with_reducible refine gate_callee (f:=6) rfl ?_);refine goesL_ (some 36) rfl rfl Try.func6 (by kernel_rfl) rfl #[.slice Am m0.length cm,.int .i64 z1] rfl sm_ ?_;(with_reducible refine (laws_szPairS.calls kp _ _ m0 z1 z2 _ ?s1 Hm'.out hp).mono ?_);(case s1=>exact HL.out.c Hm.out);rintro e w12 ⟨rfl,hb⟩;refine ⟨_,rfl,?_⟩;replace HL:=qo.mk (HL.out.to hb);clear hb;have hc_HL:=two_cells HL.out.b3))
 go_upto_region 11 with (first|((with_reducible refine gate_callee (f:=8) rfl ?_);refine goesL_ (some 41) rfl rfl Try.func8 (by kernel_rfl) rfl #[.agg #[.slice A0 l0.length c0,.slice A1 p0.length c1]] rfl sm_ ?_;(with_reducible refine (laws_toDevice.calls ktd _ _ l0 _ _ p0 D1 D2 _ ?s1 H0'.out ?s2 H1'.out htd.out).mono ?_);(case s1=>exact HL.out.c H0.out);(case s2=>exact HL.out.c H1.out);rintro e w13 ⟨v_,v__,rfl,ho0,ho1,hb⟩;refine ⟨_,rfl,?_⟩;have HT0:=qo.mk (Kd.R_lower ho0 (qk HL.out.hb));have HT1:=qo.mk (Kd.R_lower ho1 (qk HL.out.hb));clear ho0 ho1;obtain ⟨T0,dT0,e_⟩:=Kd.R_slice HT0.out;subst e_;obtain ⟨T1,dT1,e_⟩:=Kd.R_slice HT1.out;subst e_;replace HL:=qo.mk (HL.out.to hb);clear hb;have hc_HL:=two_cells HL.out.b3)|((with_reducible refine gate_callee (f:=9) rfl ?_);refine goesL_ (some 43) rfl rfl Try.func9 (by kernel_rfl) rfl #[.slice Au u.length cu] rfl sm_ ?_;(with_reducible refine (laws_toIntS.calls ktu _ _ u u _ ?s1 Hu'.out htu.out).mono ?_);(case s1=>exact HL.out.c Hu.out);rintro e w14 ⟨v_,rfl,ho,hb⟩;refine ⟨_,rfl,?_⟩;have HT2:=qo.mk (Kd.R_lower ho (qk HL.out.hb));clear ho;obtain ⟨T2,dT2,e_⟩:=Kd.R_slice HT2.out;subst e_;replace HL:=qo.mk (HL.out.to hb);replace HT0:=qo.mk (Kd.R_below HT0.out hb);replace HT1:=qo.mk (Kd.R_below HT1.out hb);clear hb;have hc_HL:=two_cells HL.out.b3)|((with_reducible refine gate_callee (f:=10) rfl ?_);refine goesL_ (some 45) rfl rfl Try.func10 (by kernel_rfl) rfl #[.slice Am m0.length cm] rfl sm_ ?_;(with_reducible refine (laws_toPairS.calls ktm _ _ m0 M _ ?s1 Hm'.out htm.out).mono ?_);(case s1=>exact HL.out.c Hm.out);rintro e w15 ⟨v_,rfl,ho,hb⟩;refine ⟨_,rfl,?_⟩;have HT3:=qo.mk (Kd.R_lower ho (qk HL.out.hb));clear ho;obtain ⟨T3,dT3,e_⟩:=Kd.R_slice HT3.out;subst e_;replace HL:=qo.mk (HL.out.to hb);replace HT0:=qo.mk (Kd.R_below HT0.out hb);replace HT1:=qo.mk (Kd.R_below HT1.out hb);replace HT2:=qo.mk (Kd.R_below HT2.out hb);clear hb;have hc_HL:=two_cells HL.out.b3)|((with_reducible refine gate_callee (f:=7) rfl ?_);refine goesL_ (some 46) rfl rfl Try.func7 (by kernel_rfl) rfl #[.agg #[.slice T0 D1.length dT0,.slice T1 D2.length dT1],.slice T2 u.length dT2,.slice T3 M.length dT3] rfl sm_ ?_;(with_reducible refine (spec_tree.calls _ _ D1 _ _ D2 _ _ u _ _ M r1 r2 r3 r4 r5 _ ?s1 ?s2 ?s3 ?s4 ?s5 ?s6 ?s7 ?s8 hsp.out).mono ?_);(case s1=>exact (Kd.R_reads' HT0.out).2.2);(case s2=>exact (Kd.R_reads' HT0.out).2.1);(case s3=>exact (Kd.R_reads' HT1.out).2.2);(case s4=>exact (Kd.R_reads' HT1.out).2.1);(case s5=>exact (Kd.R_reads' HT2.out).2.2);(case s6=>exact (Kd.R_reads' HT2.out).2.1);(case s7=>exact (Kd.R_reads' HT3.out).2.2);(case s8=>exact (Kd.R_reads' HT3.out).2.1);rintro e w16 ⟨v_,v__,v___,rfl,ho0,ho1,ho2,hb⟩;refine ⟨_,rfl,?_⟩;obtain ⟨V0,dV0,e_⟩:=Kd.R_slice ho0;subst e_;obtain ⟨V1,dV1,e_⟩:=Kd.R_slice ho1;subst e_;obtain ⟨V2,dV2,e_⟩:=Kd.R_slice ho2;subst e_;have HV0:=qo.mk (Kd.R_lower ho0 (qk HL.out.hb));have HV1:=qo.mk (Kd.R_lower ho1 (qk HL.out.hb));have HV2:=qo.mk (Kd.R_lower ho2 (qk HL.out.hb));clear ho0 ho1 ho2 HT0 HT1 HT2 HT3;replace HL:=qo.mk (HL.out.to hb);clear hb;have hc_HL:=two_cells HL.out.b3))
 generalize hW : w16.alloc (.cells #[.slice V0 r1.length dV0,.slice V1 r2.length dV1] 32) = w8
 have hb : Bl w16 w8:=by rw [← hW];exact qf (Below.refl _ _) _
 have hbx : w8.heap[w16.heap.size]? = some (.cells #[.slice V0 r1.length dV0,.slice V1 r2.length dV1] 32 (0,0)):=by rw [← hW];exact heap_alloc_new _ _
 generalize hG : w16.heap.size = g8
 rw [hG] at hbx
 clear hW
 clear hG
 obtain ⟨N1,hN1⟩ : ∃ x,x = w8.heap.size:=⟨_,rfl⟩
 have HLV : qo (LV w.heap.size w8 g8 (.slice V0 r1.length dV0) (.slice V1 r2.length dV1) (.slice V2 r4.length dV2) r1 r2 r4 N1):=⟨⟨hbx,by rw [hN1];exact row_all (Kd.R_below HV0.out hb),by rw [hN1];exact row_all (Kd.R_below HV1.out hb),by rw [hN1];exact row_all (Kd.R_below HV2.out hb),by omega⟩⟩
 clear HV0 HV1 HV2 hbx hN1
 replace HL:=qo.mk (HL.out.to hb);clear hb;have hc_HL:=two_cells HL.out.b3
 have hc_HLV:=two_cells HLV.out.b
 go_upto_region 12 with (first|((with_reducible refine gate_callee (f:=8) rfl ?_);refine goesL_ (some 52) rfl rfl Try.func8 (by kernel_rfl) rfl #[.agg #[.slice A0 l0.length c0,.slice A1 p0.length c1]] rfl sm_ ?_;(with_reducible refine (laws_toDevice.calls ktd _ _ l0 _ _ p0 D1 D2 _ ?s1 H0'.out ?s2 H1'.out htd.out).mono ?_);(case s1=>exact HL.out.c H0.out);(case s2=>exact HL.out.c H1.out);rintro e w17 ⟨v_,v__,rfl,ho0,ho1,hb⟩;refine ⟨_,rfl,?_⟩;have HX0:=qo.mk (row_rg' ho0 (qk HL.out.hb) HLV.out.n (Nat.le_refl _));have HX1:=qo.mk (row_rg' ho1 (qk HL.out.hb) HLV.out.n (Nat.le_refl _));have H12:=qo.mk (Nat.le_trans HLV.out.n hb.size);clear ho0 ho1;obtain ⟨X0,dX0,e_⟩:=Kd.R_slice HX0.out;subst e_;obtain ⟨X1,dX1,e_⟩:=Kd.R_slice HX1.out;subst e_;replace HL:=qo.mk (HL.out.to hb);replace HLV:=qo.mk (HLV.out.to hb);clear hb;have hc_HL:=two_cells HL.out.b3;have hc_HLV:=two_cells HLV.out.b))
 generalize hW : w17.alloc (.cells #[.slice X0 D1.length dX0,.slice X1 D2.length dX1] 32) = w12
 have hb : Bl w17 w12:=by rw [← hW];exact qf (Below.refl _ _) _
 have hbx : w12.heap[w17.heap.size]? = some (.cells #[.slice X0 D1.length dX0,.slice X1 D2.length dX1] 32 (0,0)):=by rw [← hW];exact heap_alloc_new _ _
 generalize hG : w17.heap.size = N2
 rw [hG] at hbx
 clear hW
 rw [hG] at HX0 HX1 H12
 have HN2 : qo (N2 ≤ w12.heap.size):=⟨by rw [← hG];exact hb.size⟩
 have HB12:=qo.mk hbx
 clear hbx hG
 replace HL:=qo.mk (HL.out.to hb);replace HLV:=qo.mk (HLV.out.to hb);replace HX0:=qo.mk (Kd.R_below HX0.out hb);replace HX1:=qo.mk (Kd.R_below HX1.out hb);clear hb;have hc_HL:=two_cells HL.out.b3;have hc_HLV:=two_cells HLV.out.b
 have hc_HB12:=two_cells HB12.out
 go_upto_region 15 with (first|((with_reducible refine gate_callee (f:=9) rfl ?_);refine goesL_ (some 54) rfl rfl Try.func9 (by kernel_rfl) rfl #[.slice Au u.length cu] rfl sm_ ?_;(with_reducible refine (laws_toIntS.calls ktu _ _ u u _ ?s1 Hu'.out htu.out).mono ?_);(case s1=>exact HL.out.c Hu.out);rintro e w18 ⟨v_,rfl,ho,hb⟩;refine ⟨_,rfl,?_⟩;have HX2:=qo.mk (row_rg' ho (qk HL.out.hb) HN2.out (Nat.le_refl _));obtain ⟨N3,hN3⟩ : ∃ x,x = w18.heap.size:=⟨_,rfl⟩;rw [← hN3] at HX2;have H23 : qo (N2 ≤ N3):=⟨by rw [hN3];exact Nat.le_trans HN2.out hb.size⟩;have HN3 : qo (N3 ≤ w18.heap.size):=⟨by omega⟩;clear hN3;clear ho;obtain ⟨X2,dX2,e_⟩:=Kd.R_slice HX2.out;subst e_;replace HL:=qo.mk (HL.out.to hb);replace HLV:=qo.mk (HLV.out.to hb);replace HB12:=qo.mk (qm HB12.out hb);replace HX0:=qo.mk (Kd.R_below HX0.out hb);replace HX1:=qo.mk (Kd.R_below HX1.out hb);replace HN2:=qo.mk (Nat.le_trans HN2.out hb.size);clear hb;have hc_HL:=two_cells HL.out.b3;have hc_HLV:=two_cells HLV.out.b;have hc_HB12:=two_cells HB12.out)|((with_reducible refine gate_callee (f:=10) rfl ?_);refine goesL_ (some 56) rfl rfl Try.func10 (by kernel_rfl) rfl #[.slice Am m0.length cm] rfl sm_ ?_;(with_reducible refine (laws_toPairS.calls ktm _ _ m0 M _ ?s1 Hm'.out htm.out).mono ?_);(case s1=>exact HL.out.c Hm.out);rintro e w19 ⟨v_,rfl,ho,hb⟩;refine ⟨_,rfl,?_⟩;have HX3:=qo.mk (row_rg' ho (qk HL.out.hb) HN3.out (Nat.le_refl _));obtain ⟨N4,hN4⟩ : ∃ x,x = w19.heap.size:=⟨_,rfl⟩;rw [← hN4] at HX3;have H34 : qo (N3 ≤ N4):=⟨by rw [hN4];exact Nat.le_trans HN3.out hb.size⟩;have HN4 : qo (N4 ≤ w19.heap.size):=⟨by omega⟩;clear hN4;clear ho;obtain ⟨X3,dX3,e_⟩:=Kd.R_slice HX3.out;subst e_;replace HL:=qo.mk (HL.out.to hb);replace HLV:=qo.mk (HLV.out.to hb);replace HB12:=qo.mk (qm HB12.out hb);replace HX0:=qo.mk (Kd.R_below HX0.out hb);replace HX1:=qo.mk (Kd.R_below HX1.out hb);replace HX2:=qo.mk (Kd.R_below HX2.out hb);replace HN3:=qo.mk (Nat.le_trans HN3.out hb.size);clear hb;have hc_HL:=two_cells HL.out.b3;have hc_HLV:=two_cells HLV.out.b;have hc_HB12:=two_cells HB12.out)|((with_reducible refine gate_callee (f:=11) rfl ?_);refine goesL_ (some 61) rfl rfl Try.func11 (by kernel_rfl) rfl #[.agg #[.slice X0 D1.length dX0,.slice X1 D2.length dX1],.slice X2 u.length dX2,.slice X3 M.length dX3] rfl sm_ ?_;(with_reducible refine (impl_tree.calls _ _ D1 _ _ D2 _ _ u _ _ M r1 r2 r3 r4 r5 _ ?s1 ?s2 ?s3 ?s4 ?s5 ?s6 ?s7 ?s8 him.out).mono ?_);(case s1=>exact (Kd.R_reads' HX0.out).2.2);(case s2=>exact (Kd.R_reads' HX0.out).2.1);(case s3=>exact (Kd.R_reads' HX1.out).2.2);(case s4=>exact (Kd.R_reads' HX1.out).2.1);(case s5=>exact (Kd.R_reads' HX2.out).2.2);(case s6=>exact (Kd.R_reads' HX2.out).2.1);(case s7=>exact (Kd.R_reads' HX3.out).2.2);(case s8=>exact (Kd.R_reads' HX3.out).2.1);rintro e w20 ⟨v_,v__,v___,rfl,ho0,ho1,ho2,hb⟩;refine ⟨_,rfl,?_⟩;obtain ⟨G0,dG0,e_⟩:=Kd.R_slice ho0;subst e_;obtain ⟨G1,dG1,e_⟩:=Kd.R_slice ho1;subst e_;obtain ⟨G2,dG2,e_⟩:=Kd.R_slice ho2;subst e_;have HG0:=qo.mk (row_rg' ho0 (qk HL.out.hb) HN4.out (Nat.le_refl _));have HG1:=qo.mk (row_rg' ho1 (qk HL.out.hb) HN4.out (Nat.le_refl _));have HG2:=qo.mk (row_rg' ho2 (qk HL.out.hb) HN4.out (Nat.le_refl _));clear ho0 ho1 ho2;obtain ⟨N5,hN5⟩ : ∃ x,x = w20.heap.size:=⟨_,rfl⟩;rw [← hN5] at HG0 HG1 HG2;have HN5 : qo (N5 ≤ w20.heap.size):=⟨by omega⟩;clear hN5;replace HL:=qo.mk (HL.out.to hb);replace HLV:=qo.mk (HLV.out.to hb);replace HB12:=qo.mk (qm HB12.out hb);replace HX0:=qo.mk (Kd.R_below HX0.out hb);replace HX1:=qo.mk (Kd.R_below HX1.out hb);replace HX2:=qo.mk (Kd.R_below HX2.out hb);replace HX3:=qo.mk (Kd.R_below HX3.out hb);replace HN4:=qo.mk (Nat.le_trans HN4.out hb.size);clear hb;have hc_HL:=two_cells HL.out.b3;have hc_HLV:=two_cells HLV.out.b;have hc_HB12:=two_cells HB12.out))
 generalize hW : w20.alloc (.cells #[.slice G0 r1.length dG0,.slice G1 r2.length dG1] 32) = w15
 have hb : Bl w20 w15:=by rw [← hW];exact qf (Below.refl _ _) _
 have hbx : w15.heap[w20.heap.size]? = some (.cells #[.slice G0 r1.length dG0,.slice G1 r2.length dG1] 32 (0,0)):=by rw [← hW];exact heap_alloc_new _ _
 generalize hG : w20.heap.size = g15
 rw [hG] at hbx
 clear hW
 clear hG
 have HLG : qo (LG w.heap.size w15 g15 (.slice G0 r1.length dG0) (.slice G1 r2.length dG1) (.slice G2 r4.length dG2) r1 r2 r4 N4 N5):=⟨⟨hbx,Kd.R_below HG0.out hb,Kd.R_below HG1.out hb,Kd.R_below HG2.out hb,Nat.le_trans HN5.out hb.size⟩⟩
 clear HG0 HG1 HG2 HN5 HN4 hbx
 replace HL:=qo.mk (HL.out.to hb);replace HLV:=qo.mk (HLV.out.to hb);replace HB12:=qo.mk (qm HB12.out hb);replace HX0:=qo.mk (Kd.R_below HX0.out hb);replace HX1:=qo.mk (Kd.R_below HX1.out hb);replace HX2:=qo.mk (Kd.R_below HX2.out hb);replace HX3:=qo.mk (Kd.R_below HX3.out hb);clear hb;have hc_HL:=two_cells HL.out.b3;have hc_HLV:=two_cells HLV.out.b;have hc_HB12:=two_cells HB12.out
 have hc_HLG:=two_cells HLG.out.b
 have hne3 : (r3 != r3) = false:=by simp
 have hne5 : (r5 != r5) = false:=by simp
 have hna3 : decide (a3 < 0) = false:=decide_eq_false hn3.out
 have hnb1 : decide (b1 < 0) = false:=decide_eq_false hq1.out
 have hnb2 : decide (b2 < 0) = false:=decide_eq_false hq2.out
 have hnq2 : (b2 != b2) = false:=by simp
 go_upto_region 17 with (first|((with_reducible refine gate_callee (f:=12) rfl ?_);refine goesL_ (some 68) rfl rfl Try.func12 (by kernel_rfl) rfl #[.agg #[.slice G0 r1.length dG0,.slice G1 r2.length dG1],.agg #[.slice V0 r1.length dV0,.slice V1 r2.length dV1]] rfl sm_ ?_;(with_reducible refine (laws_eqDevice.calls ked _ _ r1 _ _ r2 _ _ r1 _ _ r2 true _ ?s1 ?s2 ?s3 ?s4 ?s5 ?s6 ?s7 ?s8 hed.out).mono ?_);(case s1=>exact (Kd.R_reads' HLG.out.r0).2.2);(case s2=>exact (Kd.R_reads' HLG.out.r0).2.1);(case s3=>exact (Kd.R_reads' HLG.out.r1).2.2);(case s4=>exact (Kd.R_reads' HLG.out.r1).2.1);(case s5=>exact (Kd.R_reads' HLV.out.r0).2.2);(case s6=>exact (Kd.R_reads' HLV.out.r0).2.1);(case s7=>exact (Kd.R_reads' HLV.out.r1).2.2);(case s8=>exact (Kd.R_reads' HLV.out.r1).2.1);rintro e w21 ⟨rfl,hb⟩;refine ⟨_,rfl,?_⟩;replace HL:=qo.mk (HL.out.to hb);replace HLV:=qo.mk (HLV.out.to hb);replace HLG:=qo.mk (HLG.out.to hb);replace HB12:=qo.mk (qm HB12.out hb);replace HX0:=qo.mk (Kd.R_below HX0.out hb);replace HX1:=qo.mk (Kd.R_below HX1.out hb);replace HX2:=qo.mk (Kd.R_below HX2.out hb);replace HX3:=qo.mk (Kd.R_below HX3.out hb);clear hb;have hc_HL:=two_cells HL.out.b3;have hc_HLV:=two_cells HLV.out.b;have hc_HLG:=two_cells HLG.out.b;have hc_HB12:=two_cells HB12.out)|(go_at_call 13;(with_reducible refine (laws_eqIntS.calls kei _ _ r4 _ _ r4 true _ ?s1 ?s2 ?s3 ?s4 hei.out).mono ?_);(case s1=>exact (Kd.R_reads' HLG.out.r2).2.2);(case s2=>exact (Kd.R_reads' HLG.out.r2).2.1);(case s3=>exact (Kd.R_reads' HLV.out.r3).2.2);(case s4=>exact (Kd.R_reads' HLV.out.r3).2.1);rintro e w22 ⟨rfl,hd_⟩;have hb:=drawn_bl hd_;clear hd_;replace HL:=qo.mk (HL.out.to hb);replace HLV:=qo.mk (HLV.out.to hb);replace HLG:=qo.mk (HLG.out.to hb);replace HB12:=qo.mk (qm HB12.out hb);replace HX0:=qo.mk (Kd.R_below HX0.out hb);replace HX1:=qo.mk (Kd.R_below HX1.out hb);replace HX2:=qo.mk (Kd.R_below HX2.out hb);replace HX3:=qo.mk (Kd.R_below HX3.out hb);clear hb;have hc_HL:=two_cells HL.out.b3;have hc_HLV:=two_cells HLV.out.b;have hc_HLG:=two_cells HLG.out.b;have hc_HB12:=two_cells HB12.out))
 refine start_ (n:=5) (S:=fun w'=>w'.cell? ⟨N2,0,none⟩ = some (.slice X0 D1.length dX0) ∧ w'.cell? ⟨N2,1,none⟩ = some (.slice X1 D2.length dX1) ∧ w'.cell? ⟨g3,0,none⟩ = some (.slice A0 l0.length c0) ∧ w'.cell? ⟨g3,1,none⟩ = some (.slice A1 p0.length c1)) (ds:=[3]) (Array.replicate 5 false) (by kernel_rfl) rfl rfl ⟨hc_HB12.1,hc_HB12.2.1,hc_HL.1,hc_HL.2.1⟩ (fun hHeld=>?_)
 refine ta_ 0 86 (bz_ 5 1) hHeld (hy:=Or.inl ⟨by rfl,by rintro w' ⟨s0,s1,s2,s3⟩;go_simp;with_reducible rfl⟩) (h:=?_)
 refine ta_ 1 87 (bz_ 5 3) hHeld (hy:=Or.inl ⟨by rfl,by rintro w' ⟨s0,s1,s2,s3⟩;go_simp;with_reducible rfl⟩) (h:=?_)
 refine one_ (i:=2) (N:=some 88) (bz_ 5 7) rfl rfl (by kernel_rfl) (by decide) (fun K hK=>?_)
 have hb : Bl w22 w22.drew:=below_drew (Below.refl _ _)
 replace HL:=qo.mk (HL.out.to hb);replace HLV:=qo.mk (HLV.out.to hb);replace HLG:=qo.mk (HLG.out.to hb);replace HB12:=qo.mk (qm HB12.out hb);replace HX0:=qo.mk (Kd.R_below HX0.out hb);replace HX1:=qo.mk (Kd.R_below HX1.out hb);replace HX2:=qo.mk (Kd.R_below HX2.out hb);replace HX3:=qo.mk (Kd.R_below HX3.out hb);clear hb;have hc_HL:=two_cells HL.out.b3;have hc_HLV:=two_cells HLV.out.b;have hc_HLG:=two_cells HLG.out.b;have hc_HB12:=two_cells HB12.out
 refine goes_ Try.func8 (by kernel_rfl) rfl #[.agg #[.slice A0 l0.length c0,.slice A1 p0.length c1]] (by rfl) rfl rfl (by simp only [List.map_toArray,List.map_cons,List.map_nil];rfl) ?_
 (with_reducible refine (laws_toDevice.calls ktd _ _ l0 _ _ p0 D1 D2 _ ?s1 H0'.out ?s2 H1'.out htd.out).mono ?_)
 (case s1=>exact HL.out.c H0.out)
 (case s2=>exact HL.out.c H1.out)
 rintro e w44 ⟨v_,v__,rfl,ho0,ho1,hb⟩
 refine ⟨_,rfl,?_⟩
 have HT0:=qo.mk (Kd.R_lower ho0 (qk HL.out.hb))
 have HT1:=qo.mk (Kd.R_lower ho1 (qk HL.out.hb))
 clear ho0 ho1
 obtain ⟨T0,dT0,e_⟩:=Kd.R_slice HT0.out
 subst e_
 obtain ⟨T1,dT1,e_⟩:=Kd.R_slice HT1.out
 subst e_
 replace HL:=qo.mk (HL.out.to hb);replace HLV:=qo.mk (HLV.out.to hb);replace HLG:=qo.mk (HLG.out.to hb);replace HB12:=qo.mk (qm HB12.out hb);replace HX0:=qo.mk (Kd.R_below HX0.out hb);replace HX1:=qo.mk (Kd.R_below HX1.out hb);replace HX2:=qo.mk (Kd.R_below HX2.out hb);replace HX3:=qo.mk (Kd.R_below HX3.out hb);clear hb
 have hc_HL:=two_cells HL.out.b3
 have hc_HLV:=two_cells HLV.out.b
 have hc_HLG:=two_cells HLG.out.b
 have hc_HB12:=two_cells HB12.out
 refine hK.out _ _ ⟨hc_HB12.1,hc_HB12.2.1,hc_HL.1,hc_HL.2.1⟩ (fun hHeld=>?_)
 clear hK K
 refine norm_ (a':=?_) ?_ ?_
 rotate_left
 ·show Act.put _ (some 88) _ = _
  simp only [Act.put,List.setIfInBounds_toArray,List.set_cons_zero,List.set_cons_succ,i64_w,i32_w]
  rfl
 refine last_ (i:=3) (N:=some 89) (bz_ 5 15) rfl rfl (by kernel_rfl) (by decide) (fun K hK=>?_)
 refine goes_ Try.func12 (by kernel_rfl) rfl #[.agg #[.slice X0 D1.length dX0,.slice X1 D2.length dX1],.agg #[.slice T0 D1.length dT0,.slice T1 D2.length dT1]] (by rfl) rfl rfl (by simp only [List.map_toArray,List.map_cons,List.map_nil];rfl) ?_
 (with_reducible refine (laws_eqDevice.calls ke0 _ _ D1 _ _ D2 _ _ D1 _ _ D2 true _ ?s1 ?s2 ?s3 ?s4 ?s5 ?s6 ?s7 ?s8 he0.out).mono ?_)
 (case s1=>exact (Kd.R_reads' HX0.out).2.2)
 (case s2=>exact (Kd.R_reads' HX0.out).2.1)
 (case s3=>exact (Kd.R_reads' HX1.out).2.2)
 (case s4=>exact (Kd.R_reads' HX1.out).2.1)
 (case s5=>exact (Kd.R_reads' HT0.out).2.2)
 (case s6=>exact (Kd.R_reads' HT0.out).2.1)
 (case s7=>exact (Kd.R_reads' HT1.out).2.2)
 (case s8=>exact (Kd.R_reads' HT1.out).2.1)
 rintro e w45 ⟨rfl,hb⟩
 refine ⟨_,rfl,?_⟩
 replace HL:=qo.mk (HL.out.to hb);replace HLV:=qo.mk (HLV.out.to hb);replace HLG:=qo.mk (HLG.out.to hb);replace HB12:=qo.mk (qm HB12.out hb);replace HX0:=qo.mk (Kd.R_below HX0.out hb);replace HX1:=qo.mk (Kd.R_below HX1.out hb);replace HX2:=qo.mk (Kd.R_below HX2.out hb);replace HX3:=qo.mk (Kd.R_below HX3.out hb);clear hb
 have hc_HL:=two_cells HL.out.b3
 have hc_HLV:=two_cells HLV.out.b
 have hc_HLG:=two_cells HLG.out.b
 have hc_HB12:=two_cells HB12.out
 refine hK.out _ _ ?_
 clear hK K
 refine norm_ (a':=?_) ?_ ?_
 rotate_left
 ·show Act.put _ (some 89) _ = _
  simp only [Act.put,List.setIfInBounds_toArray,List.set_cons_zero,List.set_cons_succ,i64_w,i32_w]
  rfl
 refine pa_ 4 90 (bz_ 5 31) ?_
 refine done_ (by kernel_rfl) ?_
 go_upto_region 21 with (first|((with_reducible refine gate_callee (f:=9) rfl ?_);refine goesL_ (some 93) rfl rfl Try.func9 (by kernel_rfl) rfl #[.slice Au u.length cu] rfl sm_ ?_;(with_reducible refine (laws_toIntS.calls ktu _ _ u u _ ?s1 Hu'.out htu.out).mono ?_);(case s1=>exact HL.out.c Hu.out);rintro e w23 ⟨v_,rfl,ho,hb⟩;refine ⟨_,rfl,?_⟩;have HT2:=qo.mk (Kd.R_lower ho (qk HL.out.hb));clear ho;obtain ⟨T2,dT2,e_⟩:=Kd.R_slice HT2.out;subst e_;replace HL:=qo.mk (HL.out.to hb);replace HLV:=qo.mk (HLV.out.to hb);replace HLG:=qo.mk (HLG.out.to hb);replace HB12:=qo.mk (qm HB12.out hb);replace HX0:=qo.mk (Kd.R_below HX0.out hb);replace HX1:=qo.mk (Kd.R_below HX1.out hb);replace HX2:=qo.mk (Kd.R_below HX2.out hb);replace HX3:=qo.mk (Kd.R_below HX3.out hb);clear hb;have hc_HL:=two_cells HL.out.b3;have hc_HLV:=two_cells HLV.out.b;have hc_HLG:=two_cells HLG.out.b;have hc_HB12:=two_cells HB12.out)|((with_reducible refine gate_callee (f:=13) rfl ?_);refine goesL_ (some 94) rfl rfl Try.func13 (by kernel_rfl) rfl #[.slice X2 u.length dX2,.slice T2 u.length dT2] rfl sm_ ?_;(with_reducible refine (laws_eqIntS.calls keu _ _ u _ _ u true _ ?s1 ?s2 ?s3 ?s4 heu.out).mono ?_);(case s1=>exact (Kd.R_reads' HX2.out).2.2);(case s2=>exact (Kd.R_reads' HX2.out).2.1);(case s3=>exact (Kd.R_reads' HT2.out).2.2);(case s4=>exact (Kd.R_reads' HT2.out).2.1);rintro e w24 ⟨rfl,hd_⟩;refine ⟨_,rfl,?_⟩;have hb:=drawn_bl hd_;clear hd_;replace HL:=qo.mk (HL.out.to hb);replace HLV:=qo.mk (HLV.out.to hb);replace HLG:=qo.mk (HLG.out.to hb);replace HB12:=qo.mk (qm HB12.out hb);replace HX0:=qo.mk (Kd.R_below HX0.out hb);replace HX1:=qo.mk (Kd.R_below HX1.out hb);replace HX2:=qo.mk (Kd.R_below HX2.out hb);replace HX3:=qo.mk (Kd.R_below HX3.out hb);clear hb;have hc_HL:=two_cells HL.out.b3;have hc_HLV:=two_cells HLV.out.b;have hc_HLG:=two_cells HLG.out.b;have hc_HB12:=two_cells HB12.out))
 go_upto_region 24 with (first|((with_reducible refine gate_callee (f:=10) rfl ?_);refine goesL_ (some 98) rfl rfl Try.func10 (by kernel_rfl) rfl #[.slice Am m0.length cm] rfl sm_ ?_;(with_reducible refine (laws_toPairS.calls ktm _ _ m0 M _ ?s1 Hm'.out htm.out).mono ?_);(case s1=>exact HL.out.c Hm.out);rintro e w25 ⟨v_,rfl,ho,hb⟩;refine ⟨_,rfl,?_⟩;have HT3:=qo.mk (Kd.R_lower ho (qk HL.out.hb));clear ho;obtain ⟨T3,dT3,e_⟩:=Kd.R_slice HT3.out;subst e_;replace HL:=qo.mk (HL.out.to hb);replace HLV:=qo.mk (HLV.out.to hb);replace HLG:=qo.mk (HLG.out.to hb);replace HB12:=qo.mk (qm HB12.out hb);replace HX0:=qo.mk (Kd.R_below HX0.out hb);replace HX1:=qo.mk (Kd.R_below HX1.out hb);replace HX2:=qo.mk (Kd.R_below HX2.out hb);replace HX3:=qo.mk (Kd.R_below HX3.out hb);clear hb;have hc_HL:=two_cells HL.out.b3;have hc_HLV:=two_cells HLV.out.b;have hc_HLG:=two_cells HLG.out.b;have hc_HB12:=two_cells HB12.out)|((with_reducible refine gate_callee (f:=14) rfl ?_);refine goesL_ (some 99) rfl rfl Try.func14 (by kernel_rfl) rfl #[.slice X3 M.length dX3,.slice T3 M.length dT3] rfl sm_ ?_;(with_reducible refine (laws_eqPairS.calls kem _ _ M _ _ M true _ ?s1 ?s2 ?s3 ?s4 hem.out).mono ?_);(case s1=>exact (Kd.R_reads' HX3.out).2.2);(case s2=>exact (Kd.R_reads' HX3.out).2.1);(case s3=>exact (Kd.R_reads' HT3.out).2.2);(case s4=>exact (Kd.R_reads' HT3.out).2.1);rintro e w26 ⟨rfl,hb⟩;refine ⟨_,rfl,?_⟩;replace HL:=qo.mk (HL.out.to hb);replace HLV:=qo.mk (HLV.out.to hb);replace HLG:=qo.mk (HLG.out.to hb);replace HB12:=qo.mk (qm HB12.out hb);replace HX0:=qo.mk (Kd.R_below HX0.out hb);replace HX1:=qo.mk (Kd.R_below HX1.out hb);replace HX2:=qo.mk (Kd.R_below HX2.out hb);replace HX3:=qo.mk (Kd.R_below HX3.out hb);clear hb;have hc_HL:=two_cells HL.out.b3;have hc_HLV:=two_cells HLV.out.b;have hc_HLG:=two_cells HLG.out.b;have hc_HB12:=two_cells HB12.out))
 go_upto_region 25 with (first|((with_reducible refine gate_callee (f:=15) rfl ?_);refine goesL_ (some 103) rfl rfl Try.func15 (by kernel_rfl) rfl #[.agg #[.slice X0 D1.length dX0,.slice X1 D2.length dX1],.int .i64 1] rfl sm_ ?_;(with_reducible refine (laws_markDevice.calls kk1 (PT w26 N1 N2 (9 :: Kd.string.E)) _ D1 (PT w26 N1 N2 (96 :: k96.E)) _ D2 1 a1 Q1 Q2 w _ HL.out.hb ?s1 ?s2 hk1.out).mono ?_);(case s1=>exact row_pt HX0.out);(case s2=>exact row_pt HX1.out);rintro e w27 ⟨rfl,ho0,ho1,hb,hk⟩;refine ⟨_,rfl,?_⟩;clear ho0 ho1;have HR : qo (Rows w26 (fun k=>PT w26 N1 N2 (9 :: Kd.string.E) k ∨ PT w26 N1 N2 (96 :: k96.E) k)):=⟨rows_or (rows_pt ts9) (rows_pt ts96)⟩;replace HL:=qo.mk (HL.out.kept hb hk HR.out);replace HLV:=qo.mk (HLV.out.kept hk HR.out (fun k hp=>by rcases hp with hp|hp <;> exact hp.1.1));replace HLG:=qo.mk (HLG.out.kept hk HR.out (fun k hp=>by have:=H23.out;have:=H34.out;rcases hp with hp|hp <;> (have:=hp.1.2;omega)));replace HX2:=qo.mk (row_kept HX2.out hk (fun k _ ho _ _ hp=>by rcases hp with hp|hp <;> (have:=hp.1.2;omega)));replace HX3:=qo.mk (row_kept HX3.out hk (fun k _ ho _ _ hp=>by have:=H23.out;rcases hp with hp|hp <;> (have:=hp.1.2;omega)));have hc_HL:=two_cells HL.out.b3;have hc_HLV:=two_cells HLV.out.b;have hc_HLG:=two_cells HLG.out.b;clear HX0 HX1 HB12 HR hb hk))
 go_upto_region 26 with (first|((with_reducible refine gate_callee (f:=16) rfl ?_);refine goesL_ (some 106) rfl rfl Try.func16 (by kernel_rfl) rfl #[.slice X2 u.length dX2,.int .i64 a1] rfl sm_ ?_;(with_reducible refine (laws_markIntS.calls kk2 (PT w27 N2 N3 (3 :: (Kd.int .i64).E)) _ u a1 a2 Q3 w _ HL.out.hb ?s1 hk2.out).mono ?_);(case s1=>exact row_pt HX2.out);rintro e w28 ⟨rfl,ho,hb,hk⟩;refine ⟨_,rfl,?_⟩;clear ho;have HR : qo (Rows w27 (fun k=>PT w27 N2 N3 (3 :: (Kd.int .i64).E) k)):=⟨rows_pt ts3⟩;replace HL:=qo.mk (HL.out.kept hb hk HR.out);replace HLV:=qo.mk (HLV.out.kept hk HR.out (fun k hp=>by have:=H12.out;have:=hp.1.1;omega));replace HLG:=qo.mk (HLG.out.kept hk HR.out (fun k hp=>by have:=H34.out;have:=hp.1.2;omega));replace HX3:=qo.mk (row_kept HX3.out hk (fun k _ ho _ _ hp=>by have:=hp.1.2;omega));have hc_HL:=two_cells HL.out.b3;have hc_HLV:=two_cells HLV.out.b;have hc_HLG:=two_cells HLG.out.b;clear HX2 HR hb hk))
 go_upto_region 27 with (first|((with_reducible refine gate_callee (f:=17) rfl ?_);refine goesL_ (some 109) rfl rfl Try.func17 (by kernel_rfl) rfl #[.slice X3 M.length dX3,.int .i64 a2] rfl sm_ ?_;(with_reducible refine (laws_markPairS.calls kk3 (PT w28 N3 N4 (69 :: k69.E)) _ M a2 a3 Q4 w _ HL.out.hb ?s1 hk3.out).mono ?_);(case s1=>exact row_pt HX3.out);rintro e w29 ⟨rfl,ho,hb,hk⟩;refine ⟨_,rfl,?_⟩;clear ho;have HR : qo (Rows w28 (fun k=>PT w28 N3 N4 (69 :: k69.E) k)):=⟨rows_pt ts69⟩;replace HL:=qo.mk (HL.out.kept hb hk HR.out);replace HLV:=qo.mk (HLV.out.kept hk HR.out (fun k hp=>by have:=H12.out;have:=H23.out;have:=hp.1.1;omega));replace HLG:=qo.mk (HLG.out.kept hk HR.out (fun k hp=>by have:=hp.1.2;omega));have hc_HL:=two_cells HL.out.b3;have hc_HLV:=two_cells HLV.out.b;have hc_HLG:=two_cells HLG.out.b;clear HX3 HR hb hk))
 go_upto_region 30 with (first|(go_at_call 12;(with_reducible refine (laws_eqDevice.calls ked _ _ r1 _ _ r2 _ _ r1 _ _ r2 true _ ?s1 ?s2 ?s3 ?s4 ?s5 ?s6 ?s7 ?s8 hed.out).mono ?_);(case s1=>exact (Kd.R_reads' HLG.out.r0).2.2);(case s2=>exact (Kd.R_reads' HLG.out.r0).2.1);(case s3=>exact (Kd.R_reads' HLG.out.r1).2.2);(case s4=>exact (Kd.R_reads' HLG.out.r1).2.1);(case s5=>exact (Kd.R_reads' HLV.out.r0).2.2);(case s6=>exact (Kd.R_reads' HLV.out.r0).2.1);(case s7=>exact (Kd.R_reads' HLV.out.r1).2.2);(case s8=>exact (Kd.R_reads' HLV.out.r1).2.1);rintro e w30 ⟨rfl,hb⟩;replace HL:=qo.mk (HL.out.to hb);replace HLV:=qo.mk (HLV.out.to hb);replace HLG:=qo.mk (HLG.out.to hb);clear hb;have hc_HL:=two_cells HL.out.b3;have hc_HLV:=two_cells HLV.out.b;have hc_HLG:=two_cells HLG.out.b)|(go_at_call 13;(with_reducible refine (laws_eqIntS.calls kei _ _ r4 _ _ r4 true _ ?s1 ?s2 ?s3 ?s4 hei.out).mono ?_);(case s1=>exact (Kd.R_reads' HLG.out.r2).2.2);(case s2=>exact (Kd.R_reads' HLG.out.r2).2.1);(case s3=>exact (Kd.R_reads' HLV.out.r3).2.2);(case s4=>exact (Kd.R_reads' HLV.out.r3).2.1);rintro e w31 ⟨rfl,hd_⟩;have hb:=drawn_bl hd_;clear hd_;replace HL:=qo.mk (HL.out.to hb);replace HLV:=qo.mk (HLV.out.to hb);replace HLG:=qo.mk (HLG.out.to hb);clear hb;have hc_HL:=two_cells HL.out.b3;have hc_HLV:=two_cells HLV.out.b;have hc_HLG:=two_cells HLG.out.b))
 go_upto_region 31 with (first|((with_reducible refine gate_callee (f:=15) rfl ?_);refine goesL_ (some 136) rfl rfl Try.func15 (by kernel_rfl) rfl #[.agg #[.slice G0 r1.length dG0,.slice G1 r2.length dG1],.int .i64 1] rfl sm_ ?_;(with_reducible refine (laws_markDevice.calls km1 (PT w31 N4 N5 (9 :: Kd.string.E)) _ r1 (PT w31 N4 N5 (96 :: k96.E)) _ r2 1 b1 Y1 Y2 w _ HL.out.hb ?s1 ?s2 hm1.out).mono ?_);(case s1=>exact row_pt HLG.out.r0);(case s2=>exact row_pt HLG.out.r1);rintro e w32 ⟨rfl,ho0,ho1,hb,hk⟩;refine ⟨_,rfl,?_⟩;have HR : qo (Rows w31 (fun k=>PT w31 N4 N5 (9 :: Kd.string.E) k ∨ PT w31 N4 N5 (96 :: k96.E) k)):=⟨rows_or (rows_pt ts9) (rows_pt ts96)⟩;have HY0:=qo.mk (row_all ho0);have HY1:=qo.mk (row_all ho1);have HY2:=qo.mk (row_ty HLG.out.r2 hk (or_ty (pt_ty d9_3) (pt_ty d96_3)));have HB15:=qo.mk (blk_kept HLG.out.b hk (fun k hp=>by obtain ⟨q,hq,hc⟩:=HR.out k hp;exact ⟨q,hq.2,hc⟩));clear HLG ho0 ho1;have hl0:=(Kd.R_reads' HY0.out).1;have hl1:=(Kd.R_reads' HY1.out).1;rw [hl0] at HY0 HB15;rw [hl1] at HY1 HB15;have HL0:=qo.mk hl0;have HL1:=qo.mk hl1;clear hl0 hl1;replace HL:=qo.mk (HL.out.kept hb hk HR.out);replace HLV:=qo.mk (HLV.out.kept hk HR.out (fun k hp=>by have:=H12.out;have:=H23.out;have:=H34.out;rcases hp with hp|hp <;> (have:=hp.1.1;omega)));have hc_HL:=two_cells HL.out.b3;have hc_HLV:=two_cells HLV.out.b;clear HR hb hk;have hc_15:=two_cells HB15.out))
 go_upto_region 33 with (first|((with_reducible refine gate_callee (f:=16) rfl ?_);refine goesL_ (some 139) rfl rfl Try.func16 (by kernel_rfl) rfl #[.slice G2 r4.length dG2,.int .i64 b1] rfl sm_ ?_;(with_reducible refine (laws_markIntS.calls km2 (PT w32 N4 N5 (3 :: (Kd.int .i64).E)) _ r4 b1 b2 Y3 w _ HL.out.hb ?s1 hm2.out).mono ?_);(case s1=>exact row_pt HY2.out);rintro e w33 ⟨rfl,ho,hb,hk⟩;refine ⟨_,rfl,?_⟩;have HR : qo (Rows w32 (fun k=>PT w32 N4 N5 (3 :: (Kd.int .i64).E) k)):=⟨rows_pt ts3⟩;have n9_:=qo.mk (row_all ho);clear HY2 ho;have HY2:=n9_;clear n9_;have hl2:=(Kd.R_reads' HY2.out).1;rw [hl2] at HY2;have HL2:=qo.mk hl2;clear hl2;replace HL:=qo.mk (HL.out.kept hb hk HR.out);replace HLV:=qo.mk (HLV.out.kept hk HR.out (fun k hp=>by have:=H12.out;have:=H23.out;have:=H34.out;have:=hp.1.1;omega));replace HY0:=qo.mk (row_ty HY0.out hk (pt_ty d3_9));replace HY1:=qo.mk (row_ty HY1.out hk (pt_ty d3_96));replace HB15:=qo.mk (blk_kept HB15.out hk (fun k hp=>by obtain ⟨q,hq,hc⟩:=HR.out k hp;exact ⟨q,hq.2,hc⟩));have hc_HL:=two_cells HL.out.b3;have hc_HLV:=two_cells HLV.out.b;clear HR hb hk;have hc_15:=two_cells HB15.out))
 go_upto_region 36 with (first|(go_at_call 18;(with_reducible refine (laws_heldDevice.calls kh1 _ _ Y1 _ _ Y2 1 b1 _ ?s1 ?s2 ?s3 ?s4 hh1.out).mono ?_);(case s1=>exact (Kd.R_reads' HY0.out).2.2);(case s2=>exact (Kd.R_reads' HY0.out).2.1);(case s3=>exact (Kd.R_reads' HY1.out).2.2);(case s4=>exact (Kd.R_reads' HY1.out).2.1);rintro e w34 ⟨rfl,hb⟩;replace HL:=qo.mk (HL.out.to hb);replace HLV:=qo.mk (HLV.out.to hb);replace HB15:=qo.mk (qm HB15.out hb);replace HY0:=qo.mk (Kd.R_below HY0.out hb);replace HY1:=qo.mk (Kd.R_below HY1.out hb);replace HY2:=qo.mk (Kd.R_below HY2.out hb);clear hb;have hc_HL:=two_cells HL.out.b3;have hc_HLV:=two_cells HLV.out.b;have hc_HB15:=two_cells HB15.out))
 go_upto_region 41 with (first|(go_at_call 19;(with_reducible refine (calls_of_args (congrArg (fun n=>#[Value.slice G2 n dG2,Value.int .i64 b1]) HL2.out) (laws_heldIntS.calls kh2 _ _ Y3 b1 b2 _ ?s1 ?s2 hh2.out)).mono ?_);(case s1=>exact (Kd.R_reads' HY2.out).2.2);(case s2=>exact (Kd.R_reads' HY2.out).2.1);rintro e w35 ⟨rfl,hd_⟩;have hb:=drawn_bl hd_;clear hd_;replace HL:=qo.mk (HL.out.to hb);replace HLV:=qo.mk (HLV.out.to hb);replace HB15:=qo.mk (qm HB15.out hb);replace HY0:=qo.mk (Kd.R_below HY0.out hb);replace HY1:=qo.mk (Kd.R_below HY1.out hb);replace HY2:=qo.mk (Kd.R_below HY2.out hb);clear hb;have hc_HL:=two_cells HL.out.b3;have hc_HLV:=two_cells HLV.out.b;have hc_HB15:=two_cells HB15.out))
 go_upto_region 42 with (first|((with_reducible refine gate_callee (f:=8) rfl ?_);refine goesL_ (some 155) rfl rfl Try.func8 (by kernel_rfl) rfl #[.agg #[.slice A0 l0.length c0,.slice A1 p0.length c1]] rfl sm_ ?_;(with_reducible refine (laws_toDevice.calls ktd _ _ l0 _ _ p0 D1 D2 _ ?s1 H0'.out ?s2 H1'.out htd.out).mono ?_);(case s1=>exact HL.out.c H0.out);(case s2=>exact HL.out.c H1.out);rintro e w36 ⟨v_,v__,rfl,ho0,ho1,hb⟩;refine ⟨_,rfl,?_⟩;have HT0:=qo.mk (Kd.R_lower ho0 (qk HL.out.hb));have HT1:=qo.mk (Kd.R_lower ho1 (qk HL.out.hb));clear ho0 ho1;obtain ⟨T0,dT0,e_⟩:=Kd.R_slice HT0.out;subst e_;obtain ⟨T1,dT1,e_⟩:=Kd.R_slice HT1.out;subst e_;replace HL:=qo.mk (HL.out.to hb);replace HLV:=qo.mk (HLV.out.to hb);replace HB15:=qo.mk (qm HB15.out hb);replace HY0:=qo.mk (Kd.R_below HY0.out hb);replace HY1:=qo.mk (Kd.R_below HY1.out hb);replace HY2:=qo.mk (Kd.R_below HY2.out hb);clear hb;have hc_HL:=two_cells HL.out.b3;have hc_HLV:=two_cells HLV.out.b;have hc_HB15:=two_cells HB15.out)|((with_reducible refine gate_callee (f:=9) rfl ?_);refine goesL_ (some 157) rfl rfl Try.func9 (by kernel_rfl) rfl #[.slice Au u.length cu] rfl sm_ ?_;(with_reducible refine (laws_toIntS.calls ktu _ _ u u _ ?s1 Hu'.out htu.out).mono ?_);(case s1=>exact HL.out.c Hu.out);rintro e w37 ⟨v_,rfl,ho,hb⟩;refine ⟨_,rfl,?_⟩;have HT2:=qo.mk (Kd.R_lower ho (qk HL.out.hb));clear ho;obtain ⟨T2,dT2,e_⟩:=Kd.R_slice HT2.out;subst e_;replace HL:=qo.mk (HL.out.to hb);replace HLV:=qo.mk (HLV.out.to hb);replace HB15:=qo.mk (qm HB15.out hb);replace HY0:=qo.mk (Kd.R_below HY0.out hb);replace HY1:=qo.mk (Kd.R_below HY1.out hb);replace HY2:=qo.mk (Kd.R_below HY2.out hb);replace HT0:=qo.mk (Kd.R_below HT0.out hb);replace HT1:=qo.mk (Kd.R_below HT1.out hb);clear hb;have hc_HL:=two_cells HL.out.b3;have hc_HLV:=two_cells HLV.out.b;have hc_HB15:=two_cells HB15.out)|((with_reducible refine gate_callee (f:=10) rfl ?_);refine goesL_ (some 159) rfl rfl Try.func10 (by kernel_rfl) rfl #[.slice Am m0.length cm] rfl sm_ ?_;(with_reducible refine (laws_toPairS.calls ktm _ _ m0 M _ ?s1 Hm'.out htm.out).mono ?_);(case s1=>exact HL.out.c Hm.out);rintro e w38 ⟨v_,rfl,ho,hb⟩;refine ⟨_,rfl,?_⟩;have HT3:=qo.mk (Kd.R_lower ho (qk HL.out.hb));clear ho;obtain ⟨T3,dT3,e_⟩:=Kd.R_slice HT3.out;subst e_;replace HL:=qo.mk (HL.out.to hb);replace HLV:=qo.mk (HLV.out.to hb);replace HB15:=qo.mk (qm HB15.out hb);replace HY0:=qo.mk (Kd.R_below HY0.out hb);replace HY1:=qo.mk (Kd.R_below HY1.out hb);replace HY2:=qo.mk (Kd.R_below HY2.out hb);replace HT0:=qo.mk (Kd.R_below HT0.out hb);replace HT1:=qo.mk (Kd.R_below HT1.out hb);replace HT2:=qo.mk (Kd.R_below HT2.out hb);clear hb;have hc_HL:=two_cells HL.out.b3;have hc_HLV:=two_cells HLV.out.b;have hc_HB15:=two_cells HB15.out)|((with_reducible refine gate_callee (f:=11) rfl ?_);refine goesL_ (some 160) rfl rfl Try.func11 (by kernel_rfl) rfl #[.agg #[.slice T0 D1.length dT0,.slice T1 D2.length dT1],.slice T2 u.length dT2,.slice T3 M.length dT3] rfl sm_ ?_;(with_reducible refine (impl_tree.calls _ _ D1 _ _ D2 _ _ u _ _ M r1 r2 r3 r4 r5 _ ?s1 ?s2 ?s3 ?s4 ?s5 ?s6 ?s7 ?s8 him.out).mono ?_);(case s1=>exact (Kd.R_reads' HT0.out).2.2);(case s2=>exact (Kd.R_reads' HT0.out).2.1);(case s3=>exact (Kd.R_reads' HT1.out).2.2);(case s4=>exact (Kd.R_reads' HT1.out).2.1);(case s5=>exact (Kd.R_reads' HT2.out).2.2);(case s6=>exact (Kd.R_reads' HT2.out).2.1);(case s7=>exact (Kd.R_reads' HT3.out).2.2);(case s8=>exact (Kd.R_reads' HT3.out).2.1);rintro e w39 ⟨v_,v__,v___,rfl,ho0,ho1,ho2,hb⟩;refine ⟨_,rfl,?_⟩;obtain ⟨K0,dK0,e_⟩:=Kd.R_slice ho0;subst e_;obtain ⟨K1,dK1,e_⟩:=Kd.R_slice ho1;subst e_;obtain ⟨K2,dK2,e_⟩:=Kd.R_slice ho2;subst e_;have HK0:=qo.mk (Kd.R_lower ho0 (qk HL.out.hb));have HK1:=qo.mk (Kd.R_lower ho1 (qk HL.out.hb));have HK2:=qo.mk (Kd.R_lower ho2 (qk HL.out.hb));clear ho0 ho1 ho2 HT0 HT1 HT2 HT3;replace HL:=qo.mk (HL.out.to hb);replace HLV:=qo.mk (HLV.out.to hb);replace HB15:=qo.mk (qm HB15.out hb);replace HY0:=qo.mk (Kd.R_below HY0.out hb);replace HY1:=qo.mk (Kd.R_below HY1.out hb);replace HY2:=qo.mk (Kd.R_below HY2.out hb);clear hb;have hc_HL:=two_cells HL.out.b3;have hc_HLV:=two_cells HLV.out.b;have hc_HB15:=two_cells HB15.out))
 generalize hW : w39.alloc (.cells #[.slice K0 r1.length dK0,.slice K1 r2.length dK1] 32) = w22
 have hb : Bl w39 w22:=by rw [← hW];exact qf (Below.refl _ _) _
 have hbx : w22.heap[w39.heap.size]? = some (.cells #[.slice K0 r1.length dK0,.slice K1 r2.length dK1] 32 (0,0)):=by rw [← hW];exact heap_alloc_new _ _
 generalize hG : w39.heap.size = g22
 rw [hG] at hbx
 clear hW
 clear hG
 have HB22:=qo.mk hbx
 clear hbx
 replace HL:=qo.mk (HL.out.to hb);replace HLV:=qo.mk (HLV.out.to hb);replace HB15:=qo.mk (qm HB15.out hb);replace HY0:=qo.mk (Kd.R_below HY0.out hb);replace HY1:=qo.mk (Kd.R_below HY1.out hb);replace HY2:=qo.mk (Kd.R_below HY2.out hb);replace HK0:=qo.mk (Kd.R_below HK0.out hb);replace HK1:=qo.mk (Kd.R_below HK1.out hb);replace HK2:=qo.mk (Kd.R_below HK2.out hb);clear hb;have hc_HL:=two_cells HL.out.b3;have hc_HLV:=two_cells HLV.out.b;have hc_HB15:=two_cells HB15.out
 have hc_HB22:=two_cells HB22.out
 go_upto_region 45 with (first|((with_reducible refine gate_callee (f:=12) rfl ?_);refine goesL_ (some 167) rfl rfl Try.func12 (by kernel_rfl) rfl #[.agg #[.slice K0 r1.length dK0,.slice K1 r2.length dK1],.agg #[.slice V0 r1.length dV0,.slice V1 r2.length dV1]] rfl sm_ ?_;(with_reducible refine (laws_eqDevice.calls ked _ _ r1 _ _ r2 _ _ r1 _ _ r2 true _ ?s1 ?s2 ?s3 ?s4 ?s5 ?s6 ?s7 ?s8 hed.out).mono ?_);(case s1=>exact (Kd.R_reads' HK0.out).2.2);(case s2=>exact (Kd.R_reads' HK0.out).2.1);(case s3=>exact (Kd.R_reads' HK1.out).2.2);(case s4=>exact (Kd.R_reads' HK1.out).2.1);(case s5=>exact (Kd.R_reads' HLV.out.r0).2.2);(case s6=>exact (Kd.R_reads' HLV.out.r0).2.1);(case s7=>exact (Kd.R_reads' HLV.out.r1).2.2);(case s8=>exact (Kd.R_reads' HLV.out.r1).2.1);rintro e w40 ⟨rfl,hb⟩;refine ⟨_,rfl,?_⟩;replace HL:=qo.mk (HL.out.to hb);replace HLV:=qo.mk (HLV.out.to hb);replace HB15:=qo.mk (qm HB15.out hb);replace HY0:=qo.mk (Kd.R_below HY0.out hb);replace HY1:=qo.mk (Kd.R_below HY1.out hb);replace HY2:=qo.mk (Kd.R_below HY2.out hb);replace HB22:=qo.mk (qm HB22.out hb);replace HK0:=qo.mk (Kd.R_below HK0.out hb);replace HK1:=qo.mk (Kd.R_below HK1.out hb);replace HK2:=qo.mk (Kd.R_below HK2.out hb);clear hb;have hc_HL:=two_cells HL.out.b3;have hc_HLV:=two_cells HLV.out.b;have hc_HB15:=two_cells HB15.out;have hc_HB22:=two_cells HB22.out)|(go_at_call 13;(with_reducible refine (laws_eqIntS.calls kei _ _ r4 _ _ r4 true _ ?s1 ?s2 ?s3 ?s4 hei.out).mono ?_);(case s1=>exact (Kd.R_reads' HK2.out).2.2);(case s2=>exact (Kd.R_reads' HK2.out).2.1);(case s3=>exact (Kd.R_reads' HLV.out.r3).2.2);(case s4=>exact (Kd.R_reads' HLV.out.r3).2.1);rintro e w41 ⟨rfl,hd_⟩;have hb:=drawn_bl hd_;clear hd_;replace HL:=qo.mk (HL.out.to hb);replace HLV:=qo.mk (HLV.out.to hb);replace HB15:=qo.mk (qm HB15.out hb);replace HY0:=qo.mk (Kd.R_below HY0.out hb);replace HY1:=qo.mk (Kd.R_below HY1.out hb);replace HY2:=qo.mk (Kd.R_below HY2.out hb);replace HB22:=qo.mk (qm HB22.out hb);replace HK0:=qo.mk (Kd.R_below HK0.out hb);replace HK1:=qo.mk (Kd.R_below HK1.out hb);replace HK2:=qo.mk (Kd.R_below HK2.out hb);clear hb;have hc_HL:=two_cells HL.out.b3;have hc_HLV:=two_cells HLV.out.b;have hc_HB15:=two_cells HB15.out;have hc_HB22:=two_cells HB22.out))
 go_upto_region 48 with (first|(go_at_call 18;(with_reducible refine (laws_heldDevice.calls kh1 _ _ Y1 _ _ Y2 1 b1 _ ?s1 ?s2 ?s3 ?s4 hh1.out).mono ?_);(case s1=>exact (Kd.R_reads' HY0.out).2.2);(case s2=>exact (Kd.R_reads' HY0.out).2.1);(case s3=>exact (Kd.R_reads' HY1.out).2.2);(case s4=>exact (Kd.R_reads' HY1.out).2.1);rintro e w42 ⟨rfl,hb⟩;replace HL:=qo.mk (HL.out.to hb);replace HLV:=qo.mk (HLV.out.to hb);replace HB15:=qo.mk (qm HB15.out hb);replace HY0:=qo.mk (Kd.R_below HY0.out hb);replace HY1:=qo.mk (Kd.R_below HY1.out hb);replace HY2:=qo.mk (Kd.R_below HY2.out hb);clear hb;have hc_HL:=two_cells HL.out.b3;have hc_HLV:=two_cells HLV.out.b;have hc_HB15:=two_cells HB15.out))
 go_wp2_with (first|(go_at_call 19;(with_reducible refine (calls_of_args (congrArg (fun n=>#[Value.slice G2 n dG2,Value.int .i64 b1]) HL2.out) (laws_heldIntS.calls kh2 _ _ Y3 b1 b2 _ ?s1 ?s2 hh2.out)).mono ?_);(case s1=>exact (Kd.R_reads' HY2.out).2.2);(case s2=>exact (Kd.R_reads' HY2.out).2.1);rintro e w43 ⟨rfl,hd_⟩;have hb:=drawn_bl hd_;clear hd_;replace HL:=qo.mk (HL.out.to hb);replace HLV:=qo.mk (HLV.out.to hb);replace HB15:=qo.mk (qm HB15.out hb);replace HY0:=qo.mk (Kd.R_below HY0.out hb);replace HY1:=qo.mk (Kd.R_below HY1.out hb);replace HY2:=qo.mk (Kd.R_below HY2.out hb);clear hb;have hc_HL:=two_cells HL.out.b3;have hc_HLV:=two_cells HLV.out.b;have hc_HB15:=two_cells HB15.out))
 go_ret
 exact ⟨rfl,HL.out.to.hb⟩
end Go.Proofs.Ytcnoccefdejphaa.QFnExactPlaceTree
