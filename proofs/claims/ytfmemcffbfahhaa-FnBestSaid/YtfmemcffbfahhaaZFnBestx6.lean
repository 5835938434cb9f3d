/- Lean functions for the Go functions that the law FnBest reaches, and that each Go function comes to just its Lean function's answer; by a program of this session. -/
import Derived.Test.YtfmemcffbfahhaaZFnBestx0
import Derived.Test.YtfmemcffbfahhaaZFnBestx2
import Derived.Test.YtfmemcffbfahhaaZFnBestx4
import Derived.Test.YtfmemcffbfahhaaZFnBestx5
namespace Go.Proofs.Ytfmemcffbfahhaa.QFnBest
open Go.RowKit Go.Proofs.YtfmemcffbfahhaaW.PrintWords Go.Proofs.YtfmemcffbfahhaaW.PrintLast Go.Proofs.YtfmemcffbfahhaaW.PrintMore
attribute [local go_sem] max2_int min2_int max_two min_two max_three min_three max_four min_four   -- for this text's walks alone
set_option linter.unusedVariables false
set_option linter.unusedSimpArgs false

/-! ### spec_BestSums: function 38 -/
def spec_BestSums.f (k : Nat) (a0_0 : Int) (l0_1 : List (S36)) : Option (Int × Int × Int × Bool):=(spec_GraphOk.f k a0_0 l0_1).bind fun t181=>(if t181 = true then ((spec_l09Best.f k a0_0 l0_1 0 (([] : List Int))).bind fun bt185=>(some (bt185.1,bt185.2.1,bt185.2.2.1,true))) else (some (0,0,0,false)))
theorem spec_BestSums.mono : ∀ a0 a1 k,LeO (spec_BestSums.f k a0 a1) (spec_BestSums.f (k + 1) a0 a1):=by
 intro a0 a1 k
 unfold spec_BestSums.f
 repeat' first
   | (with_reducible exact spec_GraphOk.mono _ _ _)
   | (with_reducible exact spec_l09Best.mono _ _ _ _ _)
   | (with_reducible exact LeO.refl _)
   | (with_reducible exact LeO.none _)
   | (with_reducible refine LeO.ite ?_ ?_)
   | (with_reducible refine LeO.bind ?_ (fun _=>?_))
   | exact spec_GraphOk.mono _ _ _
   | exact spec_l09Best.mono _ _ _ _ _
   | exact LeO.none _
   | refine LeO.ite ?_ ?_
   | refine LeO.bind ?_ (fun _=>?_)
set_option maxHeartbeats 8000000 in
set_option maxRecDepth 100000 in
theorem spec_BestSums.calls (k : Nat) (a0_0 : Int) (A0_1 : Option Addr) (c0_1 : Nat) (l0_1 : List (S36)) (r1 : Int) (r2 : Int) (r3 : Int) (r4 : Bool) (w : World) (hr0_1 : Kd.C k36 w A0_1 l0_1.length l0_1) (hc0_1 : l0_1.length ≤ c0_1) (h : spec_BestSums.f k a0_0 l0_1 = some (r1,r2,r3,r4)) :
  Calls Try.prog 38 #[.agg #[.int .i64 a0_0,.slice A0_1 l0_1.length c0_1]] w fun e w'=>e = .returned (.tuple #[.agg #[.int .i64 r1,.int .i64 r2,.int .i64 r3],.bool r4]) ∧ Below w.heap.size w w':=by
 have hu26:=Try.underlying26
 have hu72:=Try.underlying72
 have HR0_1:=qn.mk hr0_1
 have HC0_1:=qn.mk hc0_1
 clear hr0_1 hc0_1
 have HB:=qn.mk (Below.refl w.heap.size w)
 have H : ((spec_GraphOk.f k a0_0 l0_1).bind fun t181=>(if t181 = true then ((spec_l09Best.f k a0_0 l0_1 0 (([] : List Int))).bind fun bt185=>(some (bt185.1,bt185.2.1,bt185.2.2.1,true))) else (some (0,0,0,false)))) = some (r1,r2,r3,r4):=h
 clear h
 replace H:=Option.bind_eq_some_iff.mp H
 obtain ⟨t181,A20,H⟩:=H
 replace H : (if t181 = true then ((spec_l09Best.f k a0_0 l0_1 0 (([] : List Int))).bind fun bt185=>(some (bt185.1,bt185.2.1,bt185.2.2.1,true))) else (some (0,0,0,false))) = some (r1,r2,r3,r4):=H
 have A2:=qn.mk A20
 clear A20
 by_cases c3 : t181 = true
 ·subst c3
  have H1 : ((spec_l09Best.f k a0_0 l0_1 0 (([] : List Int))).bind fun bt185=>(some (bt185.1,bt185.2.1,bt185.2.2.1,true))) = some (r1,r2,r3,r4):=by rw [if_pos rfl] at H;exact H
  clear H
  have H:=H1
  clear H1
  obtain ⟨y182,hy182⟩ : ∃ y_ : List Int,y_ = (([] : List Int)):=⟨_,rfl⟩
  replace H : ((spec_l09Best.f k a0_0 l0_1 0 y182).bind fun bt185=>(some (bt185.1,bt185.2.1,bt185.2.2.1,true))) = some (r1,r2,r3,r4):=by first|(rw [hy182];with_reducible exact H)|(have H2_:=(Option.bind_some _ _).symm.trans H;rw [hy182];with_reducible exact H2_)|(have H2_:=(Option.bind_some _ _).symm.trans H;with_reducible exact H2_)|with_reducible exact H|(rw [hy182];exact H)|exact H
  have Ny182:=qn.mk hy182
  clear hy182
  replace H:=Option.bind_eq_some_iff.mp H
  obtain ⟨⟨t185,t186,t187,t188⟩,A40,H⟩:=H
  replace H : (some (t185,t186,t187,true)) = some (r1,r2,r3,r4):=H
  have A4:=qn.mk A40
  clear A40
  simp only [Option.some.injEq,Prod.mk.injEq] at H
  obtain ⟨rfl,rfl,rfl,rfl⟩:=H
  go_enter Try.func38,Try.ntmps38
  go_wp2_with (first|((with_reducible refine gate_dst (N:=1) rfl ?_);refine box_event ?hg (N:=1) ?hd (cs:=#[.int .i64 a0_0,.slice A0_1 l0_1.length c0_1]) (t:=26) ?hr ?_;(case hd=>rfl);(case hg=>rfl);(case hr=>first|(go_simp;done)|(go_simp;rfl));intro gb179 hg w5 hbox hb;have n0_:=hs_ HB hb;have n1_:=qn.mk (hbox);have n2_:=qn.mk ((by rw [hg];exact (qj (by repeat (first|(with_reducible first|exact HB.out|apply qf|apply qa|apply qd)|exact HB.out))) : w.heap.size ≤ gb179));have n3_:=qn.mk ((by rw [hg];exact (qj (by repeat (first|(with_reducible first|exact HB.out|apply qf|apply qa|apply qd)|exact HB.out))) : w.heap.size ≤ gb179));clear HB;have HB:=n0_;have BK179:=n1_;have GW179:=n2_;have GE179:=n3_;clear n0_ n1_ n2_ n3_;clear hb hbox hg)|((with_reducible refine gate_dst (N:=2) rfl ?_);refine box_event ?hg (N:=2) ?hd (cs:=#[.int .i64 0,.int .i64 0,.int .i64 0]) (t:=72) ?hr ?_;(case hd=>rfl);(case hg=>rfl);(case hr=>first|(go_simp;done)|(go_simp;rfl));intro gb180 hg w6 hbox hb;have n0_:=bb_ BK179 hb;have n1_:=hs_ HB hb;have n2_:=qn.mk (hbox);have n3_:=qn.mk ((by rw [hg];exact (qj (by repeat (first|(with_reducible first|exact HB.out|apply qf|apply qa|apply qd|refine qg ?_ GE179.out)|exact HB.out))) : w.heap.size ≤ gb180));have n4_:=qn.mk ((by rw [hg];exact (qj (by repeat (first|(with_reducible first|exact HB.out|apply qf|apply qa|apply qd|refine qg ?_ GE179.out)|exact HB.out))) : w.heap.size ≤ gb180));have n5_:=qn.mk ((by rw [hg];exact nl_ BK179 : gb179 ≠ gb180));have n6_:=qn.mk ((by rw [hg];exact ng_ BK179 : gb180 ≠ gb179));clear BK179;clear HB;have BK179:=n0_;have HB:=n1_;have BK180:=n2_;have GW180:=n3_;have GE180:=n4_;have NB179_180:=n5_;have NB180_179:=n6_;clear n0_ n1_ n2_ n3_ n4_ n5_ n6_;clear hb hbox hg;have hnb7:=NB179_180.out;have hnc7:=NB180_179.out;have hcz8_0 : w6.cell? ⟨gb179,0,none⟩ = some (.int .i64 a0_0):=(qh BK179.out 0).trans rfl;have hcz8_1 : w6.cell? ⟨gb179,1,none⟩ = some (.slice A0_1 l0_1.length c0_1):=(qh BK179.out 1).trans rfl;have hfz8_0:=qi BK179.out 0;have hfz8_1:=qi BK179.out 1)|((with_reducible refine gate_callee (f:=82) rfl ?_);refine goesL_ (some 7) rfl rfl Try.func82 (by kernel_rfl) rfl #[.agg #[.int .i64 a0_0,.slice A0_1 l0_1.length c0_1]] rfl (by (try simp only [List.map_toArray,List.map_cons,List.map_nil]);first|done|rfl|(simp only [List.length_drop,List.length_take];rfl)) ?_;(with_reducible refine (spec_GraphOk.calls k a0_0 _ _ l0_1 true _ ?side1 ?side2 A2.out).mono ?_);(case side1=>repeat (first|exact (Kd.C_below HR0_1.out HB.out)|(with_reducible refine Kd.C_alloc ?_ _)|(with_reducible refine Kd.C_drewN ?_ _)|(with_reducible refine Kd.C_drew ?_)));(case side2=>exact HC0_1.out);rintro e w9 ⟨rfl,hb⟩;refine ⟨_,rfl,?_⟩;have n0_:=bb_ BK179 hb;have n1_:=bb_ BK180 hb;have n2_:=hs_ HB hb;clear BK179;clear BK180;clear HB;have BK179:=n0_;have BK180:=n1_;have HB:=n2_;clear n0_ n1_ n2_;(try clear hb);(try clear hb2);(try clear hk);(try clear hi);have hcz10_0 : w9.cell? ⟨gb179,0,none⟩ = some (.int .i64 a0_0):=(qh BK179.out 0).trans rfl;have hcz10_1 : w9.cell? ⟨gb179,1,none⟩ = some (.slice A0_1 l0_1.length c0_1):=(qh BK179.out 1).trans rfl;have hfz10_0:=qi BK179.out 0;have hfz10_1:=qi BK179.out 1)|((with_reducible refine gate_dst (N:=12) rfl ?_);refine Kd.R_lit (Kd.int .i64) _ 3 ?hg (N:=12) ?hd (xs:=([] : List Int)) (inner:=[]) (ok:=fun _=>True) (okp:=fun _=>True) ?hr ?hp (fun _ hk=>hk) trivial (Below.refl _ _) (Nat.le_refl _) (by simp) ?_;(case hd=>rfl);(case hg=>rfl);(case hr=>first|(go_simp;done)|(go_simp;rfl));(case hp=>exact (Reps.none _ _));intro v183 w11 ho12 hb hg_ hnew_;clear hg_ hnew_;(first|rw [← Ny182.out] at ho12|(simp only [Int.reduceToNat] at ho12;rw [← Ny182.out] at ho12));have n0_:=qn.mk (Kd.R_lower ho12 (qj (by repeat (first|(with_reducible first|exact HB.out|apply qf|apply qa|apply qd|refine qg ?_ GE179.out|refine qg ?_ GE180.out)|exact HB.out))));have n1_:=bb_ BK179 hb;have n2_:=bb_ BK180 hb;have n3_:=hs_ HB hb;clear BK179;clear BK180;clear HB;have HO184:=n0_;have BK179:=n1_;have BK180:=n2_;have HB:=n3_;clear n0_ n1_ n2_ n3_;clear hb ho12;obtain ⟨Ao13,co13,eo13⟩:=Kd.R_slice HO184.out;subst eo13)|((with_reducible refine gate_callee (f:=83) rfl ?_);refine goesL_ (some 13) rfl rfl Try.func83 (by kernel_rfl) rfl #[.agg #[.int .i64 a0_0,.slice A0_1 l0_1.length c0_1],.int .i64 0,.slice Ao13 y182.length co13] rfl (by (try simp only [List.map_toArray,List.map_cons,List.map_nil]);first|done|rfl|(simp only [List.length_drop,List.length_take];rfl)) ?_;(with_reducible refine (spec_l09Best.calls k a0_0 _ _ l0_1 0 _ _ y182 t185 t186 t187 t188 _ ?side1 ?side2 ?side3 ?side4 A4.out).mono ?_);(case side1=>repeat (first|exact (Kd.C_below HR0_1.out HB.out)|(with_reducible refine Kd.C_alloc ?_ _)|(with_reducible refine Kd.C_drewN ?_ _)|(with_reducible refine Kd.C_drew ?_)));(case side2=>exact HC0_1.out);(case side3=>repeat (first|exact (Kd.R_reads' HO184.out).2.2|(with_reducible refine Kd.C_alloc ?_ _)|(with_reducible refine Kd.C_drewN ?_ _)|(with_reducible refine Kd.C_drew ?_)));(case side4=>exact (Kd.R_reads' HO184.out).2.1);rintro e w14 ⟨rfl,hb⟩;refine ⟨_,rfl,?_⟩;have n0_:=rb_ HO184 hb;have n1_:=bb_ BK179 hb;have n2_:=bb_ BK180 hb;have n3_:=hs_ HB hb;clear HO184;clear BK179;clear BK180;clear HB;have HO184:=n0_;have BK179:=n1_;have BK180:=n2_;have HB:=n3_;clear n0_ n1_ n2_ n3_;(try clear hb);(try clear hb2);(try clear hk);(try clear hi))|((with_reducible refine gate_dst (N:=4) rfl ?_);refine box_event ?hg (N:=4) ?hd (cs:=#[.int .i64 0,.int .i64 0,.int .i64 0]) (t:=72) ?hr ?_;(case hd=>rfl);(case hg=>rfl);(case hr=>first|(go_simp;done)|(go_simp;rfl));intro gb189 hg w15 hbox hb;have n0_:=rb_ HO184 hb;have n1_:=bb_ BK179 hb;have n2_:=bb_ BK180 hb;have n3_:=hs_ HB hb;have n4_:=qn.mk (hbox);have n5_:=qn.mk ((by rw [hg];exact (qj (by repeat (first|(with_reducible first|exact HB.out|apply qf|apply qa|apply qd|refine qg ?_ GE179.out|refine qg ?_ GE180.out)|exact HB.out))) : w.heap.size ≤ gb189));have n6_:=qn.mk ((by rw [hg];exact (qj (by repeat (first|(with_reducible first|exact HB.out|apply qf|apply qa|apply qd|refine qg ?_ GE179.out|refine qg ?_ GE180.out)|exact HB.out))) : w.heap.size ≤ gb189));have n7_:=qn.mk ((by rw [hg];exact nl_ BK179 : gb179 ≠ gb189));have n8_:=qn.mk ((by rw [hg];exact ng_ BK179 : gb189 ≠ gb179));have n9_:=qn.mk ((by rw [hg];exact nl_ BK180 : gb180 ≠ gb189));have n10_:=qn.mk ((by rw [hg];exact ng_ BK180 : gb189 ≠ gb180));clear HO184;clear BK179;clear BK180;clear HB;have HO184:=n0_;have BK179:=n1_;have BK180:=n2_;have HB:=n3_;have BK189:=n4_;have GW189:=n5_;have GE189:=n6_;have NB179_189:=n7_;have NB189_179:=n8_;have NB180_189:=n9_;have NB189_180:=n10_;clear n0_ n1_ n2_ n3_ n4_ n5_ n6_ n7_ n8_ n9_ n10_;clear hb hbox hg;have hnb16:=NB189_179.out;have hnc16:=NB179_189.out;have hnb17:=NB189_180.out;have hnc17:=NB180_189.out;have hcz18_0 : w15.cell? ⟨gb189,0,none⟩ = some (.int .i64 0):=(qh BK189.out 0).trans rfl;have hcz18_1 : w15.cell? ⟨gb189,1,none⟩ = some (.int .i64 0):=(qh BK189.out 1).trans rfl;have hcz18_2 : w15.cell? ⟨gb189,2,none⟩ = some (.int .i64 0):=(qh BK189.out 2).trans rfl;have hfz18_0:=qi BK189.out 0;have hfz18_1:=qi BK189.out 1;have hfz18_2:=qi BK189.out 2;have hcz19_0 : w15.cell? ⟨gb180,0,none⟩ = some (.int .i64 0):=(qh BK180.out 0).trans rfl;have hcz19_1 : w15.cell? ⟨gb180,1,none⟩ = some (.int .i64 0):=(qh BK180.out 1).trans rfl;have hcz19_2 : w15.cell? ⟨gb180,2,none⟩ = some (.int .i64 0):=(qh BK180.out 2).trans rfl;have hfz19_0:=qi BK180.out 0;have hfz19_1:=qi BK180.out 1;have hfz19_2:=qi BK180.out 2))
  refine bodyPost_ret (results_ct rfl _ _ gb180 72 #[.int .i64 t185,.int .i64 t186,.int .i64 t187] (0,0) _ rfl (by (with_reducible repeat (first|refine qb ?_ _|refine qe ?_|refine qc ?_ _));refine blk_put (cs:=#[.int .i64 t185,.int .i64 t186,.int .i64 0]) ?_ 2 _ rfl;(with_reducible repeat (first|refine qb ?_ _|refine qe ?_|refine qc ?_ _));refine blk_put (cs:=#[.int .i64 t185,.int .i64 0,.int .i64 0]) ?_ 1 _ rfl;(with_reducible repeat (first|refine qb ?_ _|refine qe ?_|refine qc ?_ _));refine blk_put (cs:=#[.int .i64 0,.int .i64 0,.int .i64 0]) ?_ 0 _ rfl;(with_reducible repeat (first|refine qb ?_ _|refine qe ?_|refine qc ?_ _));refine blk_far ?_ NB180_189.out _;(with_reducible repeat (first|refine qb ?_ _|refine qe ?_|refine qc ?_ _));refine blk_far ?_ NB180_189.out _;(with_reducible repeat (first|refine qb ?_ _|refine qe ?_|refine qc ?_ _));refine blk_far ?_ NB180_189.out _;(with_reducible repeat (first|refine qb ?_ _|refine qe ?_|refine qc ?_ _));exact BK180.out) Try.underlying72 rfl (by kernel_rfl)) rfl ?_
  exact ⟨by first|rfl|(simp [errW_none,errW_some] <;> rfl)|(simp [*,errW_none,errW_some] <;> rfl),by repeat (first|(with_reducible first|exact HB.out|apply qf|apply qa|apply qd|refine qg ?_ GE179.out|refine qg ?_ GE180.out|refine qg ?_ GE189.out)|exact HB.out)⟩
 ·replace c3:=Bool.eq_false_iff.mpr c3
  subst c3
  have H1 : (some (0,0,0,false)) = some (r1,r2,r3,r4):=by rw [if_neg (show ¬ (false = true) by decide)] at H;exact H
  clear H
  have H:=H1
  clear H1
  simp only [Option.some.injEq,Prod.mk.injEq] at H
  obtain ⟨rfl,rfl,rfl,rfl⟩:=H
  go_enter Try.func38,Try.ntmps38
  go_wp2_with (first|((with_reducible refine gate_dst (N:=1) rfl ?_);refine box_event ?hg (N:=1) ?hd (cs:=#[.int .i64 a0_0,.slice A0_1 l0_1.length c0_1]) (t:=26) ?hr ?_;(case hd=>rfl);(case hg=>rfl);(case hr=>first|(go_simp;done)|(go_simp;rfl));intro gb179 hg w20 hbox hb;have n0_:=hs_ HB hb;have n1_:=qn.mk (hbox);have n2_:=qn.mk ((by rw [hg];exact (qj (by repeat (first|(with_reducible first|exact HB.out|apply qf|apply qa|apply qd)|exact HB.out))) : w.heap.size ≤ gb179));have n3_:=qn.mk ((by rw [hg];exact (qj (by repeat (first|(with_reducible first|exact HB.out|apply qf|apply qa|apply qd)|exact HB.out))) : w.heap.size ≤ gb179));clear HB;have HB:=n0_;have BK179:=n1_;have GW179:=n2_;have GE179:=n3_;clear n0_ n1_ n2_ n3_;clear hb hbox hg)|((with_reducible refine gate_dst (N:=2) rfl ?_);refine box_event ?hg (N:=2) ?hd (cs:=#[.int .i64 0,.int .i64 0,.int .i64 0]) (t:=72) ?hr ?_;(case hd=>rfl);(case hg=>rfl);(case hr=>first|(go_simp;done)|(go_simp;rfl));intro gb180 hg w21 hbox hb;have n0_:=bb_ BK179 hb;have n1_:=hs_ HB hb;have n2_:=qn.mk (hbox);have n3_:=qn.mk ((by rw [hg];exact (qj (by repeat (first|(with_reducible first|exact HB.out|apply qf|apply qa|apply qd|refine qg ?_ GE179.out)|exact HB.out))) : w.heap.size ≤ gb180));have n4_:=qn.mk ((by rw [hg];exact (qj (by repeat (first|(with_reducible first|exact HB.out|apply qf|apply qa|apply qd|refine qg ?_ GE179.out)|exact HB.out))) : w.heap.size ≤ gb180));have n5_:=qn.mk ((by rw [hg];exact nl_ BK179 : gb179 ≠ gb180));have n6_:=qn.mk ((by rw [hg];exact ng_ BK179 : gb180 ≠ gb179));clear BK179;clear HB;have BK179:=n0_;have HB:=n1_;have BK180:=n2_;have GW180:=n3_;have GE180:=n4_;have NB179_180:=n5_;have NB180_179:=n6_;clear n0_ n1_ n2_ n3_ n4_ n5_ n6_;clear hb hbox hg;have hnb22:=NB179_180.out;have hnc22:=NB180_179.out;have hcz23_0 : w21.cell? ⟨gb179,0,none⟩ = some (.int .i64 a0_0):=(qh BK179.out 0).trans rfl;have hcz23_1 : w21.cell? ⟨gb179,1,none⟩ = some (.slice A0_1 l0_1.length c0_1):=(qh BK179.out 1).trans rfl;have hfz23_0:=qi BK179.out 0;have hfz23_1:=qi BK179.out 1)|((with_reducible refine gate_callee (f:=82) rfl ?_);refine goesL_ (some 7) rfl rfl Try.func82 (by kernel_rfl) rfl #[.agg #[.int .i64 a0_0,.slice A0_1 l0_1.length c0_1]] rfl (by (try simp only [List.map_toArray,List.map_cons,List.map_nil]);first|done|rfl|(simp only [List.length_drop,List.length_take];rfl)) ?_;(with_reducible refine (spec_GraphOk.calls k a0_0 _ _ l0_1 false _ ?side1 ?side2 A2.out).mono ?_);(case side1=>repeat (first|exact (Kd.C_below HR0_1.out HB.out)|(with_reducible refine Kd.C_alloc ?_ _)|(with_reducible refine Kd.C_drewN ?_ _)|(with_reducible refine Kd.C_drew ?_)));(case side2=>exact HC0_1.out);rintro e w24 ⟨rfl,hb⟩;refine ⟨_,rfl,?_⟩;have n0_:=bb_ BK179 hb;have n1_:=bb_ BK180 hb;have n2_:=hs_ HB hb;clear BK179;clear BK180;clear HB;have BK179:=n0_;have BK180:=n1_;have HB:=n2_;clear n0_ n1_ n2_;(try clear hb);(try clear hb2);(try clear hk);(try clear hi);have hcz25_0 : w24.cell? ⟨gb180,0,none⟩ = some (.int .i64 0):=(qh BK180.out 0).trans rfl;have hcz25_1 : w24.cell? ⟨gb180,1,none⟩ = some (.int .i64 0):=(qh BK180.out 1).trans rfl;have hcz25_2 : w24.cell? ⟨gb180,2,none⟩ = some (.int .i64 0):=(qh BK180.out 2).trans rfl;have hfz25_0:=qi BK180.out 0;have hfz25_1:=qi BK180.out 1;have hfz25_2:=qi BK180.out 2))
  refine bodyPost_ret (results_ct rfl _ _ gb180 72 #[.int .i64 0,.int .i64 0,.int .i64 0] (0,0) _ rfl (by (with_reducible repeat (first|refine qb ?_ _|refine qe ?_|refine qc ?_ _));refine blk_put (cs:=#[.int .i64 0,.int .i64 0,.int .i64 0]) ?_ 2 _ rfl;(with_reducible repeat (first|refine qb ?_ _|refine qe ?_|refine qc ?_ _));refine blk_put (cs:=#[.int .i64 0,.int .i64 0,.int .i64 0]) ?_ 1 _ rfl;(with_reducible repeat (first|refine qb ?_ _|refine qe ?_|refine qc ?_ _));refine blk_put (cs:=#[.int .i64 0,.int .i64 0,.int .i64 0]) ?_ 0 _ rfl;(with_reducible repeat (first|refine qb ?_ _|refine qe ?_|refine qc ?_ _));exact BK180.out) Try.underlying72 rfl (by kernel_rfl)) rfl ?_
  exact ⟨by first|rfl|(simp [errW_none,errW_some] <;> rfl)|(simp [*,errW_none,errW_some] <;> rfl),by repeat (first|(with_reducible first|exact HB.out|apply qf|apply qa|apply qd|refine qg ?_ GE179.out|refine qg ?_ GE180.out)|exact HB.out)⟩

/-- A state of type 140 at block g of W; what its slices lead to came in by w0. -/
def IsS140 (w0 W : World) (g : Nat) (f0 : List Int) (f1 : Int) (f2 : Int) : Prop:=∃ A0 c0,W.heap[g]? = some (.cells #[.slice A0 f0.length c0,.int .i64 f1,.int .i64 f2] 140 (0,0)) ∧ w0.heap.size ≤ g ∧ Kd.C (Kd.int .u8) w0 A0 f0.length f0
theorem IsS140.grown {w0 W : World} {g : Nat} {f0 : List Int} {f1 : Int} {f2 : Int} {W1 : World} {row : Option Nat} (h : IsS140 w0 W g f0 f1 f2) (hw : W.grownBy W1 row) (hne : some g ≠ row) : IsS140 w0 W1 g f0 f1 f2:=by
 obtain ⟨A0,c0,hb,hg,hr0⟩:=h
 exact ⟨A0,c0,blk_grown hb hw hne,hg,hr0⟩
theorem IsS140.kept {w0 W : World} {g : Nat} {f0 : List Int} {f1 : Int} {f2 : Int} {W1 : World} {S : Nat → Prop} (h : IsS140 w0 W g f0 f1 f2) (hk : Kept W W1 S) (hne : ¬ S g) : IsS140 w0 W1 g f0 f1 f2:=by
 obtain ⟨A0,c0,hb,hg,hr0⟩:=h
 exact ⟨A0,c0,blk_kept hb hk hne,hg,hr0⟩
theorem IsS140.below {w0 W : World} {g : Nat} {f0 : List Int} {f1 : Int} {f2 : Int} {W1 : World} (h : IsS140 w0 W g f0 f1 f2) (hw : Below W.heap.size W W1) : IsS140 w0 W1 g f0 f1 f2:=h.grown (grown_of_below hw none) (by simp)
theorem IsS140.alloc {w0 W : World} {g : Nat} {f0 : List Int} {f1 : Int} {f2 : Int} (h : IsS140 w0 W g f0 f1 f2) (o : Obj) : IsS140 w0 (W.alloc o) g f0 f1 f2:=h.below (qf (Below.refl _ _) o)
theorem IsS140.drewN {w0 W : World} {g : Nat} {f0 : List Int} {f1 : Int} {f2 : Int} (h : IsS140 w0 W g f0 f1 f2) (m : Nat) : IsS140 w0 (W.drewN m) g f0 f1 f2:=h
theorem IsS140.drew {w0 W : World} {g : Nat} {f0 : List Int} {f1 : Int} {f2 : Int} (h : IsS140 w0 W g f0 f1 f2) : IsS140 w0 W.drew g f0 f1 f2:=h
theorem IsS140.at_ {w0 W : World} {g : Nat} {f0 : List Int} {f1 : Int} {f2 : Int} {w' : World} {m : Nat} (hq : W.drewN m = w') (h : IsS140 w0 W g f0 f1 f2) : IsS140 w0 w' g f0 f1 f2:=by subst hq;exact IsS140.drewN h m
theorem IsS140.apart {w0 W : World} {g : Nat} {f0 : List Int} {f1 : Int} {f2 : Int} {α : Type} {d : Kd α} {e : Nat} {base : Nat} {ok : Nat → Prop} {v : Value} {xs : List α} (h : IsS140 w0 W g f0 f1 f2) (ho : d.R e W base ok v xs) (ht : ∀ q,q ∈ e :: d.E → q ≠ 140) : d.R e W base (fun k=>ok k ∧ k ≠ g) v xs:=by
 obtain ⟨A0,c0,hb,hg,hr0⟩:=h
 exact Kd.R_types ho hb ht
theorem IsS140.own_ne {w0 W : World} {g : Nat} {f0 : List Int} {f1 : Int} {f2 : Int} {α : Type} {d : Kd α} {e : Nat} {base : Nat} {ok : Nat → Prop} {v : Value} {xs : List α} (h : IsS140 w0 W g f0 f1 f2) (ho : d.R e W base ok v xs) (ht : e ≠ 140) : some g ≠ v.ownBlock:=by
 obtain ⟨A0,c0,hb,hg,hr0⟩:=h
 exact Kd.R_ne ho hb ht
theorem IsS140.lt {w0 W : World} {g : Nat} {f0 : List Int} {f1 : Int} {f2 : Int} (h : IsS140 w0 W g f0 f1 f2) : g < W.heap.size:=by
 obtain ⟨A0,c0,hb,hg,hr0⟩:=h
 exact blk_lt hb
theorem IsS140.ge {w0 W : World} {g : Nat} {f0 : List Int} {f1 : Int} {f2 : Int} (h : IsS140 w0 W g f0 f1 f2) : w0.heap.size ≤ g:=by
 obtain ⟨A0,c0,hb,hg,hr0⟩:=h
 exact hg
theorem IsS140.ne_blk {w0 W : World} {g : Nat} {f0 : List Int} {f1 : Int} {f2 : Int} {a : Nat} {cs : Array Value} {t : TypeId} {fr : Nat × Nat} (h : IsS140 w0 W g f0 f1 f2) (hb2 : W.heap[a]? = some (.cells cs t fr)) (ht : t ≠ 140) : g ≠ a:=by
 obtain ⟨A0,c0,hb,hg,hr0⟩:=h
 rintro rfl
 rw [hb] at hb2
 injection hb2 with hb2
 injection hb2 with _ ht2
 exact ht ht2.symm
theorem IsS140.far {w0 W : World} {g : Nat} {f0 : List Int} {f1 : Int} {f2 : Int} {p : Addr} (h : IsS140 w0 W g f0 f1 f2) (hne : g ≠ p.block) (u : Value) : IsS140 w0 (W.setCell p u) g f0 f1 f2:=by
 obtain ⟨A0,c0,hb,hg,hr0⟩:=h
 exact ⟨A0,c0,blk_far hb hne u,hg,hr0⟩
theorem cellS140_0 {W : World} {g : Nat} {A0 : Option Addr} {c0 : Nat} {f0 : List Int} {f1 : Int} {f2 : Int} (h : W.heap[g]? = some (.cells #[.slice A0 f0.length c0,.int .i64 f1,.int .i64 f2] 140 (0,0))) : W.cell? ⟨g,0,none⟩ = some (.slice A0 f0.length c0):=(qh h 0).trans rfl
theorem cellS140_1 {W : World} {g : Nat} {A0 : Option Addr} {c0 : Nat} {f0 : List Int} {f1 : Int} {f2 : Int} (h : W.heap[g]? = some (.cells #[.slice A0 f0.length c0,.int .i64 f1,.int .i64 f2] 140 (0,0))) : W.cell? ⟨g,1,none⟩ = some (.int .i64 f1):=(qh h 1).trans rfl
theorem IsS140.set_1 {w0 W : World} {g : Nat} {f0 : List Int} {f1 : Int} {f2 : Int} (h : IsS140 w0 W g f0 f1 f2) (x : Int) : IsS140 w0 (W.setCell ⟨g,1,none⟩ (.int .i64 x)) g f0 x f2:=by
 obtain ⟨A0,c0,hb,hg,hr0⟩:=h
 exact ⟨A0,c0,by simpa using blk_set hb 1 (.int .i64 x),hg,hr0⟩
theorem cellS140_2 {W : World} {g : Nat} {A0 : Option Addr} {c0 : Nat} {f0 : List Int} {f1 : Int} {f2 : Int} (h : W.heap[g]? = some (.cells #[.slice A0 f0.length c0,.int .i64 f1,.int .i64 f2] 140 (0,0))) : W.cell? ⟨g,2,none⟩ = some (.int .i64 f2):=(qh h 2).trans rfl
theorem IsS140.set_2 {w0 W : World} {g : Nat} {f0 : List Int} {f1 : Int} {f2 : Int} (h : IsS140 w0 W g f0 f1 f2) (x : Int) : IsS140 w0 (W.setCell ⟨g,2,none⟩ (.int .i64 x)) g f0 f1 x:=by
 obtain ⟨A0,c0,hb,hg,hr0⟩:=h
 exact ⟨A0,c0,by simpa using blk_set hb 2 (.int .i64 x),hg,hr0⟩
theorem IsS140.new (w0 W : World) (A0 : Option Addr) (c0 : Nat) (f0 : List Int) (f1 : Int) (f2 : Int) (hB : Below w0.heap.size w0 W) (hr0 : Kd.C (Kd.int .u8) w0 A0 f0.length f0) : IsS140 w0 (W.alloc (.cells #[.slice A0 f0.length c0,.int .i64 f1,.int .i64 f2] 140)) W.heap.size f0 f1 f2:=⟨A0,c0,by simpa using heap_alloc_new W _,hB.size,hr0⟩

/-! ### spec_l01Byte: function 57 -/
def spec_l01Byte.f (s0_0 : List Int) (s0_1 : Int) (s0_2 : Int) : Option (Int × Int × Int):=if s0_1 < (s0_0.length : Int) then (if 0 ≤ s0_1 then (some (Go.bits .and .i64 (wrap64 ((Go.bits .and .i64 (Go.bits .xor .i64 ((wrap64 ((wrap64 (s0_2 * 6364136223846793005)) + 1442695040888963407)) / 8589934592) ((wrap64 ((wrap64 (s0_2 * 6364136223846793005)) + 1442695040888963407)) / 35184372088832)) 255) + (wrap64 (rd s0_0 s0_1)))) 255,wrap64 (s0_1 + 1),wrap64 ((wrap64 (s0_2 * 6364136223846793005)) + 1442695040888963407))) else (none)) else (some (Go.bits .and .i64 (Go.bits .xor .i64 ((wrap64 ((wrap64 (s0_2 * 6364136223846793005)) + 1442695040888963407)) / 8589934592) ((wrap64 ((wrap64 (s0_2 * 6364136223846793005)) + 1442695040888963407)) / 35184372088832)) 255,s0_1,wrap64 ((wrap64 (s0_2 * 6364136223846793005)) + 1442695040888963407)))
set_option maxHeartbeats 8000000 in
set_option maxRecDepth 100000 in
theorem spec_l01Byte.calls (g : Nat) (s0_0 : List Int) (s0_1 : Int) (s0_2 : Int) (r1 : Int) (r2 : Int) (r3 : Int) (w0 w : World) (hI : IsS140 w0 w g s0_0 s0_1 s0_2) (hB : Below w0.heap.size w0 w) (h : spec_l01Byte.f s0_0 s0_1 s0_2 = some (r1,r2,r3)) :
  Calls Try.prog 57 #[.pointer (some ⟨g,0,none⟩)] w fun e w'=>e = .returned (.int .i64 r1) ∧ IsS140 w0 w' g s0_0 r2 r3 ∧ Below w0.heap.size w0 w' ∧ KeepBut w w' g none:=by
 have HI0:=qn.mk hI
 have HK:=qn.mk (KeepBut.refl w g none)
 have HL:=qn.mk hB.size
 clear hI
 have HW0:=qn.mk hB.size
 have HB:=qn.mk hB
 clear hB
 have H : (if s0_1 < (s0_0.length : Int) then (if 0 ≤ s0_1 then (some (Go.bits .and .i64 (wrap64 ((Go.bits .and .i64 (Go.bits .xor .i64 ((wrap64 ((wrap64 (s0_2 * 6364136223846793005)) + 1442695040888963407)) / 8589934592) ((wrap64 ((wrap64 (s0_2 * 6364136223846793005)) + 1442695040888963407)) / 35184372088832)) 255) + (wrap64 (rd s0_0 s0_1)))) 255,wrap64 (s0_1 + 1),wrap64 ((wrap64 (s0_2 * 6364136223846793005)) + 1442695040888963407))) else (none)) else (some (Go.bits .and .i64 (Go.bits .xor .i64 ((wrap64 ((wrap64 (s0_2 * 6364136223846793005)) + 1442695040888963407)) / 8589934592) ((wrap64 ((wrap64 (s0_2 * 6364136223846793005)) + 1442695040888963407)) / 35184372088832)) 255,s0_1,wrap64 ((wrap64 (s0_2 * 6364136223846793005)) + 1442695040888963407)))) = some (r1,r2,r3):=h
 clear h
 by_cases c2 : s0_1 < (s0_0.length : Int)
 ·rw [if_pos c2] at H
  have c2b0 : decide (s0_1 < (s0_0.length : Int)) = true:=decide_eq_true c2
  clear c2
  by_cases c3 : 0 ≤ s0_1
  ·rw [if_pos c3] at H
   have c3b0 : decide (0 ≤ s0_1) = true:=decide_eq_true c3
   clear c3
   simp only [Option.some.injEq,Prod.mk.injEq] at H
   obtain ⟨rfl,rfl,rfl⟩:=H
   obtain ⟨ASz4_0,cSz4_0,HGz4,hgz4,HSz4_0⟩:=HI0.out
   have hcz4_0:=cellS140_0 HGz4
   have hcz4_1:=cellS140_1 HGz4
   have hcz4_2:=cellS140_2 HGz4
   have hfz4_1:=qi HGz4 1
   have hfz4_2:=qi HGz4 2
   clear HGz4 hgz4
   have p194 : 0 ≤ (s0_1 : Int):=of_decide_eq_true (by first|(with_reducible assumption)|assumption)
   have q194 : s0_1 < (s0_0.length : Int):=of_decide_eq_true (by first|(with_reducible assumption)|assumption)
   obtain ⟨ad194,e194,hx194_0⟩:=Kd.at_int HSz4_0 s0_1 p194 q194
   cases e194
   have hn194_0 : ad194.block ≠ g:=Nat.ne_of_lt (Nat.lt_of_lt_of_le (by have:=World.block_lt_of_cell? _ _ hx194_0;first|rwa [qk] at this|exact this) (IsS140.ge HI0.out))
   replace hx194_0:=pw_cell_below HB.out hx194_0
   replace hx194_0:=(cell_far (p:=⟨g,2,none⟩) (by first|(rw [qk];exact hn194_0)|(show (Addr.add _ _).block ≠ _;rw [qk];exact hn194_0)|exact hn194_0) (.int .i64 (wrap64 ((wrap64 (s0_2 * 6364136223846793005)) + 1442695040888963407)))).trans hx194_0
   (try have hy194_0:=fun (n_ : Nat)=>(show (((w.drewN n_).setCell ⟨g,2,none⟩ (.int .i64 (wrap64 ((wrap64 (s0_2 * 6364136223846793005)) + 1442695040888963407))))).cell? _ = some _ from hx194_0))
   clear hn194_0
   replace p194:=eq_true p194
   replace q194:=eq_true q194
   go_enter Try.func57,Try.ntmps57
   go_wp2
   repeat (go_quiet (fail);try go_wp2)
   go_ret
   exact ⟨by first|rfl|(simp [errW_none,errW_some] <;> rfl)|(simp [*,errW_none,errW_some] <;> rfl),by repeat (first|(with_reducible first|exact HI0.out|apply IsS140.alloc|apply IsS140.drewN|apply IsS140.drew|apply IsS140.set_1|apply IsS140.set_2)|exact HI0.out),by repeat (first|(with_reducible first|exact HB.out|apply qf|apply qa|apply qd|refine qg ?_ (IsS140.ge HI0.out))|exact HB.out),by repeat (first|(with_reducible first|exact HK.out|apply KeepBut.set_|apply keep_drewN|apply keep_drew|apply keep_alloc)|exact HK.out)⟩
  ·rw [if_neg c3] at H
   exact absurd H (by simp)
 ·rw [if_neg c2] at H
  have c2b0 : decide (s0_1 < (s0_0.length : Int)) = false:=decide_eq_false c2
  clear c2
  simp only [Option.some.injEq,Prod.mk.injEq] at H
  obtain ⟨rfl,rfl,rfl⟩:=H
  obtain ⟨ASz5_0,cSz5_0,HGz5,hgz5,HSz5_0⟩:=HI0.out
  have hcz5_0:=cellS140_0 HGz5
  have hcz5_1:=cellS140_1 HGz5
  have hcz5_2:=cellS140_2 HGz5
  have hfz5_1:=qi HGz5 1
  have hfz5_2:=qi HGz5 2
  clear HGz5 hgz5
  go_enter Try.func57,Try.ntmps57
  go_wp2
  repeat (go_quiet (fail);try go_wp2)
  go_ret
  exact ⟨by first|rfl|(simp [errW_none,errW_some] <;> rfl)|(simp [*,errW_none,errW_some] <;> rfl),by repeat (first|(with_reducible first|exact HI0.out|apply IsS140.alloc|apply IsS140.drewN|apply IsS140.drew|apply IsS140.set_1|apply IsS140.set_2)|exact HI0.out),by repeat (first|(with_reducible first|exact HB.out|apply qf|apply qa|apply qd|refine qg ?_ (IsS140.ge HI0.out))|exact HB.out),by repeat (first|(with_reducible first|exact HK.out|apply KeepBut.set_|apply keep_drewN|apply keep_drew|apply keep_alloc)|exact HK.out)⟩

/-! ### spec_l01Below: function 58 -/
def spec_l01Below.f (s0_0 : List Int) (s0_1 : Int) (s0_2 : Int) (a1 : Int) : Option (Int × Int × Int):=if a1 ≤ 0 then (some (0,s0_1,s0_2)) else (if a1 ≤ 256 then ((spec_l01Byte.f s0_0 s0_1 s0_2).bind fun bt195=>(if a1 = 0 then (none) else (some (Int.tmod bt195.1 a1,bt195.2.1,bt195.2.2)))) else ((spec_l01Byte.f s0_0 s0_1 s0_2).bind fun bt198=>((spec_l01Byte.f s0_0 bt198.2.1 bt198.2.2).bind fun bt201=>((spec_l01Byte.f s0_0 bt201.2.1 bt201.2.2).bind fun bt204=>((spec_l01Byte.f s0_0 bt204.2.1 bt204.2.2).bind fun bt207=>(if a1 = 0 then (none) else (some (Int.tmod (wrap64 ((wrap64 ((wrap64 ((wrap64 (bt198.1 * 16777216)) + (wrap64 (bt201.1 * 65536)))) + (wrap64 (bt204.1 * 256)))) + bt207.1)) a1,bt207.2.1,bt207.2.2))))))))
set_option maxHeartbeats 8000000 in
set_option maxRecDepth 100000 in
theorem spec_l01Below.calls (g : Nat) (s0_0 : List Int) (s0_1 : Int) (s0_2 : Int) (a1 : Int) (r1 : Int) (r2 : Int) (r3 : Int) (w0 w : World) (hI : IsS140 w0 w g s0_0 s0_1 s0_2) (hB : Below w0.heap.size w0 w) (h : spec_l01Below.f s0_0 s0_1 s0_2 a1 = some (r1,r2,r3)) :
  Calls Try.prog 58 #[.pointer (some ⟨g,0,none⟩),.int .i64 a1] w fun e w'=>e = .returned (.int .i64 r1) ∧ IsS140 w0 w' g s0_0 r2 r3 ∧ Below w0.heap.size w0 w' ∧ KeepBut w w' g none:=by
 have HI0:=qn.mk hI
 have HK:=qn.mk (KeepBut.refl w g none)
 have HL:=qn.mk hB.size
 clear hI
 have HW0:=qn.mk hB.size
 have HB:=qn.mk hB
 clear hB
 have H : (if a1 ≤ 0 then (some (0,s0_1,s0_2)) else (if a1 ≤ 256 then ((spec_l01Byte.f s0_0 s0_1 s0_2).bind fun bt195=>(if a1 = 0 then (none) else (some (Int.tmod bt195.1 a1,bt195.2.1,bt195.2.2)))) else ((spec_l01Byte.f s0_0 s0_1 s0_2).bind fun bt198=>((spec_l01Byte.f s0_0 bt198.2.1 bt198.2.2).bind fun bt201=>((spec_l01Byte.f s0_0 bt201.2.1 bt201.2.2).bind fun bt204=>((spec_l01Byte.f s0_0 bt204.2.1 bt204.2.2).bind fun bt207=>(if a1 = 0 then (none) else (some (Int.tmod (wrap64 ((wrap64 ((wrap64 ((wrap64 (bt198.1 * 16777216)) + (wrap64 (bt201.1 * 65536)))) + (wrap64 (bt204.1 * 256)))) + bt207.1)) a1,bt207.2.1,bt207.2.2))))))))) = some (r1,r2,r3):=h
 clear h
 by_cases c3 : a1 ≤ 0
 ·rw [if_pos c3] at H
  have c3b0 : decide (a1 ≤ 0) = true:=decide_eq_true c3
  clear c3
  simp only [Option.some.injEq,Prod.mk.injEq] at H
  obtain ⟨rfl,rfl,rfl⟩:=H
  go_enter Try.func58,Try.ntmps58
  go_wp2
  go_ret
  exact ⟨by first|rfl|(simp [errW_none,errW_some] <;> rfl)|(simp [*,errW_none,errW_some] <;> rfl),by repeat (first|(with_reducible first|exact HI0.out|apply IsS140.alloc|apply IsS140.drewN|apply IsS140.drew|apply IsS140.set_1|apply IsS140.set_2)|exact HI0.out),by repeat (first|(with_reducible first|exact HB.out|apply qf|apply qa|apply qd|refine qg ?_ (IsS140.ge HI0.out))|exact HB.out),by repeat (first|(with_reducible first|exact HK.out|apply KeepBut.set_|apply keep_drewN|apply keep_drew|apply keep_alloc)|exact HK.out)⟩
 ·rw [if_neg c3] at H
  have c3b0 : decide (a1 ≤ 0) = false:=decide_eq_false c3
  clear c3
  by_cases c4 : a1 ≤ 256
  ·rw [if_pos c4] at H
   have c4b0 : decide (a1 ≤ 256) = true:=decide_eq_true c4
   clear c4
   replace H:=Option.bind_eq_some_iff.mp H
   obtain ⟨⟨t195,t196,t197⟩,A50,H⟩:=H
   replace H : (if a1 = 0 then (none) else (some (Int.tmod t195 a1,t196,t197))) = some (r1,r2,r3):=H
   have A5:=qn.mk A50
   clear A50
   by_cases c6 : a1 = 0
   ·rw [if_pos c6] at H
    exact absurd H (by simp)
   ·rw [if_neg c6] at H
    have c6b0 : (a1 == 0) = false:=beq_eq_false_iff_ne.mpr c6
    have c6b1 : (a1 != 0) = true:=bne_iff_ne.mpr c6
    simp only [Option.some.injEq,Prod.mk.injEq] at H
    obtain ⟨rfl,rfl,rfl⟩:=H
    go_enter Try.func58,Try.ntmps58
    go_wp2_with (first|((with_reducible refine gate_callee (f:=57) rfl ?_);refine goesL_ (some 14) rfl rfl Try.func57 (by kernel_rfl) rfl #[.pointer (some ⟨g,0,none⟩)] rfl (by (try simp only [List.map_toArray,List.map_cons,List.map_nil]);first|done|rfl|(simp only [List.length_drop,List.length_take];rfl)) ?_;(with_reducible refine (spec_l01Byte.calls g s0_0 s0_1 s0_2 t195 t196 t197 w0 _ ?side1 ?side2 A5.out).mono ?_);(case side1=>repeat (first|(with_reducible first|exact HI0.out|apply IsS140.alloc|apply IsS140.drewN|apply IsS140.drew|apply IsS140.set_1|apply IsS140.set_2)|exact HI0.out));(case side2=>repeat (first|(with_reducible first|exact HB.out|apply qf|apply qa|apply qd|refine qg ?_ (IsS140.ge HI0.out))|exact HB.out));rintro e w7 ⟨rfl,hi,hb,hk⟩;refine ⟨_,rfl,?_⟩;have n0_:=qn.mk (KeepBut.trans (by repeat (first|(with_reducible first|exact HK.out|apply KeepBut.set_|apply keep_drewN|apply keep_drew|apply keep_alloc)|exact HK.out)) hk (.inl rfl));have n1_:=qn.mk (hb);have n2_:=qn.mk (hi);clear HK;clear HB;clear HI0;have HK:=n0_;have HB:=n1_;have HI0:=n2_;clear n0_ n1_ n2_;(try clear hb);(try clear hb2);(try clear hk);(try clear hi)))
    go_ret
    exact ⟨by first|rfl|(simp [errW_none,errW_some] <;> rfl)|(simp [*,errW_none,errW_some] <;> rfl),by repeat (first|(with_reducible first|exact HI0.out|apply IsS140.alloc|apply IsS140.drewN|apply IsS140.drew|apply IsS140.set_1|apply IsS140.set_2)|exact HI0.out),by repeat (first|(with_reducible first|exact HB.out|apply qf|apply qa|apply qd|refine qg ?_ (IsS140.ge HI0.out))|exact HB.out),by repeat (first|(with_reducible first|exact HK.out|apply KeepBut.set_|apply keep_drewN|apply keep_drew|apply keep_alloc)|exact HK.out)⟩
  ·rw [if_neg c4] at H
   have c4b0 : decide (a1 ≤ 256) = false:=decide_eq_false c4
   clear c4
   replace H:=Option.bind_eq_some_iff.mp H
   obtain ⟨⟨t198,t199,t200⟩,A80,H⟩:=H
   replace H : ((spec_l01Byte.f s0_0 t199 t200).bind fun bt201=>((spec_l01Byte.f s0_0 bt201.2.1 bt201.2.2).bind fun bt204=>((spec_l01Byte.f s0_0 bt204.2.1 bt204.2.2).bind fun bt207=>(if a1 = 0 then (none) else (some (Int.tmod (wrap64 ((wrap64 ((wrap64 ((wrap64 (t198 * 16777216)) + (wrap64 (bt201.1 * 65536)))) + (wrap64 (bt204.1 * 256)))) + bt207.1)) a1,bt207.2.1,bt207.2.2)))))) = some (r1,r2,r3):=H
   have A8:=qn.mk A80
   clear A80
   replace H:=Option.bind_eq_some_iff.mp H
   obtain ⟨⟨t201,t202,t203⟩,A90,H⟩:=H
   replace H : ((spec_l01Byte.f s0_0 t202 t203).bind fun bt204=>((spec_l01Byte.f s0_0 bt204.2.1 bt204.2.2).bind fun bt207=>(if a1 = 0 then (none) else (some (Int.tmod (wrap64 ((wrap64 ((wrap64 ((wrap64 (t198 * 16777216)) + (wrap64 (t201 * 65536)))) + (wrap64 (bt204.1 * 256)))) + bt207.1)) a1,bt207.2.1,bt207.2.2))))) = some (r1,r2,r3):=H
   have A9:=qn.mk A90
   clear A90
   replace H:=Option.bind_eq_some_iff.mp H
   obtain ⟨⟨t204,t205,t206⟩,A100,H⟩:=H
   replace H : ((spec_l01Byte.f s0_0 t205 t206).bind fun bt207=>(if a1 = 0 then (none) else (some (Int.tmod (wrap64 ((wrap64 ((wrap64 ((wrap64 (t198 * 16777216)) + (wrap64 (t201 * 65536)))) + (wrap64 (t204 * 256)))) + bt207.1)) a1,bt207.2.1,bt207.2.2)))) = some (r1,r2,r3):=H
   have A10:=qn.mk A100
   clear A100
   replace H:=Option.bind_eq_some_iff.mp H
   obtain ⟨⟨t207,t208,t209⟩,A110,H⟩:=H
   replace H : (if a1 = 0 then (none) else (some (Int.tmod (wrap64 ((wrap64 ((wrap64 ((wrap64 (t198 * 16777216)) + (wrap64 (t201 * 65536)))) + (wrap64 (t204 * 256)))) + t207)) a1,t208,t209))) = some (r1,r2,r3):=H
   have A11:=qn.mk A110
   clear A110
   by_cases c12 : a1 = 0
   ·rw [if_pos c12] at H
    exact absurd H (by simp)
   ·rw [if_neg c12] at H
    have c12b0 : (a1 == 0) = false:=beq_eq_false_iff_ne.mpr c12
    have c12b1 : (a1 != 0) = true:=bne_iff_ne.mpr c12
    simp only [Option.some.injEq,Prod.mk.injEq] at H
    obtain ⟨rfl,rfl,rfl⟩:=H
    go_enter Try.func58,Try.ntmps58
    go_wp2_with (first|((with_reducible refine gate_callee (f:=57) rfl ?_);refine goesL_ (some 18) rfl rfl Try.func57 (by kernel_rfl) rfl #[.pointer (some ⟨g,0,none⟩)] rfl (by (try simp only [List.map_toArray,List.map_cons,List.map_nil]);first|done|rfl|(simp only [List.length_drop,List.length_take];rfl)) ?_;(with_reducible refine (spec_l01Byte.calls g s0_0 s0_1 s0_2 t198 t199 t200 w0 _ ?side1 ?side2 A8.out).mono ?_);(case side1=>repeat (first|(with_reducible first|exact HI0.out|apply IsS140.alloc|apply IsS140.drewN|apply IsS140.drew|apply IsS140.set_1|apply IsS140.set_2)|exact HI0.out));(case side2=>repeat (first|(with_reducible first|exact HB.out|apply qf|apply qa|apply qd|refine qg ?_ (IsS140.ge HI0.out))|exact HB.out));rintro e w13 ⟨rfl,hi,hb,hk⟩;refine ⟨_,rfl,?_⟩;have n0_:=qn.mk (KeepBut.trans (by repeat (first|(with_reducible first|exact HK.out|apply KeepBut.set_|apply keep_drewN|apply keep_drew|apply keep_alloc)|exact HK.out)) hk (.inl rfl));have n1_:=qn.mk (hb);have n2_:=qn.mk (hi);clear HK;clear HB;clear HI0;have HK:=n0_;have HB:=n1_;have HI0:=n2_;clear n0_ n1_ n2_;(try clear hb);(try clear hb2);(try clear hk);(try clear hi))|((with_reducible refine gate_callee (f:=57) rfl ?_);refine goesL_ (some 20) rfl rfl Try.func57 (by kernel_rfl) rfl #[.pointer (some ⟨g,0,none⟩)] rfl (by (try simp only [List.map_toArray,List.map_cons,List.map_nil]);first|done|rfl|(simp only [List.length_drop,List.length_take];rfl)) ?_;(with_reducible refine (spec_l01Byte.calls g s0_0 t199 t200 t201 t202 t203 w0 _ ?side1 ?side2 A9.out).mono ?_);(case side1=>repeat (first|(with_reducible first|exact HI0.out|apply IsS140.alloc|apply IsS140.drewN|apply IsS140.drew|apply IsS140.set_1|apply IsS140.set_2)|exact HI0.out));(case side2=>repeat (first|(with_reducible first|exact HB.out|apply qf|apply qa|apply qd|refine qg ?_ (IsS140.ge HI0.out))|exact HB.out));rintro e w14 ⟨rfl,hi,hb,hk⟩;refine ⟨_,rfl,?_⟩;have n0_:=qn.mk (KeepBut.trans (by repeat (first|(with_reducible first|exact HK.out|apply KeepBut.set_|apply keep_drewN|apply keep_drew|apply keep_alloc)|exact HK.out)) hk (.inl rfl));have n1_:=qn.mk (hb);have n2_:=qn.mk (hi);clear HK;clear HB;clear HI0;have HK:=n0_;have HB:=n1_;have HI0:=n2_;clear n0_ n1_ n2_;(try clear hb);(try clear hb2);(try clear hk);(try clear hi))|((with_reducible refine gate_callee (f:=57) rfl ?_);refine goesL_ (some 22) rfl rfl Try.func57 (by kernel_rfl) rfl #[.pointer (some ⟨g,0,none⟩)] rfl (by (try simp only [List.map_toArray,List.map_cons,List.map_nil]);first|done|rfl|(simp only [List.length_drop,List.length_take];rfl)) ?_;(with_reducible refine (spec_l01Byte.calls g s0_0 t202 t203 t204 t205 t206 w0 _ ?side1 ?side2 A10.out).mono ?_);(case side1=>repeat (first|(with_reducible first|exact HI0.out|apply IsS140.alloc|apply IsS140.drewN|apply IsS140.drew|apply IsS140.set_1|apply IsS140.set_2)|exact HI0.out));(case side2=>repeat (first|(with_reducible first|exact HB.out|apply qf|apply qa|apply qd|refine qg ?_ (IsS140.ge HI0.out))|exact HB.out));rintro e w15 ⟨rfl,hi,hb,hk⟩;refine ⟨_,rfl,?_⟩;have n0_:=qn.mk (KeepBut.trans (by repeat (first|(with_reducible first|exact HK.out|apply KeepBut.set_|apply keep_drewN|apply keep_drew|apply keep_alloc)|exact HK.out)) hk (.inl rfl));have n1_:=qn.mk (hb);have n2_:=qn.mk (hi);clear HK;clear HB;clear HI0;have HK:=n0_;have HB:=n1_;have HI0:=n2_;clear n0_ n1_ n2_;(try clear hb);(try clear hb2);(try clear hk);(try clear hi))|((with_reducible refine gate_callee (f:=57) rfl ?_);refine goesL_ (some 24) rfl rfl Try.func57 (by kernel_rfl) rfl #[.pointer (some ⟨g,0,none⟩)] rfl (by (try simp only [List.map_toArray,List.map_cons,List.map_nil]);first|done|rfl|(simp only [List.length_drop,List.length_take];rfl)) ?_;(with_reducible refine (spec_l01Byte.calls g s0_0 t205 t206 t207 t208 t209 w0 _ ?side1 ?side2 A11.out).mono ?_);(case side1=>repeat (first|(with_reducible first|exact HI0.out|apply IsS140.alloc|apply IsS140.drewN|apply IsS140.drew|apply IsS140.set_1|apply IsS140.set_2)|exact HI0.out));(case side2=>repeat (first|(with_reducible first|exact HB.out|apply qf|apply qa|apply qd|refine qg ?_ (IsS140.ge HI0.out))|exact HB.out));rintro e w16 ⟨rfl,hi,hb,hk⟩;refine ⟨_,rfl,?_⟩;have n0_:=qn.mk (KeepBut.trans (by repeat (first|(with_reducible first|exact HK.out|apply KeepBut.set_|apply keep_drewN|apply keep_drew|apply keep_alloc)|exact HK.out)) hk (.inl rfl));have n1_:=qn.mk (hb);have n2_:=qn.mk (hi);clear HK;clear HB;clear HI0;have HK:=n0_;have HB:=n1_;have HI0:=n2_;clear n0_ n1_ n2_;(try clear hb);(try clear hb2);(try clear hk);(try clear hi)))
    go_ret
    exact ⟨by first|rfl|(simp [errW_none,errW_some] <;> rfl)|(simp [*,errW_none,errW_some] <;> rfl),by repeat (first|(with_reducible first|exact HI0.out|apply IsS140.alloc|apply IsS140.drewN|apply IsS140.drew|apply IsS140.set_1|apply IsS140.set_2)|exact HI0.out),by repeat (first|(with_reducible first|exact HB.out|apply qf|apply qa|apply qd|refine qg ?_ (IsS140.ge HI0.out))|exact HB.out),by repeat (first|(with_reducible first|exact HK.out|apply KeepBut.set_|apply keep_drewN|apply keep_drew|apply keep_alloc)|exact HK.out)⟩

/-! ### spec_l01Once: function 76 -/
def spec_l01Once.f (s0_0 : List Int) (s0_1 : Int) (s0_2 : Int) (a1 : Int) : Option (Bool × Int × Int):=(spec_l01Below.f s0_0 s0_1 s0_2 a1).bind fun bt210=>(some ((bt210.1 == 0),bt210.2.1,bt210.2.2))
set_option maxHeartbeats 8000000 in
set_option maxRecDepth 100000 in
theorem spec_l01Once.calls (g : Nat) (s0_0 : List Int) (s0_1 : Int) (s0_2 : Int) (a1 : Int) (r1 : Bool) (r2 : Int) (r3 : Int) (w0 w : World) (hI : IsS140 w0 w g s0_0 s0_1 s0_2) (hB : Below w0.heap.size w0 w) (h : spec_l01Once.f s0_0 s0_1 s0_2 a1 = some (r1,r2,r3)) :
  Calls Try.prog 76 #[.pointer (some ⟨g,0,none⟩),.int .i64 a1] w fun e w'=>e = .returned (.bool r1) ∧ IsS140 w0 w' g s0_0 r2 r3 ∧ Below w0.heap.size w0 w' ∧ KeepBut w w' g none:=by
 have HI0:=qn.mk hI
 have HK:=qn.mk (KeepBut.refl w g none)
 have HL:=qn.mk hB.size
 clear hI
 have HW0:=qn.mk hB.size
 have HB:=qn.mk hB
 clear hB
 have H : ((spec_l01Below.f s0_0 s0_1 s0_2 a1).bind fun bt210=>(some ((bt210.1 == 0),bt210.2.1,bt210.2.2))) = some (r1,r2,r3):=h
 clear h
 replace H:=Option.bind_eq_some_iff.mp H
 obtain ⟨⟨t210,t211,t212⟩,A30,H⟩:=H
 replace H : (some ((t210 == 0),t211,t212)) = some (r1,r2,r3):=H
 have A3:=qn.mk A30
 clear A30
 simp only [Option.some.injEq,Prod.mk.injEq] at H
 obtain ⟨rfl,rfl,rfl⟩:=H
 go_enter Try.func76,Try.ntmps76
 go_wp2_with (first|((with_reducible refine gate_callee (f:=58) rfl ?_);refine goesL_ (some 7) rfl rfl Try.func58 (by kernel_rfl) rfl #[.pointer (some ⟨g,0,none⟩),.int .i64 a1] rfl (by (try simp only [List.map_toArray,List.map_cons,List.map_nil]);first|done|rfl|(simp only [List.length_drop,List.length_take];rfl)) ?_;(with_reducible refine (spec_l01Below.calls g s0_0 s0_1 s0_2 a1 t210 t211 t212 w0 _ ?side1 ?side2 A3.out).mono ?_);(case side1=>repeat (first|(with_reducible first|exact HI0.out|apply IsS140.alloc|apply IsS140.drewN|apply IsS140.drew|apply IsS140.set_1|apply IsS140.set_2)|exact HI0.out));(case side2=>repeat (first|(with_reducible first|exact HB.out|apply qf|apply qa|apply qd|refine qg ?_ (IsS140.ge HI0.out))|exact HB.out));rintro e w4 ⟨rfl,hi,hb,hk⟩;refine ⟨_,rfl,?_⟩;have n0_:=qn.mk (KeepBut.trans (by repeat (first|(with_reducible first|exact HK.out|apply KeepBut.set_|apply keep_drewN|apply keep_drew|apply keep_alloc)|exact HK.out)) hk (.inl rfl));have n1_:=qn.mk (hb);have n2_:=qn.mk (hi);clear HK;clear HB;clear HI0;have HK:=n0_;have HB:=n1_;have HI0:=n2_;clear n0_ n1_ n2_;(try clear hb);(try clear hb2);(try clear hk);(try clear hi)))
 go_ret
 exact ⟨by first|rfl|(simp [errW_none,errW_some] <;> rfl)|(simp [*,errW_none,errW_some] <;> rfl),by repeat (first|(with_reducible first|exact HI0.out|apply IsS140.alloc|apply IsS140.drewN|apply IsS140.drew|apply IsS140.set_1|apply IsS140.set_2)|exact HI0.out),by repeat (first|(with_reducible first|exact HB.out|apply qf|apply qa|apply qd|refine qg ?_ (IsS140.ge HI0.out))|exact HB.out),by repeat (first|(with_reducible first|exact HK.out|apply KeepBut.set_|apply keep_drewN|apply keep_drew|apply keep_alloc)|exact HK.out)⟩

/-! ### spec_l01PickInt: function 102 -/
def spec_l01PickInt.f (s0_0 : List Int) (s0_1 : Int) (s0_2 : Int) (l1 : List Int) : Option (Int × Int × Int):=(spec_l01Below.f s0_0 s0_1 s0_2 (l1.length : Int)).bind fun bt213=>(if 0 ≤ bt213.1 then (if bt213.1 < (l1.length : Int) then (some (rd l1 bt213.1,bt213.2.1,bt213.2.2)) else (none)) else (none))
set_option maxHeartbeats 8000000 in
set_option maxRecDepth 100000 in
theorem spec_l01PickInt.calls (g : Nat) (s0_0 : List Int) (s0_1 : Int) (s0_2 : Int) (A1 : Option Addr) (c1 : Nat) (l1 : List Int) (r1 : Int) (r2 : Int) (r3 : Int) (w0 w : World) (hI : IsS140 w0 w g s0_0 s0_1 s0_2) (hB : Below w0.heap.size w0 w) (hr1 : Kd.C (Kd.int .i64) w A1 l1.length l1) (hc1 : l1.length ≤ c1) (hf1 : ∀ ad,A1 = some ad → 0 < l1.length → ad.block ≠ g) (h : spec_l01PickInt.f s0_0 s0_1 s0_2 l1 = some (r1,r2,r3)) :
  Calls Try.prog 102 #[.pointer (some ⟨g,0,none⟩),.slice A1 l1.length c1] w fun e w'=>e = .returned (.int .i64 r1) ∧ IsS140 w0 w' g s0_0 r2 r3 ∧ Below w0.heap.size w0 w' ∧ KeepBut w w' g none:=by
 have HR1:=qn.mk hr1
 have HC1:=qn.mk hc1
 clear hr1 hc1
 have HI0:=qn.mk hI
 have HK:=qn.mk (KeepBut.refl w g none)
 have HL:=qn.mk hB.size
 clear hI
 have HW0:=qn.mk hB.size
 have HB:=qn.mk hB
 clear hB
 have H : ((spec_l01Below.f s0_0 s0_1 s0_2 (l1.length : Int)).bind fun bt213=>(if 0 ≤ bt213.1 then (if bt213.1 < (l1.length : Int) then (some (rd l1 bt213.1,bt213.2.1,bt213.2.2)) else (none)) else (none))) = some (r1,r2,r3):=h
 clear h
 replace H:=Option.bind_eq_some_iff.mp H
 obtain ⟨⟨t213,t214,t215⟩,A30,H⟩:=H
 replace H : (if 0 ≤ t213 then (if t213 < (l1.length : Int) then (some (rd l1 t213,t214,t215)) else (none)) else (none)) = some (r1,r2,r3):=H
 have A3:=qn.mk A30
 clear A30
 by_cases c4 : 0 ≤ t213
 ·rw [if_pos c4] at H
  have c4b0 : decide (0 ≤ t213) = true:=decide_eq_true c4
  clear c4
  by_cases c5 : t213 < (l1.length : Int)
  ·rw [if_pos c5] at H
   have c5b0 : decide (t213 < (l1.length : Int)) = true:=decide_eq_true c5
   clear c5
   simp only [Option.some.injEq,Prod.mk.injEq] at H
   obtain ⟨rfl,rfl,rfl⟩:=H
   go_enter Try.func102,Try.ntmps102
   go_wp2_with (first|((with_reducible refine gate_callee (f:=58) rfl ?_);refine goesL_ (some 9) rfl rfl Try.func58 (by kernel_rfl) rfl #[.pointer (some ⟨g,0,none⟩),.int .i64 (l1.length : Int)] rfl (by (try simp only [List.map_toArray,List.map_cons,List.map_nil]);first|done|rfl|(simp only [List.length_drop,List.length_take];rfl)) ?_;(with_reducible refine (spec_l01Below.calls g s0_0 s0_1 s0_2 (l1.length : Int) t213 t214 t215 w0 _ ?side1 ?side2 A3.out).mono ?_);(case side1=>repeat (first|(with_reducible first|exact HI0.out|apply IsS140.alloc|apply IsS140.drewN|apply IsS140.drew|apply IsS140.set_1|apply IsS140.set_2)|exact HI0.out));(case side2=>repeat (first|(with_reducible first|exact HB.out|apply qf|apply qa|apply qd|refine qg ?_ (IsS140.ge HI0.out))|exact HB.out));rintro e w6 ⟨rfl,hi,hb,hk⟩;refine ⟨_,rfl,?_⟩;have n0_:=qn.mk (KeepBut.trans (by repeat (first|(with_reducible first|exact HK.out|apply KeepBut.set_|apply keep_drewN|apply keep_drew|apply keep_alloc)|exact HK.out)) hk (.inl rfl));have n1_:=qn.mk (hb);have n2_:=qn.mk (hi);clear HK;clear HB;clear HI0;have HK:=n0_;have HB:=n1_;have HI0:=n2_;clear n0_ n1_ n2_;(try clear hb);(try clear hb2);(try clear hk);(try clear hi);have p216 : 0 ≤ (t213 : Int):=of_decide_eq_true (by first|(with_reducible assumption)|assumption);have q216 : t213 < (l1.length : Int):=of_decide_eq_true (by first|(with_reducible assumption)|assumption);obtain ⟨ad216,e216,hx216_0⟩:=Kd.at_int HR1.out t213 p216 q216;cases e216;replace hx216_0:=keep_cell HK.out hx216_0 (by first|(rw [qk];exact hf1 _ rfl (by omega))|exact hf1 _ rfl (by omega)|exact hf1 ad216 rfl (by omega));replace p216:=eq_true p216;replace q216:=eq_true q216))
   go_ret
   exact ⟨by first|rfl|(simp [errW_none,errW_some] <;> rfl)|(simp [*,errW_none,errW_some] <;> rfl),by repeat (first|(with_reducible first|exact HI0.out|apply IsS140.alloc|apply IsS140.drewN|apply IsS140.drew|apply IsS140.set_1|apply IsS140.set_2)|exact HI0.out),by repeat (first|(with_reducible first|exact HB.out|apply qf|apply qa|apply qd|refine qg ?_ (IsS140.ge HI0.out))|exact HB.out),by repeat (first|(with_reducible first|exact HK.out|apply KeepBut.set_|apply keep_drewN|apply keep_drew|apply keep_alloc)|exact HK.out)⟩
  ·rw [if_neg c5] at H
   exact absurd H (by simp)
 ·rw [if_neg c4] at H
  exact absurd H (by simp)

/-! ### spec_l08Graph: function 55 -/
mutual
def spec_l08Graph.l0 : Nat → Int → Int → Int → List Int → Int → Int → Int → List (S36) → Option (Int × (List (S36)) × Int × Int)
 | 0,_,_,_,_,_,_,_,_=>none
 | k + 1,x4,x5,x6,x1000,x1001,x1002,x222000,x222001=>if x6 < x222000 then (spec_l08Graph.l1 k x4 x5 x6 (wrap64 (x6 + 1)) x1000 x1001 x1002 x222000 x222001) else (some (x222000,x222001,x1001,x1002))
def spec_l08Graph.l1 : Nat → Int → Int → Int → Int → List Int → Int → Int → Int → List (S36) → Option (Int × (List (S36)) × Int × Int)
 | 0,_,_,_,_,_,_,_,_,_=>none
 | k + 1,x4,x5,x6,x7,x1000,x1001,x1002,x222000,x222001=>if x7 < x222000 then ((spec_l01Once.f x1000 x1001 x1002 (wrap64 (x4 + 1))).bind fun bt231=>(if bt231.1 = true then (spec_l08Graph.j2 k x4 x5 x6 x7 (x4 == 3) x1000 bt231.2.1 bt231.2.2 x222000 x222001) else (spec_l08Graph.j2 k x4 x5 x6 x7 true x1000 bt231.2.1 bt231.2.2 x222000 x222001))) else (spec_l08Graph.l0 k x4 x5 (wrap64 (x6 + 1)) x1000 x1001 x1002 x222000 x222001)
def spec_l08Graph.j2 : Nat → Int → Int → Int → Int → Bool → List Int → Int → Int → Int → List (S36) → Option (Int × (List (S36)) × Int × Int)
 | 0,_,_,_,_,_,_,_,_,_,_=>none
 | k + 1,x4,x5,x6,x7,x40,x1000,x1001,x1002,x222000,x222001=>if x40 = true then ((spec_l01Below.f x1000 x1001 x1002 x5).bind fun bt234=>((spec_l01Below.f x1000 bt234.2.1 bt234.2.2 x5).bind fun bt237=>((spec_l01Below.f x1000 bt237.2.1 bt237.2.2 x5).bind fun bt240=>(if x5 = 4 then (if x222001.length < 3518437208883 then (spec_l08Graph.l1 k x4 x5 x6 (wrap64 (x7 + 1)) x1000 bt240.2.1 bt240.2.2 x222000 (x222001 ++ [(⟨x6,x7,bt234.1,0,0⟩ : S36)])) else (none)) else (if x222001.length < 3518437208883 then (spec_l08Graph.l1 k x4 x5 x6 (wrap64 (x7 + 1)) x1000 bt240.2.1 bt240.2.2 x222000 (x222001 ++ [(⟨x6,x7,bt234.1,bt237.1,bt240.1⟩ : S36)])) else (none)))))) else (spec_l08Graph.l1 k x4 x5 x6 (wrap64 (x7 + 1)) x1000 x1001 x1002 x222000 x222001)
end
def spec_l08Graph.f (k : Nat) (s0_0 : List Int) (s0_1 : Int) (s0_2 : Int) : Option (Int × (List (S36)) × Int × Int):=(spec_l01Below.f s0_0 s0_1 s0_2 10).bind fun bt218=>((spec_l01Below.f s0_0 bt218.2.1 bt218.2.2 3).bind fun bt222=>((spec_l01PickInt.f s0_0 bt222.2.1 bt222.2.2 (([2,4,51] : List Int))).bind fun bt228=>(spec_l08Graph.l0 k (wrap64 (1 + bt222.1)) bt228.1 0 s0_0 bt228.2.1 bt228.2.2 bt218.1 ([] : List (S36)))))
theorem spec_l08Graph.mono_l : ∀ k,(∀ y0 y1 y2 y3 y4 y5 y6 y7,LeO (spec_l08Graph.l0 k y0 y1 y2 y3 y4 y5 y6 y7) (spec_l08Graph.l0 (k + 1) y0 y1 y2 y3 y4 y5 y6 y7)) ∧ (∀ y0 y1 y2 y3 y4 y5 y6 y7 y8,LeO (spec_l08Graph.l1 k y0 y1 y2 y3 y4 y5 y6 y7 y8) (spec_l08Graph.l1 (k + 1) y0 y1 y2 y3 y4 y5 y6 y7 y8)) ∧ (∀ y0 y1 y2 y3 y4 y5 y6 y7 y8 y9,LeO (spec_l08Graph.j2 k y0 y1 y2 y3 y4 y5 y6 y7 y8 y9) (spec_l08Graph.j2 (k + 1) y0 y1 y2 y3 y4 y5 y6 y7 y8 y9))
 | 0=>⟨fun _ _ _ _ _ _ _ _ r h=>by simp [spec_l08Graph.l0] at h,fun _ _ _ _ _ _ _ _ _ r h=>by simp [spec_l08Graph.l1] at h,fun _ _ _ _ _ _ _ _ _ _ r h=>by simp [spec_l08Graph.j2] at h⟩
 | k + 1=>by
  obtain ⟨ih0,ih1,ih2⟩:=spec_l08Graph.mono_l k
  refine ⟨?_,?_,?_⟩
  ·intro y0 y1 y2 y3 y4 y5 y6 y7
   unfold spec_l08Graph.l0
   repeat' first
   | (with_reducible exact ih0 _ _ _ _ _ _ _ _)
   | (with_reducible exact ih1 _ _ _ _ _ _ _ _ _)
   | (with_reducible exact ih2 _ _ _ _ _ _ _ _ _ _)
   | (with_reducible exact LeO.refl _)
   | (with_reducible exact LeO.none _)
   | (with_reducible refine LeO.ite ?_ ?_)
   | (with_reducible refine LeO.bind ?_ (fun _=>?_))
   | exact ih0 _ _ _ _ _ _ _ _
   | exact ih1 _ _ _ _ _ _ _ _ _
   | exact ih2 _ _ _ _ _ _ _ _ _ _
   | exact LeO.none _
   | refine LeO.ite ?_ ?_
   | refine LeO.bind ?_ (fun _=>?_)
  ·intro y0 y1 y2 y3 y4 y5 y6 y7 y8
   unfold spec_l08Graph.l1
   repeat' first
   | (with_reducible exact ih0 _ _ _ _ _ _ _ _)
   | (with_reducible exact ih1 _ _ _ _ _ _ _ _ _)
   | (with_reducible exact ih2 _ _ _ _ _ _ _ _ _ _)
   | (with_reducible exact LeO.refl _)
   | (with_reducible exact LeO.none _)
   | (with_reducible refine LeO.ite ?_ ?_)
   | (with_reducible refine LeO.bind ?_ (fun _=>?_))
   | exact ih0 _ _ _ _ _ _ _ _
   | exact ih1 _ _ _ _ _ _ _ _ _
   | exact ih2 _ _ _ _ _ _ _ _ _ _
   | exact LeO.none _
   | refine LeO.ite ?_ ?_
   | refine LeO.bind ?_ (fun _=>?_)
  ·intro y0 y1 y2 y3 y4 y5 y6 y7 y8 y9
   unfold spec_l08Graph.j2
   repeat' first
   | (with_reducible exact ih0 _ _ _ _ _ _ _ _)
   | (with_reducible exact ih1 _ _ _ _ _ _ _ _ _)
   | (with_reducible exact ih2 _ _ _ _ _ _ _ _ _ _)
   | (with_reducible exact LeO.refl _)
   | (with_reducible exact LeO.none _)
   | (with_reducible refine LeO.ite ?_ ?_)
   | (with_reducible refine LeO.bind ?_ (fun _=>?_))
   | exact ih0 _ _ _ _ _ _ _ _
   | exact ih1 _ _ _ _ _ _ _ _ _
   | exact ih2 _ _ _ _ _ _ _ _ _ _
   | exact LeO.none _
   | refine LeO.ite ?_ ?_
   | refine LeO.bind ?_ (fun _=>?_)
theorem spec_l08Graph.mono : ∀ a0 a1 a2 k,LeO (spec_l08Graph.f k a0 a1 a2) (spec_l08Graph.f (k + 1) a0 a1 a2):=by
 intro a0 a1 a2 k
 obtain ⟨ih0,ih1,ih2⟩:=spec_l08Graph.mono_l k
 unfold spec_l08Graph.f
 repeat' first
   | (with_reducible exact ih0 _ _ _ _ _ _ _ _)
   | (with_reducible exact ih1 _ _ _ _ _ _ _ _ _)
   | (with_reducible exact ih2 _ _ _ _ _ _ _ _ _ _)
   | (with_reducible exact LeO.refl _)
   | (with_reducible exact LeO.none _)
   | (with_reducible refine LeO.ite ?_ ?_)
   | (with_reducible refine LeO.bind ?_ (fun _=>?_))
   | exact ih0 _ _ _ _ _ _ _ _
   | exact ih1 _ _ _ _ _ _ _ _ _
   | exact ih2 _ _ _ _ _ _ _ _ _ _
   | exact LeO.none _
   | refine LeO.ite ?_ ?_
   | refine LeO.bind ?_ (fun _=>?_)
set_option maxHeartbeats 8000000 in
set_option maxRecDepth 100000 in
theorem spec_l08Graph.calls (k : Nat) (g : Nat) (s0_0 : List Int) (s0_1 : Int) (s0_2 : Int) (r1 : Int) (r2 : List (S36)) (r3 : Int) (r4 : Int) (w0 w : World) (hI : IsS140 w0 w g s0_0 s0_1 s0_2) (hB : Below w0.heap.size w0 w) (h : spec_l08Graph.f k s0_0 s0_1 s0_2 = some (r1,r2,r3,r4)) :
  Calls Try.prog 55 #[.pointer (some ⟨g,0,none⟩)] w fun e w'=>∃ v1_ : Value,e = .returned (.agg #[.int .i64 r1,v1_]) ∧ Kd.R k36 36 w' w.heap.size (fun _=>True) v1_ r2 ∧ IsS140 w0 w' g s0_0 r3 r4 ∧ Below w0.heap.size w0 w' ∧ KeepBut w w' g none:=by
 have hu26:=Try.underlying26
 have hu36:=Try.underlying36
 have HI0:=qn.mk hI
 have HK:=qn.mk (KeepBut.refl w g none)
 have HL:=qn.mk hB.size
 clear hI
 have HW0:=qn.mk hB.size
 have HB:=qn.mk hB
 clear hB
 have H : ((spec_l01Below.f s0_0 s0_1 s0_2 10).bind fun bt218=>((spec_l01Below.f s0_0 bt218.2.1 bt218.2.2 3).bind fun bt222=>((spec_l01PickInt.f s0_0 bt222.2.1 bt222.2.2 (([2,4,51] : List Int))).bind fun bt228=>(spec_l08Graph.l0 k (wrap64 (1 + bt222.1)) bt228.1 0 s0_0 bt228.2.1 bt228.2.2 bt218.1 ([] : List (S36)))))) = some (r1,r2,r3,r4):=h
 clear h
 replace H:=Option.bind_eq_some_iff.mp H
 obtain ⟨⟨t218,t219,t220⟩,A20,H⟩:=H
 replace H : ((spec_l01Below.f s0_0 t219 t220 3).bind fun bt222=>((spec_l01PickInt.f s0_0 bt222.2.1 bt222.2.2 (([2,4,51] : List Int))).bind fun bt228=>(spec_l08Graph.l0 k (wrap64 (1 + bt222.1)) bt228.1 0 s0_0 bt228.2.1 bt228.2.2 t218 ([] : List (S36))))) = some (r1,r2,r3,r4):=H
 have A2:=qn.mk A20
 clear A20
 replace H:=Option.bind_eq_some_iff.mp H
 obtain ⟨⟨t222,t223,t224⟩,A30,H⟩:=H
 replace H : ((spec_l01PickInt.f s0_0 t223 t224 (([2,4,51] : List Int))).bind fun bt228=>(spec_l08Graph.l0 k (wrap64 (1 + t222)) bt228.1 0 s0_0 bt228.2.1 bt228.2.2 t218 ([] : List (S36)))) = some (r1,r2,r3,r4):=H
 have A3:=qn.mk A30
 clear A30
 obtain ⟨y225,hy225⟩ : ∃ y_ : List Int,y_ = (([2,4,51] : List Int)):=⟨_,rfl⟩
 replace H : ((spec_l01PickInt.f s0_0 t223 t224 y225).bind fun bt228=>(spec_l08Graph.l0 k (wrap64 (1 + t222)) bt228.1 0 s0_0 bt228.2.1 bt228.2.2 t218 ([] : List (S36)))) = some (r1,r2,r3,r4):=by first|(rw [hy225];with_reducible exact H)|(have H2_:=(Option.bind_some _ _).symm.trans H;rw [hy225];with_reducible exact H2_)|(have H2_:=(Option.bind_some _ _).symm.trans H;with_reducible exact H2_)|with_reducible exact H|(rw [hy225];exact H)|exact H
 have Ny225:=qn.mk hy225
 clear hy225
 replace H:=Option.bind_eq_some_iff.mp H
 obtain ⟨⟨t228,t229,t230⟩,A40,H⟩:=H
 replace H : (spec_l08Graph.l0 k (wrap64 (1 + t222)) t228 0 s0_0 t229 t230 t218 ([] : List (S36))) = some (r1,r2,r3,r4):=H
 have A4:=qn.mk A40
 clear A40
 have H':=qn.mk H
 clear H
 go_enter Try.func55,Try.ntmps55
 go_wp2_with (first|((with_reducible refine gate_dst (N:=2) rfl ?_);refine box_event ?hg (N:=2) ?hd (cs:=#[.int .i64 0,.slice none 0 0]) (t:=26) ?hr ?_;(case hd=>rfl);(case hg=>rfl);(case hr=>first|(go_simp;done)|(go_simp;rfl));intro gb217 hg w5 hbox hb;have n0_:=qn.mk (IsS140.below (by repeat (first|(with_reducible first|exact HI0.out|apply IsS140.alloc|apply IsS140.drewN|apply IsS140.drew|apply IsS140.set_1|apply IsS140.set_2)|exact HI0.out)) hb);have n1_:=qn.mk (KeepBut.trans (by repeat (first|(with_reducible first|exact HK.out|apply KeepBut.set_|apply keep_drewN|apply keep_drew|apply keep_alloc)|exact HK.out)) (KeepBut.of_below hb g none) (.inl rfl));have n2_:=qn.mk (qm (by repeat (first|(with_reducible first|exact HB.out|apply qf|apply qa|apply qd|refine qg ?_ (IsS140.ge HI0.out))|exact HB.out)) hb);have n3_:=qn.mk (hbox);have n4_:=qn.mk ((by rw [hg];exact (keep_size (w:=w) (g:=g) (row:=none) (by repeat (first|(with_reducible first|exact HK.out|apply KeepBut.set_|apply keep_drewN|apply keep_drew|apply keep_alloc)|exact HK.out))) : w.heap.size ≤ gb217));have n5_:=qn.mk ((Nat.le_trans HW0.out (by rw [hg];exact (keep_size (w:=w) (g:=g) (row:=none) (by repeat (first|(with_reducible first|exact HK.out|apply KeepBut.set_|apply keep_drewN|apply keep_drew|apply keep_alloc)|exact HK.out))) : w.heap.size ≤ gb217) : w0.heap.size ≤ gb217));have n6_:=qn.mk ((by rw [hg];exact Nat.ne_of_lt (IsS140.lt (show IsS140 w0 _ g s0_0 s0_1 s0_2 from by repeat (first|(with_reducible first|exact HI0.out|apply IsS140.alloc|apply IsS140.drewN|apply IsS140.drew|apply IsS140.set_1|apply IsS140.set_2)|exact HI0.out))) : g ≠ gb217));have n7_:=qn.mk ((by rw [hg];exact Nat.ne_of_gt (IsS140.lt (show IsS140 w0 _ g s0_0 s0_1 s0_2 from by repeat (first|(with_reducible first|exact HI0.out|apply IsS140.alloc|apply IsS140.drewN|apply IsS140.drew|apply IsS140.set_1|apply IsS140.set_2)|exact HI0.out))) : gb217 ≠ g));clear HI0;clear HK;clear HB;have HI0:=n0_;have HK:=n1_;have HB:=n2_;have BK217:=n3_;have GW217:=n4_;have GE217:=n5_;have NB0_217:=n6_;have NB217_0:=n7_;clear n0_ n1_ n2_ n3_ n4_ n5_ n6_ n7_;clear hb hbox hg)|((with_reducible refine gate_callee (f:=58) rfl ?_);refine goesL_ (some 10) rfl rfl Try.func58 (by kernel_rfl) rfl #[.pointer (some ⟨g,0,none⟩),.int .i64 10] rfl (by (try simp only [List.map_toArray,List.map_cons,List.map_nil]);first|done|rfl|(simp only [List.length_drop,List.length_take];rfl)) ?_;(with_reducible refine (spec_l01Below.calls g s0_0 s0_1 s0_2 10 t218 t219 t220 w0 _ ?side1 ?side2 A2.out).mono ?_);(case side1=>repeat (first|(with_reducible first|exact HI0.out|apply IsS140.alloc|apply IsS140.drewN|apply IsS140.drew|apply IsS140.set_1|apply IsS140.set_2|refine IsS140.far ?_ NB0_217.out _)|exact HI0.out));(case side2=>repeat (first|(with_reducible first|exact HB.out|apply qf|apply qa|apply qd|refine qg ?_ (IsS140.ge HI0.out)|refine qg ?_ GE217.out)|exact HB.out));rintro e w6 ⟨rfl,hi,hb,hk⟩;refine ⟨_,rfl,?_⟩;have n0_:=qn.mk (KeepBut.blk hk (g':=gb217) (o:=.cells #[.int .i64 0,.slice none 0 0] 26 (0,0)) (by (with_reducible repeat (first|refine qb ?_ _|refine qe ?_|refine qc ?_ _));exact BK217.out) NB217_0.out (by simp));have n1_:=qn.mk (KeepBut.trans (by repeat (first|(with_reducible first|exact HK.out|apply KeepBut.set_|apply keep_drewN|apply keep_drew|apply keep_alloc|refine keep_far ?_ GW217.out _)|exact HK.out)) hk (.inl rfl));have n2_:=qn.mk (hb);have n3_:=qn.mk (hi);clear BK217;clear HK;clear HB;clear HI0;have BK217:=n0_;have HK:=n1_;have HB:=n2_;have HI0:=n3_;clear n0_ n1_ n2_ n3_;(try clear hb);(try clear hb2);(try clear hk);(try clear hi))|((with_reducible refine gate_dst (N:=3) rfl ?_);refine box_event ?hg (N:=3) ?hd (cs:=#[.int .i64 0,.slice none 0 0]) (t:=26) ?hr ?_;(case hd=>rfl);(case hg=>rfl);(case hr=>first|(go_simp;done)|(go_simp;rfl));intro gb221 hg w7 hbox hb;have n0_:=qn.mk (IsS140.below (by repeat (first|(with_reducible first|exact HI0.out|apply IsS140.alloc|apply IsS140.drewN|apply IsS140.drew|apply IsS140.set_1|apply IsS140.set_2|refine IsS140.far ?_ NB0_217.out _)|exact HI0.out)) hb);have n1_:=bb_ BK217 hb;have n2_:=qn.mk (KeepBut.trans (by repeat (first|(with_reducible first|exact HK.out|apply KeepBut.set_|apply keep_drewN|apply keep_drew|apply keep_alloc|refine keep_far ?_ GW217.out _)|exact HK.out)) (KeepBut.of_below hb g none) (.inl rfl));have n3_:=qn.mk (qm (by repeat (first|(with_reducible first|exact HB.out|apply qf|apply qa|apply qd|refine qg ?_ (IsS140.ge HI0.out)|refine qg ?_ GE217.out)|exact HB.out)) hb);have n4_:=qn.mk (hbox);have n5_:=qn.mk ((by rw [hg];exact (keep_size (w:=w) (g:=g) (row:=none) (by repeat (first|(with_reducible first|exact HK.out|apply KeepBut.set_|apply keep_drewN|apply keep_drew|apply keep_alloc|refine keep_far ?_ GW217.out _)|exact HK.out))) : w.heap.size ≤ gb221));have n6_:=qn.mk ((Nat.le_trans HW0.out (by rw [hg];exact (keep_size (w:=w) (g:=g) (row:=none) (by repeat (first|(with_reducible first|exact HK.out|apply KeepBut.set_|apply keep_drewN|apply keep_drew|apply keep_alloc|refine keep_far ?_ GW217.out _)|exact HK.out))) : w.heap.size ≤ gb221) : w0.heap.size ≤ gb221));have n7_:=qn.mk ((by rw [hg];exact nl_ BK217 : gb217 ≠ gb221));have n8_:=qn.mk ((by rw [hg];exact ng_ BK217 : gb221 ≠ gb217));have n9_:=qn.mk ((by rw [hg];exact Nat.ne_of_lt (IsS140.lt (show IsS140 w0 _ g s0_0 t219 t220 from by repeat (first|(with_reducible first|exact HI0.out|apply IsS140.alloc|apply IsS140.drewN|apply IsS140.drew|apply IsS140.set_1|apply IsS140.set_2|refine IsS140.far ?_ NB0_217.out _)|exact HI0.out))) : g ≠ gb221));have n10_:=qn.mk ((by rw [hg];exact Nat.ne_of_gt (IsS140.lt (show IsS140 w0 _ g s0_0 t219 t220 from by repeat (first|(with_reducible first|exact HI0.out|apply IsS140.alloc|apply IsS140.drewN|apply IsS140.drew|apply IsS140.set_1|apply IsS140.set_2|refine IsS140.far ?_ NB0_217.out _)|exact HI0.out))) : gb221 ≠ g));clear HI0;clear BK217;clear HK;clear HB;have HI0:=n0_;have BK217:=n1_;have HK:=n2_;have HB:=n3_;have BK221:=n4_;have GW221:=n5_;have GE221:=n6_;have NB217_221:=n7_;have NB221_217:=n8_;have NB0_221:=n9_;have NB221_0:=n10_;clear n0_ n1_ n2_ n3_ n4_ n5_ n6_ n7_ n8_ n9_ n10_;clear hb hbox hg;have hnb8:=NB221_217.out;have hnc8:=NB217_221.out;have hnb9:=NB221_0.out;have hnc9:=NB0_221.out;have hcz10_0 : w7.cell? ⟨gb221,0,none⟩ = some (.int .i64 0):=(qh BK221.out 0).trans rfl;have hcz10_1 : w7.cell? ⟨gb221,1,none⟩ = some (.slice none 0 0):=(qh BK221.out 1).trans rfl;have hfz10_0:=qi BK221.out 0;have hfz10_1:=qi BK221.out 1)|((with_reducible refine gate_callee (f:=58) rfl ?_);refine goesL_ (some 13) rfl rfl Try.func58 (by kernel_rfl) rfl #[.pointer (some ⟨g,0,none⟩),.int .i64 3] rfl (by (try simp only [List.map_toArray,List.map_cons,List.map_nil]);first|done|rfl|(simp only [List.length_drop,List.length_take];rfl)) ?_;(with_reducible refine (spec_l01Below.calls g s0_0 t219 t220 3 t222 t223 t224 w0 _ ?side1 ?side2 A3.out).mono ?_);(case side1=>repeat (first|(with_reducible first|exact HI0.out|apply IsS140.alloc|apply IsS140.drewN|apply IsS140.drew|apply IsS140.set_1|apply IsS140.set_2|refine IsS140.far ?_ NB0_217.out _|refine IsS140.far ?_ NB0_221.out _)|exact HI0.out));(case side2=>repeat (first|(with_reducible first|exact HB.out|apply qf|apply qa|apply qd|refine qg ?_ (IsS140.ge HI0.out)|refine qg ?_ GE217.out|refine qg ?_ GE221.out)|exact HB.out));rintro e w11 ⟨rfl,hi,hb,hk⟩;refine ⟨_,rfl,?_⟩;have n0_:=qn.mk (KeepBut.blk hk (g':=gb217) (o:=.cells #[.int .i64 0,.slice none 0 0] 26 (0,0)) (by (with_reducible repeat (first|refine qb ?_ _|refine qe ?_|refine qc ?_ _));refine blk_far ?_ NB217_221.out _;(with_reducible repeat (first|refine qb ?_ _|refine qe ?_|refine qc ?_ _));refine blk_far ?_ NB217_221.out _;(with_reducible repeat (first|refine qb ?_ _|refine qe ?_|refine qc ?_ _));exact BK217.out) NB217_0.out (by simp));have n1_:=qn.mk (KeepBut.blk hk (g':=gb221) (o:=.cells #[.int .i64 t218,.slice none 0 0] 26 (0,0)) (by (with_reducible repeat (first|refine qb ?_ _|refine qe ?_|refine qc ?_ _));refine blk_put (cs:=#[.int .i64 t218,.slice none 0 0]) ?_ 1 _ rfl;(with_reducible repeat (first|refine qb ?_ _|refine qe ?_|refine qc ?_ _));refine blk_put (cs:=#[.int .i64 0,.slice none 0 0]) ?_ 0 _ rfl;(with_reducible repeat (first|refine qb ?_ _|refine qe ?_|refine qc ?_ _));exact BK221.out) NB221_0.out (by simp));have n2_:=qn.mk (KeepBut.trans (by repeat (first|(with_reducible first|exact HK.out|apply KeepBut.set_|apply keep_drewN|apply keep_drew|apply keep_alloc|refine keep_far ?_ GW217.out _|refine keep_far ?_ GW221.out _)|exact HK.out)) hk (.inl rfl));have n3_:=qn.mk (hb);have n4_:=qn.mk (hi);clear BK217;clear BK221;clear HK;clear HB;clear HI0;have BK217:=n0_;have BK221:=n1_;have HK:=n2_;have HB:=n3_;have HI0:=n4_;clear n0_ n1_ n2_ n3_ n4_;(try clear hb);(try clear hb2);(try clear hk);(try clear hi))|((with_reducible refine gate_dst (N:=16) rfl ?_);refine Kd.R_lit (Kd.int .i64) _ 3 ?hg (N:=16) ?hd (xs:=([2,4,51] : List Int)) (inner:=[.int .i64 2,.int .i64 4,.int .i64 51]) (ok:=fun _=>True) (okp:=fun _=>True) ?hr ?hp (fun _ hk=>hk) trivial (Below.refl _ _) (Nat.le_refl _) (by simp) ?_;(case hd=>rfl);(case hg=>rfl);(case hr=>first|(go_simp;done)|(go_simp;rfl));(case hp=>exact (Reps.one (show Kd.M (Kd.int .i64) _ _ _ 2 [.int .i64 2] from rfl) (Reps.one (show Kd.M (Kd.int .i64) _ _ _ 4 [.int .i64 4] from rfl) (Reps.one (show Kd.M (Kd.int .i64) _ _ _ 51 [.int .i64 51] from rfl) (Reps.none _ _)))));intro v226 w12 ho13 hb hg_ hnew_;clear hg_ hnew_;(first|rw [← Ny225.out] at ho13|(simp only [Int.reduceToNat] at ho13;rw [← Ny225.out] at ho13));have n0_:=qn.mk (Kd.R_lower ho13 (keep_size (w:=w) (g:=g) (row:=none) (by repeat (first|(with_reducible first|exact HK.out|apply KeepBut.set_|apply keep_drewN|apply keep_drew|apply keep_alloc|refine keep_far ?_ GW217.out _|refine keep_far ?_ GW221.out _)|exact HK.out))));have n1_:=qn.mk (IsS140.below (by repeat (first|(with_reducible first|exact HI0.out|apply IsS140.alloc|apply IsS140.drewN|apply IsS140.drew|apply IsS140.set_1|apply IsS140.set_2|refine IsS140.far ?_ NB0_217.out _|refine IsS140.far ?_ NB0_221.out _)|exact HI0.out)) hb);have n2_:=bb_ BK217 hb;have n3_:=bb_ BK221 hb;have n4_:=qn.mk (KeepBut.trans (by repeat (first|(with_reducible first|exact HK.out|apply KeepBut.set_|apply keep_drewN|apply keep_drew|apply keep_alloc|refine keep_far ?_ GW217.out _|refine keep_far ?_ GW221.out _)|exact HK.out)) (KeepBut.of_below hb g none) (.inl rfl));have n5_:=qn.mk (qm (by repeat (first|(with_reducible first|exact HB.out|apply qf|apply qa|apply qd|refine qg ?_ (IsS140.ge HI0.out)|refine qg ?_ GE217.out|refine qg ?_ GE221.out)|exact HB.out)) hb);clear HI0;clear BK217;clear BK221;clear HK;clear HB;have HO227:=n0_;have HI0:=n1_;have BK217:=n2_;have BK221:=n3_;have HK:=n4_;have HB:=n5_;clear n0_ n1_ n2_ n3_ n4_ n5_;clear hb ho13;obtain ⟨Ao14,co14,eo14⟩:=Kd.R_slice HO227.out;subst eo14)|((with_reducible refine gate_callee (f:=102) rfl ?_);refine goesL_ (some 17) rfl rfl Try.func102 (by kernel_rfl) rfl #[.pointer (some ⟨g,0,none⟩),.slice Ao14 y225.length co14] rfl (by (try simp only [List.map_toArray,List.map_cons,List.map_nil]);first|done|rfl|(simp only [List.length_drop,List.length_take];rfl)) ?_;(with_reducible refine (spec_l01PickInt.calls g s0_0 t223 t224 _ _ y225 t228 t229 t230 w0 _ ?side1 ?side2 ?side3 ?side4 ?side5 A4.out).mono ?_);(case side1=>repeat (first|(with_reducible first|exact HI0.out|apply IsS140.alloc|apply IsS140.drewN|apply IsS140.drew|apply IsS140.set_1|apply IsS140.set_2|refine IsS140.far ?_ NB0_217.out _|refine IsS140.far ?_ NB0_221.out _)|exact HI0.out));(case side2=>repeat (first|(with_reducible first|exact HB.out|apply qf|apply qa|apply qd|refine qg ?_ (IsS140.ge HI0.out)|refine qg ?_ GE217.out|refine qg ?_ GE221.out)|exact HB.out));(case side3=>repeat (first|exact (Kd.R_reads' HO227.out).2.2|(with_reducible refine Kd.C_alloc ?_ _)|(with_reducible refine Kd.C_drewN ?_ _)|(with_reducible refine Kd.C_drew ?_)));(case side4=>exact (Kd.R_reads' HO227.out).2.1);(case side5=>exact far_slice (IsS140.own_ne HI0.out HO227.out (by decide)));rintro e w15 ⟨rfl,hi,hb,hk⟩;refine ⟨_,rfl,?_⟩;have n0_:=qn.mk (KeepBut.blk hk (g':=gb217) (o:=.cells #[.int .i64 0,.slice none 0 0] 26 (0,0)) (by (with_reducible repeat (first|refine qb ?_ _|refine qe ?_|refine qc ?_ _));exact BK217.out) NB217_0.out (by simp));have n1_:=qn.mk (KeepBut.blk hk (g':=gb221) (o:=.cells #[.int .i64 t218,.slice none 0 0] 26 (0,0)) (by (with_reducible repeat (first|refine qb ?_ _|refine qe ?_|refine qc ?_ _));exact BK221.out) NB221_0.out (by simp));have n2_:=qn.mk (Kd.R_mono (Kd.R_keep (IsS140.apart (show IsS140 w0 _ g s0_0 t223 t224 from by repeat (first|(with_reducible first|exact HI0.out|apply IsS140.alloc|apply IsS140.drewN|apply IsS140.drew|apply IsS140.set_1|apply IsS140.set_2|refine IsS140.far ?_ NB0_217.out _|refine IsS140.far ?_ NB0_221.out _)|exact HI0.out)) (by (with_reducible repeat (first|apply Kd.R_alloc|apply Kd.R_drewN|apply Kd.R_drew));exact HO227.out) (by decide)) hk (fun _ h=>h.2)) (fun _ h=>h.1));have n3_:=qn.mk (KeepBut.trans (by repeat (first|(with_reducible first|exact HK.out|apply KeepBut.set_|apply keep_drewN|apply keep_drew|apply keep_alloc|refine keep_far ?_ GW217.out _|refine keep_far ?_ GW221.out _)|exact HK.out)) hk (.inl rfl));have n4_:=qn.mk (hb);have n5_:=qn.mk (hi);clear BK217;clear BK221;clear HO227;clear HK;clear HB;clear HI0;have BK217:=n0_;have BK221:=n1_;have HO227:=n2_;have HK:=n3_;have HB:=n4_;have HI0:=n5_;clear n0_ n1_ n2_ n3_ n4_ n5_;(try clear hb);(try clear hb2);(try clear hk);(try clear hi)))
 go_loopg [6] k (fun kq v6 w'=>∃ (x6_1 : Int) (x1001_1 : Int) (x1002_1 : Int) (x222001_1 : List (S36)) (u222001 : Value),v6 = .int .i64 x6_1 ∧ qn (spec_l08Graph.l0 kq (wrap64 (1 + t222)) t228 x6_1 s0_0 x1001_1 x1002_1 t218 x222001_1 = some (r1,r2,r3,r4)) ∧ qn (kq ≤ k) ∧ qn (Kd.R k36 36 w' w.heap.size (fun _=>True) u222001 x222001_1) ∧ qn (w'.heap[gb217]? = some (.cells #[.int .i64 0,(.slice none 0 0)] 26 (0,0))) ∧ qn (w'.heap[gb221]? = some (.cells #[.int .i64 t218,u222001] 26 (0,0))) ∧ qn (IsS140 w0 w' g s0_0 x1001_1 x1002_1) ∧ qn (KeepBut w w' g none) ∧ qn (Below w0.heap.size w0 w'))
 case atStart=>exact ⟨(0),(t229),(t230),(([] : List (S36))),(.slice none 0 0),(by first|rfl|(simp;done)|(simp [*];done)),H',⟨Nat.le_refl _⟩,⟨by first|exact Kd.R_nil _ _ _ _ _|exact Kd.N_nil _ _ _ _ _|exact Kd.V_nil _ _ _ _ _|exact Kd.Q_nil _ _ _ _ _|exact Kd.S_nil _ _ _ _ _⟩,⟨by (with_reducible repeat (first|refine qb ?_ _|refine qe ?_|refine qc ?_ _));exact BK217.out⟩,⟨by (with_reducible repeat (first|refine qb ?_ _|refine qe ?_|refine qc ?_ _));exact BK221.out⟩,⟨by repeat (first|(with_reducible first|exact HI0.out|apply IsS140.alloc|apply IsS140.drewN|apply IsS140.drew|apply IsS140.set_1|apply IsS140.set_2|refine IsS140.far ?_ NB0_217.out _|refine IsS140.far ?_ NB0_221.out _)|exact HI0.out)⟩,⟨by repeat (first|(with_reducible first|exact HK.out|apply KeepBut.set_|apply keep_drewN|apply keep_drew|apply keep_alloc|refine keep_far ?_ GW217.out _|refine keep_far ?_ GW221.out _)|exact HK.out)⟩,⟨by repeat (first|(with_reducible first|exact HB.out|apply qf|apply qa|apply qd|refine qg ?_ (IsS140.ge HI0.out)|refine qg ?_ GE217.out|refine qg ?_ GE221.out)|exact HB.out)⟩⟩
 case round =>
  clear H'
  try clear c1
  try clear p2
  try clear c5
  try clear p6
  try clear c8
  try clear c9
  try clear c10
  try clear hcz10_0
  try clear hcz10_1
  try clear hfz10_0
  try clear hfz10_1
  obtain ⟨x6_1,x1001_1,x1002_1,x222001_1,u222001,rfl,HA,HK1,HO_222001,BK217,BK221,HI0,HK,HB⟩:=hrel
  cases gk with
  | zero=>exact absurd HA.out (by simp [spec_l08Graph.l0])
  | succ k1 =>
   have H:=HA.out
   clear HA
   simp only [spec_l08Graph.l0] at H
   by_cases c16 : x6_1 < t218
   ·rw [if_pos c16] at H
    have c16b0 : decide (x6_1 < t218) = true:=decide_eq_true c16
    clear c16
    have H':=qn.mk H
    clear H
    have hnb17:=NB221_217.out
    have hnc17:=NB217_221.out
    have hnb18:=NB221_0.out
    have hnc18:=NB0_221.out
    have hcz19_0 : wr.cell? ⟨gb221,0,none⟩ = some (.int .i64 t218):=(qh BK221.out 0).trans rfl
    have hcz19_1 : wr.cell? ⟨gb221,1,none⟩ = some (u222001):=(qh BK221.out 1).trans rfl
    have hfz19_0:=qi BK221.out 0
    have hfz19_1:=qi BK221.out 1
    go_wp2
    go_loopg [7] k1 (fun kq v7 w'=>∃ (x7_2 : Int) (x1001_2 : Int) (x1002_2 : Int) (x222001_2 : List (S36)) (u222001 : Value),v7 = .int .i64 x7_2 ∧ qn (spec_l08Graph.l1 kq (wrap64 (1 + t222)) t228 x6_1 x7_2 s0_0 x1001_2 x1002_2 t218 x222001_2 = some (r1,r2,r3,r4)) ∧ qn (kq ≤ k1) ∧ qn (Kd.R k36 36 w' w.heap.size (fun _=>True) u222001 x222001_2) ∧ qn (w'.heap[gb217]? = some (.cells #[.int .i64 0,(.slice none 0 0)] 26 (0,0))) ∧ qn (w'.heap[gb221]? = some (.cells #[.int .i64 t218,u222001] 26 (0,0))) ∧ qn (IsS140 w0 w' g s0_0 x1001_2 x1002_2) ∧ qn (KeepBut w w' g none) ∧ qn (Below w0.heap.size w0 w'))
    case atStart=>exact ⟨(wrap64 (x6_1 + 1)),(x1001_1),(x1002_1),(x222001_1),(u222001),(by first|rfl|(simp;done)|(simp [*];done)),H',⟨Nat.le_refl _⟩,⟨by (with_reducible repeat (first|apply Kd.R_alloc|apply Kd.R_drewN|apply Kd.R_drew));exact HO_222001.out⟩,⟨by (with_reducible repeat (first|refine qb ?_ _|refine qe ?_|refine qc ?_ _));exact BK217.out⟩,⟨by (with_reducible repeat (first|refine qb ?_ _|refine qe ?_|refine qc ?_ _));exact BK221.out⟩,⟨by repeat (first|(with_reducible first|exact HI0.out|apply IsS140.alloc|apply IsS140.drewN|apply IsS140.drew|apply IsS140.set_1|apply IsS140.set_2|refine IsS140.far ?_ NB0_217.out _|refine IsS140.far ?_ NB0_221.out _)|exact HI0.out)⟩,⟨by repeat (first|(with_reducible first|exact HK.out|apply KeepBut.set_|apply keep_drewN|apply keep_drew|apply keep_alloc|refine keep_far ?_ GW217.out _|refine keep_far ?_ GW221.out _)|exact HK.out)⟩,⟨by repeat (first|(with_reducible first|exact HB.out|apply qf|apply qa|apply qd|refine qg ?_ (IsS140.ge HI0.out)|refine qg ?_ GE217.out|refine qg ?_ GE221.out)|exact HB.out)⟩⟩
    case round =>
     clear H'
     try clear c1
     try clear p2
     try clear c5
     try clear p6
     try clear c8
     try clear c9
     try clear c10
     try clear c16
     try clear c16b0
     try clear c17
     try clear c18
     try clear hcz10_0
     try clear hcz10_1
     try clear hcz19_0
     try clear hcz19_1
     try clear hfz10_0
     try clear hfz10_1
     try clear hfz19_0
     try clear hfz19_1
     try clear p2
     try clear p6
     obtain ⟨x7_2,x1001_2,x1002_2,x222001_2,u222001,rfl,HA,HK2,HO_222001,BK217,BK221,HI0,HK,HB⟩:=hrel
     cases gk with
     | zero=>exact absurd HA.out (by simp [spec_l08Graph.l1])
     | succ k2 =>
      have H:=HA.out
      clear HA
      simp only [spec_l08Graph.l1] at H
      by_cases c20 : x7_2 < t218
      ·rw [if_pos c20] at H
       have c20b0 : decide (x7_2 < t218) = true:=decide_eq_true c20
       clear c20
       have HC21:=qn.mk H
       clear H
       have hnb22:=NB221_217.out
       have hnc22:=NB217_221.out
       have hnb23:=NB221_0.out
       have hnc23:=NB0_221.out
       have hcz24_0 : wr.cell? ⟨gb221,0,none⟩ = some (.int .i64 t218):=(qh BK221.out 0).trans rfl
       have hcz24_1 : wr.cell? ⟨gb221,1,none⟩ = some (u222001):=(qh BK221.out 1).trans rfl
       have hfz24_0:=qi BK221.out 0
       have hfz24_1:=qi BK221.out 1
       go_upto_region 10 with (fail)
       go_cut [40] (fun v40 wc=>∃ (kq : Nat) (x40_20 : Bool) (x1001_20 : Int) (x1002_20 : Int),v40 = .bool x40_20 ∧ qn (spec_l08Graph.j2 kq (wrap64 (1 + t222)) t228 x6_1 x7_2 x40_20 s0_0 x1001_20 x1002_20 t218 x222001_2 = some (r1,r2,r3,r4)) ∧ qn (kq ≤ k2) ∧ qn (Kd.R k36 36 wc w.heap.size (fun _=>True) u222001 x222001_2) ∧ qn (wc.heap[gb217]? = some (.cells #[.int .i64 0,(.slice none 0 0)] 26 (0,0))) ∧ qn (wc.heap[gb221]? = some (.cells #[.int .i64 t218,u222001] 26 (0,0))) ∧ qn (IsS140 w0 wc g s0_0 x1001_20 x1002_20) ∧ qn (KeepBut w wc g none) ∧ qn (Below w0.heap.size w0 wc))
       case first =>
        have H:=HC21.out
        clear HC21
        replace H:=Option.bind_eq_some_iff.mp H
        obtain ⟨⟨t231,t232,t233⟩,A250,H⟩:=H
        replace H : (if t231 = true then (spec_l08Graph.j2 k2 (wrap64 (1 + t222)) t228 x6_1 x7_2 ((wrap64 (1 + t222)) == 3) s0_0 t232 t233 t218 x222001_2) else (spec_l08Graph.j2 k2 (wrap64 (1 + t222)) t228 x6_1 x7_2 true s0_0 t232 t233 t218 x222001_2)) = some (r1,r2,r3,r4):=H
        have A25:=qn.mk A250
        clear A250
        by_cases c26 : t231 = true
        ·subst c26
         have H1 : (spec_l08Graph.j2 k2 (wrap64 (1 + t222)) t228 x6_1 x7_2 ((wrap64 (1 + t222)) == 3) s0_0 t232 t233 t218 x222001_2) = some (r1,r2,r3,r4):=by rw [if_pos rfl] at H;exact H
         clear H
         have H:=H1
         clear H1
         have H':=qn.mk H
         clear H
         go_wp2_with (first|((with_reducible refine gate_callee (f:=76) rfl ?_);refine goesL_ (some 35) rfl rfl Try.func76 (by kernel_rfl) rfl #[.pointer (some ⟨g,0,none⟩),.int .i64 (wrap64 ((wrap64 (1 + t222)) + 1))] rfl (by (try simp only [List.map_toArray,List.map_cons,List.map_nil]);first|done|rfl|(simp only [List.length_drop,List.length_take];rfl)) ?_;(with_reducible refine (spec_l01Once.calls g s0_0 x1001_2 x1002_2 (wrap64 ((wrap64 (1 + t222)) + 1)) true t232 t233 w0 _ ?side1 ?side2 A25.out).mono ?_);(case side1=>repeat (first|(with_reducible first|exact HI0.out|apply IsS140.alloc|apply IsS140.drewN|apply IsS140.drew|apply IsS140.set_1|apply IsS140.set_2|refine IsS140.far ?_ NB0_217.out _|refine IsS140.far ?_ NB0_221.out _)|exact HI0.out));(case side2=>repeat (first|(with_reducible first|exact HB.out|apply qf|apply qa|apply qd|refine qg ?_ (IsS140.ge HI0.out)|refine qg ?_ GE217.out|refine qg ?_ GE221.out)|exact HB.out));rintro e w27 ⟨rfl,hi,hb,hk⟩;refine ⟨_,rfl,?_⟩;have n0_:=qn.mk (Kd.R_mono (Kd.R_keep (IsS140.apart (show IsS140 w0 _ g s0_0 x1001_2 x1002_2 from by repeat (first|(with_reducible first|exact HI0.out|apply IsS140.alloc|apply IsS140.drewN|apply IsS140.drew|apply IsS140.set_1|apply IsS140.set_2|refine IsS140.far ?_ NB0_217.out _|refine IsS140.far ?_ NB0_221.out _)|exact HI0.out)) (by (with_reducible repeat (first|apply Kd.R_alloc|apply Kd.R_drewN|apply Kd.R_drew));exact HO_222001.out) (by decide)) hk (fun _ h=>h.2)) (fun _ h=>h.1));have n1_:=qn.mk (KeepBut.blk hk (g':=gb217) (o:=.cells #[.int .i64 0,.slice none 0 0] 26 (0,0)) (by (with_reducible repeat (first|refine qb ?_ _|refine qe ?_|refine qc ?_ _));exact BK217.out) NB217_0.out (by simp));have n2_:=qn.mk (KeepBut.blk hk (g':=gb221) (o:=.cells #[.int .i64 t218,u222001] 26 (0,0)) (by (with_reducible repeat (first|refine qb ?_ _|refine qe ?_|refine qc ?_ _));exact BK221.out) NB221_0.out (by simp));have n3_:=qn.mk (KeepBut.trans (by repeat (first|(with_reducible first|exact HK.out|apply KeepBut.set_|apply keep_drewN|apply keep_drew|apply keep_alloc|refine keep_far ?_ GW217.out _|refine keep_far ?_ GW221.out _)|exact HK.out)) hk (.inl rfl));have n4_:=qn.mk (hb);have n5_:=qn.mk (hi);clear HO_222001;clear BK217;clear BK221;clear HK;clear HB;clear HI0;have HO_222001:=n0_;have BK217:=n1_;have BK221:=n2_;have HK:=n3_;have HB:=n4_;have HI0:=n5_;clear n0_ n1_ n2_ n3_ n4_ n5_;(try clear hb);(try clear hb2);(try clear hk);(try clear hi)))
         go_meet
         case rel=>exact ⟨_,(((wrap64 (1 + t222)) == 3)),(t232),(t233),(by first|rfl|(simp;done)|(simp [*];done)),H',⟨by have:=HK1.out;have:=HK2.out;first|omega|exact Nat.le_refl _⟩,⟨by (with_reducible repeat (first|apply Kd.R_alloc|apply Kd.R_drewN|apply Kd.R_drew));exact HO_222001.out⟩,⟨by (with_reducible repeat (first|refine qb ?_ _|refine qe ?_|refine qc ?_ _));exact BK217.out⟩,⟨by (with_reducible repeat (first|refine qb ?_ _|refine qe ?_|refine qc ?_ _));exact BK221.out⟩,⟨by repeat (first|(with_reducible first|exact HI0.out|apply IsS140.alloc|apply IsS140.drewN|apply IsS140.drew|apply IsS140.set_1|apply IsS140.set_2|refine IsS140.far ?_ NB0_217.out _|refine IsS140.far ?_ NB0_221.out _)|exact HI0.out)⟩,⟨by repeat (first|(with_reducible first|exact HK.out|apply KeepBut.set_|apply keep_drewN|apply keep_drew|apply keep_alloc|refine keep_far ?_ GW217.out _|refine keep_far ?_ GW221.out _)|exact HK.out)⟩,⟨by repeat (first|(with_reducible first|exact HB.out|apply qf|apply qa|apply qd|refine qg ?_ (IsS140.ge HI0.out)|refine qg ?_ GE217.out|refine qg ?_ GE221.out)|exact HB.out)⟩⟩
        ·replace c26:=Bool.eq_false_iff.mpr c26
         subst c26
         have H1 : (spec_l08Graph.j2 k2 (wrap64 (1 + t222)) t228 x6_1 x7_2 true s0_0 t232 t233 t218 x222001_2) = some (r1,r2,r3,r4):=by rw [if_neg (show ¬ (false = true) by decide)] at H;exact H
         clear H
         have H:=H1
         clear H1
         have H':=qn.mk H
         clear H
         go_wp2_with (first|((with_reducible refine gate_callee (f:=76) rfl ?_);refine goesL_ (some 35) rfl rfl Try.func76 (by kernel_rfl) rfl #[.pointer (some ⟨g,0,none⟩),.int .i64 (wrap64 ((wrap64 (1 + t222)) + 1))] rfl (by (try simp only [List.map_toArray,List.map_cons,List.map_nil]);first|done|rfl|(simp only [List.length_drop,List.length_take];rfl)) ?_;(with_reducible refine (spec_l01Once.calls g s0_0 x1001_2 x1002_2 (wrap64 ((wrap64 (1 + t222)) + 1)) false t232 t233 w0 _ ?side1 ?side2 A25.out).mono ?_);(case side1=>repeat (first|(with_reducible first|exact HI0.out|apply IsS140.alloc|apply IsS140.drewN|apply IsS140.drew|apply IsS140.set_1|apply IsS140.set_2|refine IsS140.far ?_ NB0_217.out _|refine IsS140.far ?_ NB0_221.out _)|exact HI0.out));(case side2=>repeat (first|(with_reducible first|exact HB.out|apply qf|apply qa|apply qd|refine qg ?_ (IsS140.ge HI0.out)|refine qg ?_ GE217.out|refine qg ?_ GE221.out)|exact HB.out));rintro e w28 ⟨rfl,hi,hb,hk⟩;refine ⟨_,rfl,?_⟩;have n0_:=qn.mk (Kd.R_mono (Kd.R_keep (IsS140.apart (show IsS140 w0 _ g s0_0 x1001_2 x1002_2 from by repeat (first|(with_reducible first|exact HI0.out|apply IsS140.alloc|apply IsS140.drewN|apply IsS140.drew|apply IsS140.set_1|apply IsS140.set_2|refine IsS140.far ?_ NB0_217.out _|refine IsS140.far ?_ NB0_221.out _)|exact HI0.out)) (by (with_reducible repeat (first|apply Kd.R_alloc|apply Kd.R_drewN|apply Kd.R_drew));exact HO_222001.out) (by decide)) hk (fun _ h=>h.2)) (fun _ h=>h.1));have n1_:=qn.mk (KeepBut.blk hk (g':=gb217) (o:=.cells #[.int .i64 0,.slice none 0 0] 26 (0,0)) (by (with_reducible repeat (first|refine qb ?_ _|refine qe ?_|refine qc ?_ _));exact BK217.out) NB217_0.out (by simp));have n2_:=qn.mk (KeepBut.blk hk (g':=gb221) (o:=.cells #[.int .i64 t218,u222001] 26 (0,0)) (by (with_reducible repeat (first|refine qb ?_ _|refine qe ?_|refine qc ?_ _));exact BK221.out) NB221_0.out (by simp));have n3_:=qn.mk (KeepBut.trans (by repeat (first|(with_reducible first|exact HK.out|apply KeepBut.set_|apply keep_drewN|apply keep_drew|apply keep_alloc|refine keep_far ?_ GW217.out _|refine keep_far ?_ GW221.out _)|exact HK.out)) hk (.inl rfl));have n4_:=qn.mk (hb);have n5_:=qn.mk (hi);clear HO_222001;clear BK217;clear BK221;clear HK;clear HB;clear HI0;have HO_222001:=n0_;have BK217:=n1_;have BK221:=n2_;have HK:=n3_;have HB:=n4_;have HI0:=n5_;clear n0_ n1_ n2_ n3_ n4_ n5_;(try clear hb);(try clear hb2);(try clear hk);(try clear hi)))
         go_meet
         case rel=>exact ⟨_,(true),(t232),(t233),(by first|rfl|(simp;done)|(simp [*];done)),H',⟨by have:=HK1.out;have:=HK2.out;first|omega|exact Nat.le_refl _⟩,⟨by (with_reducible repeat (first|apply Kd.R_alloc|apply Kd.R_drewN|apply Kd.R_drew));exact HO_222001.out⟩,⟨by (with_reducible repeat (first|refine qb ?_ _|refine qe ?_|refine qc ?_ _));exact BK217.out⟩,⟨by (with_reducible repeat (first|refine qb ?_ _|refine qe ?_|refine qc ?_ _));exact BK221.out⟩,⟨by repeat (first|(with_reducible first|exact HI0.out|apply IsS140.alloc|apply IsS140.drewN|apply IsS140.drew|apply IsS140.set_1|apply IsS140.set_2|refine IsS140.far ?_ NB0_217.out _|refine IsS140.far ?_ NB0_221.out _)|exact HI0.out)⟩,⟨by repeat (first|(with_reducible first|exact HK.out|apply KeepBut.set_|apply keep_drewN|apply keep_drew|apply keep_alloc|refine keep_far ?_ GW217.out _|refine keep_far ?_ GW221.out _)|exact HK.out)⟩,⟨by repeat (first|(with_reducible first|exact HB.out|apply qf|apply qa|apply qd|refine qg ?_ (IsS140.ge HI0.out)|refine qg ?_ GE217.out|refine qg ?_ GE221.out)|exact HB.out)⟩⟩
       case rest =>
        clear HC21
        try clear c1
        try clear c2
        try clear p2
        try clear c5
        try clear p6
        try clear c7
        try clear c8
        try clear c9
        try clear c10
        try clear c16
        try clear c16b0
        try clear c17
        try clear c18
        try clear c20
        try clear c20b0
        try clear c22
        try clear c23
        try clear c26
        try clear hcz10_0
        try clear hcz10_1
        try clear hcz19_0
        try clear hcz19_1
        try clear hcz24_0
        try clear hcz24_1
        try clear hfz10_0
        try clear hfz10_1
        try clear hfz19_0
        try clear hfz19_1
        try clear hfz24_0
        try clear hfz24_1
        try clear p2
        try clear p6
        obtain ⟨kq,x40_20,x1001_20,x1002_20,rfl,HA,HJ20,HO_222001,BK217,BK221,HI0,HK,HB⟩:=hcut
        cases kq with
        | zero=>exact absurd HA.out (by simp [spec_l08Graph.j2])
        | succ kj20 =>
         have H:=HA.out
         clear HA
         simp only [spec_l08Graph.j2] at H
         by_cases c29 : x40_20 = true
         ·subst c29
          have H1 : ((spec_l01Below.f s0_0 x1001_20 x1002_20 t228).bind fun bt234=>((spec_l01Below.f s0_0 bt234.2.1 bt234.2.2 t228).bind fun bt237=>((spec_l01Below.f s0_0 bt237.2.1 bt237.2.2 t228).bind fun bt240=>(if t228 = 4 then (if x222001_2.length < 3518437208883 then (spec_l08Graph.l1 kj20 (wrap64 (1 + t222)) t228 x6_1 (wrap64 (x7_2 + 1)) s0_0 bt240.2.1 bt240.2.2 t218 (x222001_2 ++ [(⟨x6_1,x7_2,bt234.1,0,0⟩ : S36)])) else (none)) else (if x222001_2.length < 3518437208883 then (spec_l08Graph.l1 kj20 (wrap64 (1 + t222)) t228 x6_1 (wrap64 (x7_2 + 1)) s0_0 bt240.2.1 bt240.2.2 t218 (x222001_2 ++ [(⟨x6_1,x7_2,bt234.1,bt237.1,bt240.1⟩ : S36)])) else (none)))))) = some (r1,r2,r3,r4):=by rw [if_pos rfl] at H;exact H
          clear H
          have H:=H1
          clear H1
          replace H:=Option.bind_eq_some_iff.mp H
          obtain ⟨⟨t234,t235,t236⟩,A300,H⟩:=H
          replace H : ((spec_l01Below.f s0_0 t235 t236 t228).bind fun bt237=>((spec_l01Below.f s0_0 bt237.2.1 bt237.2.2 t228).bind fun bt240=>(if t228 = 4 then (if x222001_2.length < 3518437208883 then (spec_l08Graph.l1 kj20 (wrap64 (1 + t222)) t228 x6_1 (wrap64 (x7_2 + 1)) s0_0 bt240.2.1 bt240.2.2 t218 (x222001_2 ++ [(⟨x6_1,x7_2,t234,0,0⟩ : S36)])) else (none)) else (if x222001_2.length < 3518437208883 then (spec_l08Graph.l1 kj20 (wrap64 (1 + t222)) t228 x6_1 (wrap64 (x7_2 + 1)) s0_0 bt240.2.1 bt240.2.2 t218 (x222001_2 ++ [(⟨x6_1,x7_2,t234,bt237.1,bt240.1⟩ : S36)])) else (none))))) = some (r1,r2,r3,r4):=H
          have A30:=qn.mk A300
          clear A300
          replace H:=Option.bind_eq_some_iff.mp H
          obtain ⟨⟨t237,t238,t239⟩,A310,H⟩:=H
          replace H : ((spec_l01Below.f s0_0 t238 t239 t228).bind fun bt240=>(if t228 = 4 then (if x222001_2.length < 3518437208883 then (spec_l08Graph.l1 kj20 (wrap64 (1 + t222)) t228 x6_1 (wrap64 (x7_2 + 1)) s0_0 bt240.2.1 bt240.2.2 t218 (x222001_2 ++ [(⟨x6_1,x7_2,t234,0,0⟩ : S36)])) else (none)) else (if x222001_2.length < 3518437208883 then (spec_l08Graph.l1 kj20 (wrap64 (1 + t222)) t228 x6_1 (wrap64 (x7_2 + 1)) s0_0 bt240.2.1 bt240.2.2 t218 (x222001_2 ++ [(⟨x6_1,x7_2,t234,t237,bt240.1⟩ : S36)])) else (none)))) = some (r1,r2,r3,r4):=H
          have A31:=qn.mk A310
          clear A310
          replace H:=Option.bind_eq_some_iff.mp H
          obtain ⟨⟨t240,t241,t242⟩,A320,H⟩:=H
          replace H : (if t228 = 4 then (if x222001_2.length < 3518437208883 then (spec_l08Graph.l1 kj20 (wrap64 (1 + t222)) t228 x6_1 (wrap64 (x7_2 + 1)) s0_0 t241 t242 t218 (x222001_2 ++ [(⟨x6_1,x7_2,t234,0,0⟩ : S36)])) else (none)) else (if x222001_2.length < 3518437208883 then (spec_l08Graph.l1 kj20 (wrap64 (1 + t222)) t228 x6_1 (wrap64 (x7_2 + 1)) s0_0 t241 t242 t218 (x222001_2 ++ [(⟨x6_1,x7_2,t234,t237,t240⟩ : S36)])) else (none))) = some (r1,r2,r3,r4):=H
          have A32:=qn.mk A320
          clear A320
          by_cases c33 : t228 = 4
          ·rw [if_pos c33] at H
           have c33b0 : (t228 == 4) = true:=beq_iff_eq.mpr c33
           have c33b1 : (t228 != 4) = false:=bne_eq_false_iff_eq.mpr c33
           clear c33
           by_cases c34 : x222001_2.length < 3518437208883
           ·rw [if_pos c34] at H
            have LMc34:=qn.mk c34
            clear c34
            obtain ⟨y244,hy244⟩ : ∃ y_ : List (S36),y_ = (x222001_2 ++ [(⟨x6_1,x7_2,t234,0,0⟩ : S36)]):=⟨_,rfl⟩
            replace H : (spec_l08Graph.l1 kj20 (wrap64 (1 + t222)) t228 x6_1 (wrap64 (x7_2 + 1)) s0_0 t241 t242 t218 y244) = some (r1,r2,r3,r4):=by first|(rw [hy244];with_reducible exact H)|(have H2_:=(Option.bind_some _ _).symm.trans H;rw [hy244];with_reducible exact H2_)|(have H2_:=(Option.bind_some _ _).symm.trans H;with_reducible exact H2_)|with_reducible exact H|(rw [hy244];exact H)|exact H
            have Ny244:=qn.mk hy244
            clear hy244
            have H':=qn.mk H
            clear H
            go_upto_region 14 with (first|((with_reducible refine gate_callee (f:=58) rfl ?_);refine goesL_ (some 45) rfl rfl Try.func58 (by kernel_rfl) rfl #[.pointer (some ⟨g,0,none⟩),.int .i64 t228] rfl (by (try simp only [List.map_toArray,List.map_cons,List.map_nil]);first|done|rfl|(simp only [List.length_drop,List.length_take];rfl)) ?_;(with_reducible refine (spec_l01Below.calls g s0_0 x1001_20 x1002_20 t228 t234 t235 t236 w0 _ ?side1 ?side2 A30.out).mono ?_);(case side1=>repeat (first|(with_reducible first|exact HI0.out|apply IsS140.alloc|apply IsS140.drewN|apply IsS140.drew|apply IsS140.set_1|apply IsS140.set_2|refine IsS140.far ?_ NB0_217.out _|refine IsS140.far ?_ NB0_221.out _)|exact HI0.out));(case side2=>repeat (first|(with_reducible first|exact HB.out|apply qf|apply qa|apply qd|refine qg ?_ (IsS140.ge HI0.out)|refine qg ?_ GE217.out|refine qg ?_ GE221.out)|exact HB.out));rintro e w35 ⟨rfl,hi,hb,hk⟩;refine ⟨_,rfl,?_⟩;have n0_:=qn.mk (Kd.R_mono (Kd.R_keep (IsS140.apart (show IsS140 w0 _ g s0_0 x1001_20 x1002_20 from by repeat (first|(with_reducible first|exact HI0.out|apply IsS140.alloc|apply IsS140.drewN|apply IsS140.drew|apply IsS140.set_1|apply IsS140.set_2|refine IsS140.far ?_ NB0_217.out _|refine IsS140.far ?_ NB0_221.out _)|exact HI0.out)) (by (with_reducible repeat (first|apply Kd.R_alloc|apply Kd.R_drewN|apply Kd.R_drew));exact HO_222001.out) (by decide)) hk (fun _ h=>h.2)) (fun _ h=>h.1));have n1_:=qn.mk (KeepBut.blk hk (g':=gb217) (o:=.cells #[.int .i64 0,.slice none 0 0] 26 (0,0)) (by (with_reducible repeat (first|refine qb ?_ _|refine qe ?_|refine qc ?_ _));exact BK217.out) NB217_0.out (by simp));have n2_:=qn.mk (KeepBut.blk hk (g':=gb221) (o:=.cells #[.int .i64 t218,u222001] 26 (0,0)) (by (with_reducible repeat (first|refine qb ?_ _|refine qe ?_|refine qc ?_ _));exact BK221.out) NB221_0.out (by simp));have n3_:=qn.mk (KeepBut.trans (by repeat (first|(with_reducible first|exact HK.out|apply KeepBut.set_|apply keep_drewN|apply keep_drew|apply keep_alloc|refine keep_far ?_ GW217.out _|refine keep_far ?_ GW221.out _)|exact HK.out)) hk (.inl rfl));have n4_:=qn.mk (hb);have n5_:=qn.mk (hi);clear HO_222001;clear BK217;clear BK221;clear HK;clear HB;clear HI0;have HO_222001:=n0_;have BK217:=n1_;have BK221:=n2_;have HK:=n3_;have HB:=n4_;have HI0:=n5_;clear n0_ n1_ n2_ n3_ n4_ n5_;(try clear hb);(try clear hb2);(try clear hk);(try clear hi))|((with_reducible refine gate_callee (f:=58) rfl ?_);refine goesL_ (some 48) rfl rfl Try.func58 (by kernel_rfl) rfl #[.pointer (some ⟨g,0,none⟩),.int .i64 t228] rfl (by (try simp only [List.map_toArray,List.map_cons,List.map_nil]);first|done|rfl|(simp only [List.length_drop,List.length_take];rfl)) ?_;(with_reducible refine (spec_l01Below.calls g s0_0 t235 t236 t228 t237 t238 t239 w0 _ ?side1 ?side2 A31.out).mono ?_);(case side1=>repeat (first|(with_reducible first|exact HI0.out|apply IsS140.alloc|apply IsS140.drewN|apply IsS140.drew|apply IsS140.set_1|apply IsS140.set_2|refine IsS140.far ?_ NB0_217.out _|refine IsS140.far ?_ NB0_221.out _)|exact HI0.out));(case side2=>repeat (first|(with_reducible first|exact HB.out|apply qf|apply qa|apply qd|refine qg ?_ (IsS140.ge HI0.out)|refine qg ?_ GE217.out|refine qg ?_ GE221.out)|exact HB.out));rintro e w36 ⟨rfl,hi,hb,hk⟩;refine ⟨_,rfl,?_⟩;have n0_:=qn.mk (Kd.R_mono (Kd.R_keep (IsS140.apart (show IsS140 w0 _ g s0_0 t235 t236 from by repeat (first|(with_reducible first|exact HI0.out|apply IsS140.alloc|apply IsS140.drewN|apply IsS140.drew|apply IsS140.set_1|apply IsS140.set_2|refine IsS140.far ?_ NB0_217.out _|refine IsS140.far ?_ NB0_221.out _)|exact HI0.out)) (by (with_reducible repeat (first|apply Kd.R_alloc|apply Kd.R_drewN|apply Kd.R_drew));exact HO_222001.out) (by decide)) hk (fun _ h=>h.2)) (fun _ h=>h.1));have n1_:=qn.mk (KeepBut.blk hk (g':=gb217) (o:=.cells #[.int .i64 0,.slice none 0 0] 26 (0,0)) (by (with_reducible repeat (first|refine qb ?_ _|refine qe ?_|refine qc ?_ _));exact BK217.out) NB217_0.out (by simp));have n2_:=qn.mk (KeepBut.blk hk (g':=gb221) (o:=.cells #[.int .i64 t218,u222001] 26 (0,0)) (by (with_reducible repeat (first|refine qb ?_ _|refine qe ?_|refine qc ?_ _));exact BK221.out) NB221_0.out (by simp));have n3_:=qn.mk (KeepBut.trans (by repeat (first|(with_reducible first|exact HK.out|apply KeepBut.set_|apply keep_drewN|apply keep_drew|apply keep_alloc|refine keep_far ?_ GW217.out _|refine keep_far ?_ GW221.out _)|exact HK.out)) hk (.inl rfl));have n4_:=qn.mk (hb);have n5_:=qn.mk (hi);clear HO_222001;clear BK217;clear BK221;clear HK;clear HB;clear HI0;have HO_222001:=n0_;have BK217:=n1_;have BK221:=n2_;have HK:=n3_;have HB:=n4_;have HI0:=n5_;clear n0_ n1_ n2_ n3_ n4_ n5_;(try clear hb);(try clear hb2);(try clear hk);(try clear hi))|((with_reducible refine gate_callee (f:=58) rfl ?_);refine goesL_ (some 51) rfl rfl Try.func58 (by kernel_rfl) rfl #[.pointer (some ⟨g,0,none⟩),.int .i64 t228] rfl (by (try simp only [List.map_toArray,List.map_cons,List.map_nil]);first|done|rfl|(simp only [List.length_drop,List.length_take];rfl)) ?_;(with_reducible refine (spec_l01Below.calls g s0_0 t238 t239 t228 t240 t241 t242 w0 _ ?side1 ?side2 A32.out).mono ?_);(case side1=>repeat (first|(with_reducible first|exact HI0.out|apply IsS140.alloc|apply IsS140.drewN|apply IsS140.drew|apply IsS140.set_1|apply IsS140.set_2|refine IsS140.far ?_ NB0_217.out _|refine IsS140.far ?_ NB0_221.out _)|exact HI0.out));(case side2=>repeat (first|(with_reducible first|exact HB.out|apply qf|apply qa|apply qd|refine qg ?_ (IsS140.ge HI0.out)|refine qg ?_ GE217.out|refine qg ?_ GE221.out)|exact HB.out));rintro e w37 ⟨rfl,hi,hb,hk⟩;refine ⟨_,rfl,?_⟩;have n0_:=qn.mk (Kd.R_mono (Kd.R_keep (IsS140.apart (show IsS140 w0 _ g s0_0 t238 t239 from by repeat (first|(with_reducible first|exact HI0.out|apply IsS140.alloc|apply IsS140.drewN|apply IsS140.drew|apply IsS140.set_1|apply IsS140.set_2|refine IsS140.far ?_ NB0_217.out _|refine IsS140.far ?_ NB0_221.out _)|exact HI0.out)) (by (with_reducible repeat (first|apply Kd.R_alloc|apply Kd.R_drewN|apply Kd.R_drew));exact HO_222001.out) (by decide)) hk (fun _ h=>h.2)) (fun _ h=>h.1));have n1_:=qn.mk (KeepBut.blk hk (g':=gb217) (o:=.cells #[.int .i64 0,.slice none 0 0] 26 (0,0)) (by (with_reducible repeat (first|refine qb ?_ _|refine qe ?_|refine qc ?_ _));exact BK217.out) NB217_0.out (by simp));have n2_:=qn.mk (KeepBut.blk hk (g':=gb221) (o:=.cells #[.int .i64 t218,u222001] 26 (0,0)) (by (with_reducible repeat (first|refine qb ?_ _|refine qe ?_|refine qc ?_ _));exact BK221.out) NB221_0.out (by simp));have n3_:=qn.mk (KeepBut.trans (by repeat (first|(with_reducible first|exact HK.out|apply KeepBut.set_|apply keep_drewN|apply keep_drew|apply keep_alloc|refine keep_far ?_ GW217.out _|refine keep_far ?_ GW221.out _)|exact HK.out)) hk (.inl rfl));have n4_:=qn.mk (hb);have n5_:=qn.mk (hi);clear HO_222001;clear BK217;clear BK221;clear HK;clear HB;clear HI0;have HO_222001:=n0_;have BK217:=n1_;have BK221:=n2_;have HK:=n3_;have HB:=n4_;have HI0:=n5_;clear n0_ n1_ n2_ n3_ n4_ n5_;(try clear hb);(try clear hb2);(try clear hk);(try clear hi))|((with_reducible refine gate_dst (N:=8) rfl ?_);refine box_event ?hg (N:=8) ?hd (cs:=#[.int .i64 0,.int .i64 0,.int .i64 0,.int .i64 0,.int .i64 0]) (t:=36) ?hr ?_;(case hd=>rfl);(case hg=>rfl);(case hr=>first|(go_simp;done)|(go_simp;rfl));intro gb243 hg w38 hbox hb;have n0_:=qn.mk (Kd.R_below (Kd.R_elderB (by (with_reducible repeat (first|apply Kd.R_alloc|apply Kd.R_drewN|apply Kd.R_drew));exact HO_222001.out) gb243 (Nat.le_of_eq hg.symm)) hb);have n1_:=bb_ BK217 hb;have n2_:=bb_ BK221 hb;have n3_:=qn.mk (IsS140.below (by repeat (first|(with_reducible first|exact HI0.out|apply IsS140.alloc|apply IsS140.drewN|apply IsS140.drew|apply IsS140.set_1|apply IsS140.set_2|refine IsS140.far ?_ NB0_217.out _|refine IsS140.far ?_ NB0_221.out _)|exact HI0.out)) hb);have n4_:=qn.mk (KeepBut.trans (by repeat (first|(with_reducible first|exact HK.out|apply KeepBut.set_|apply keep_drewN|apply keep_drew|apply keep_alloc|refine keep_far ?_ GW217.out _|refine keep_far ?_ GW221.out _)|exact HK.out)) (KeepBut.of_below hb g none) (.inl rfl));have n5_:=qn.mk (qm (by repeat (first|(with_reducible first|exact HB.out|apply qf|apply qa|apply qd|refine qg ?_ (IsS140.ge HI0.out)|refine qg ?_ GE217.out|refine qg ?_ GE221.out)|exact HB.out)) hb);have n6_:=qn.mk (hbox);have n7_:=qn.mk ((by rw [hg];exact (keep_size (w:=w) (g:=g) (row:=none) (by repeat (first|(with_reducible first|exact HK.out|apply KeepBut.set_|apply keep_drewN|apply keep_drew|apply keep_alloc|refine keep_far ?_ GW217.out _|refine keep_far ?_ GW221.out _)|exact HK.out))) : w.heap.size ≤ gb243));have n8_:=qn.mk ((Nat.le_trans HW0.out (by rw [hg];exact (keep_size (w:=w) (g:=g) (row:=none) (by repeat (first|(with_reducible first|exact HK.out|apply KeepBut.set_|apply keep_drewN|apply keep_drew|apply keep_alloc|refine keep_far ?_ GW217.out _|refine keep_far ?_ GW221.out _)|exact HK.out))) : w.heap.size ≤ gb243) : w0.heap.size ≤ gb243));have n9_:=qn.mk ((by rw [hg];exact nl_ BK217 : gb217 ≠ gb243));have n10_:=qn.mk ((by rw [hg];exact ng_ BK217 : gb243 ≠ gb217));have n11_:=qn.mk ((by rw [hg];exact nl_ BK221 : gb221 ≠ gb243));have n12_:=qn.mk ((by rw [hg];exact ng_ BK221 : gb243 ≠ gb221));have n13_:=qn.mk ((by rw [hg];exact Nat.ne_of_lt (IsS140.lt (show IsS140 w0 _ g s0_0 t241 t242 from by repeat (first|(with_reducible first|exact HI0.out|apply IsS140.alloc|apply IsS140.drewN|apply IsS140.drew|apply IsS140.set_1|apply IsS140.set_2|refine IsS140.far ?_ NB0_217.out _|refine IsS140.far ?_ NB0_221.out _)|exact HI0.out))) : g ≠ gb243));have n14_:=qn.mk ((by rw [hg];exact Nat.ne_of_gt (IsS140.lt (show IsS140 w0 _ g s0_0 t241 t242 from by repeat (first|(with_reducible first|exact HI0.out|apply IsS140.alloc|apply IsS140.drewN|apply IsS140.drew|apply IsS140.set_1|apply IsS140.set_2|refine IsS140.far ?_ NB0_217.out _|refine IsS140.far ?_ NB0_221.out _)|exact HI0.out))) : gb243 ≠ g));clear HO_222001;clear BK217;clear BK221;clear HI0;clear HK;clear HB;have HO_222001:=n0_;have BK217:=n1_;have BK221:=n2_;have HI0:=n3_;have HK:=n4_;have HB:=n5_;have BK243:=n6_;have GW243:=n7_;have GE243:=n8_;have NB217_243:=n9_;have NB243_217:=n10_;have NB221_243:=n11_;have NB243_221:=n12_;have NB0_243:=n13_;have NB243_0:=n14_;clear n0_ n1_ n2_ n3_ n4_ n5_ n6_ n7_ n8_ n9_ n10_ n11_ n12_ n13_ n14_;clear hb hbox hg;have hnb39:=NB243_217.out;have hnc39:=NB217_243.out;have hnb40:=NB243_221.out;have hnc40:=NB221_243.out;have hnb41:=NB243_0.out;have hnc41:=NB0_243.out;have hcz42_0 : w38.cell? ⟨gb243,0,none⟩ = some (.int .i64 0):=(qh BK243.out 0).trans rfl;have hcz42_1 : w38.cell? ⟨gb243,1,none⟩ = some (.int .i64 0):=(qh BK243.out 1).trans rfl;have hcz42_2 : w38.cell? ⟨gb243,2,none⟩ = some (.int .i64 0):=(qh BK243.out 2).trans rfl;have hcz42_3 : w38.cell? ⟨gb243,3,none⟩ = some (.int .i64 0):=(qh BK243.out 3).trans rfl;have hcz42_4 : w38.cell? ⟨gb243,4,none⟩ = some (.int .i64 0):=(qh BK243.out 4).trans rfl;have hfz42_0:=qi BK243.out 0;have hfz42_1:=qi BK243.out 1;have hfz42_2:=qi BK243.out 2;have hfz42_3:=qi BK243.out 3;have hfz42_4:=qi BK243.out 4;have hnb43:=NB221_217.out;have hnc43:=NB217_221.out;have hnb44:=NB221_0.out;have hnc44:=NB0_221.out;have hcz45_0 : w38.cell? ⟨gb221,0,none⟩ = some (.int .i64 t218):=(qh BK221.out 0).trans rfl;have hcz45_1 : w38.cell? ⟨gb221,1,none⟩ = some (u222001):=(qh BK221.out 1).trans rfl;have hfz45_0:=qi BK221.out 0;have hfz45_1:=qi BK221.out 1))
            (try simp only [Act.put,List.setIfInBounds_toArray,List.set_cons_zero,List.set_cons_succ])
            go_cut [] (fun wc=>qn (wc.heap[gb217]? = some (.cells #[.int .i64 0,.slice none 0 0] 26 (0,0))) ∧ qn (wc.heap[gb221]? = some (.cells #[.int .i64 t218,u222001] 26 (0,0))) ∧ qn (wc.heap[gb243]? = some (.cells #[.int .i64 x6_1,.int .i64 x7_2,.int .i64 t234,.int .i64 0,.int .i64 0] 36 (0,0))) ∧ qn (IsS140 w0 wc g s0_0 t241 t242) ∧ qn (KeepBut w wc g none) ∧ qn (Below w0.heap.size w0 wc) ∧ qn (Kd.R k36 36 wc w.heap.size (fun k_=>k_ ≠ gb243) u222001 x222001_2))
            case first =>
             go_wp2
             go_meet
             case rel=>exact ⟨⟨(by (with_reducible repeat (first|refine qb ?_ _|refine qe ?_|refine qc ?_ _));refine blk_far ?_ NB217_243.out _;(with_reducible repeat (first|refine qb ?_ _|refine qe ?_|refine qc ?_ _));refine blk_far ?_ NB217_243.out _;(with_reducible repeat (first|refine qb ?_ _|refine qe ?_|refine qc ?_ _));refine blk_far ?_ NB217_243.out _;(with_reducible repeat (first|refine qb ?_ _|refine qe ?_|refine qc ?_ _));refine blk_far ?_ NB217_243.out _;(with_reducible repeat (first|refine qb ?_ _|refine qe ?_|refine qc ?_ _));refine blk_far ?_ NB217_243.out _;(with_reducible repeat (first|refine qb ?_ _|refine qe ?_|refine qc ?_ _));refine blk_far ?_ NB217_243.out _;(with_reducible repeat (first|refine qb ?_ _|refine qe ?_|refine qc ?_ _));refine blk_far ?_ NB217_243.out _;(with_reducible repeat (first|refine qb ?_ _|refine qe ?_|refine qc ?_ _));exact BK217.out)⟩,⟨(by (with_reducible repeat (first|refine qb ?_ _|refine qe ?_|refine qc ?_ _));refine blk_far ?_ NB221_243.out _;(with_reducible repeat (first|refine qb ?_ _|refine qe ?_|refine qc ?_ _));refine blk_far ?_ NB221_243.out _;(with_reducible repeat (first|refine qb ?_ _|refine qe ?_|refine qc ?_ _));refine blk_far ?_ NB221_243.out _;(with_reducible repeat (first|refine qb ?_ _|refine qe ?_|refine qc ?_ _));refine blk_far ?_ NB221_243.out _;(with_reducible repeat (first|refine qb ?_ _|refine qe ?_|refine qc ?_ _));refine blk_far ?_ NB221_243.out _;(with_reducible repeat (first|refine qb ?_ _|refine qe ?_|refine qc ?_ _));refine blk_far ?_ NB221_243.out _;(with_reducible repeat (first|refine qb ?_ _|refine qe ?_|refine qc ?_ _));refine blk_far ?_ NB221_243.out _;(with_reducible repeat (first|refine qb ?_ _|refine qe ?_|refine qc ?_ _));exact BK221.out)⟩,⟨(by (with_reducible repeat (first|refine qb ?_ _|refine qe ?_|refine qc ?_ _));refine blk_put (cs:=#[.int .i64 x6_1,.int .i64 x7_2,.int .i64 t234,.int .i64 0,.int .i64 t240]) ?_ 4 _ rfl;(with_reducible repeat (first|refine qb ?_ _|refine qe ?_|refine qc ?_ _));refine blk_put (cs:=#[.int .i64 x6_1,.int .i64 x7_2,.int .i64 t234,.int .i64 t237,.int .i64 t240]) ?_ 3 _ rfl;(with_reducible repeat (first|refine qb ?_ _|refine qe ?_|refine qc ?_ _));refine blk_put (cs:=#[.int .i64 x6_1,.int .i64 x7_2,.int .i64 t234,.int .i64 t237,.int .i64 0]) ?_ 4 _ rfl;(with_reducible repeat (first|refine qb ?_ _|refine qe ?_|refine qc ?_ _));refine blk_put (cs:=#[.int .i64 x6_1,.int .i64 x7_2,.int .i64 t234,.int .i64 0,.int .i64 0]) ?_ 3 _ rfl;(with_reducible repeat (first|refine qb ?_ _|refine qe ?_|refine qc ?_ _));refine blk_put (cs:=#[.int .i64 x6_1,.int .i64 x7_2,.int .i64 0,.int .i64 0,.int .i64 0]) ?_ 2 _ rfl;(with_reducible repeat (first|refine qb ?_ _|refine qe ?_|refine qc ?_ _));refine blk_put (cs:=#[.int .i64 x6_1,.int .i64 0,.int .i64 0,.int .i64 0,.int .i64 0]) ?_ 1 _ rfl;(with_reducible repeat (first|refine qb ?_ _|refine qe ?_|refine qc ?_ _));refine blk_put (cs:=#[.int .i64 0,.int .i64 0,.int .i64 0,.int .i64 0,.int .i64 0]) ?_ 0 _ rfl;(with_reducible repeat (first|refine qb ?_ _|refine qe ?_|refine qc ?_ _));exact BK243.out)⟩,⟨(by repeat (first|(with_reducible first|exact HI0.out|apply IsS140.alloc|apply IsS140.drewN|apply IsS140.drew|apply IsS140.set_1|apply IsS140.set_2|refine IsS140.far ?_ NB0_217.out _|refine IsS140.far ?_ NB0_221.out _|refine IsS140.far ?_ NB0_243.out _)|exact HI0.out))⟩,⟨(by repeat (first|(with_reducible first|exact HK.out|apply KeepBut.set_|apply keep_drewN|apply keep_drew|apply keep_alloc|refine keep_far ?_ GW217.out _|refine keep_far ?_ GW221.out _|refine keep_far ?_ GW243.out _)|exact HK.out))⟩,⟨(by repeat (first|(with_reducible first|exact HB.out|apply qf|apply qa|apply qd|refine qg ?_ (IsS140.ge HI0.out)|refine qg ?_ GE217.out|refine qg ?_ GE221.out|refine qg ?_ GE243.out)|exact HB.out))⟩,⟨(by (with_reducible repeat (first|apply Kd.R_alloc|apply Kd.R_drewN|apply Kd.R_drew));exact Kd.R_mono (Kd.R_far (p:=⟨gb243,4,none⟩) (Kd.R_far (p:=⟨gb243,3,none⟩) (Kd.R_far (p:=⟨gb243,4,none⟩) (Kd.R_far (p:=⟨gb243,3,none⟩) (Kd.R_far (p:=⟨gb243,2,none⟩) (Kd.R_far (p:=⟨gb243,1,none⟩) (Kd.R_far (p:=⟨gb243,0,none⟩) (Kd.R_mono HO_222001.out (fun k_ hk=>(⟨hk,hk.2⟩ : _ ∧ k_ ≠ gb243))) (fun _ hk=>hk.2) (.int .i64 x6_1)) (fun _ hk=>hk.2) (.int .i64 x7_2)) (fun _ hk=>hk.2) (.int .i64 t234)) (fun _ hk=>hk.2) (.int .i64 t237)) (fun _ hk=>hk.2) (.int .i64 t240)) (fun _ hk=>hk.2) (.int .i64 0)) (fun _ hk=>hk.2) (.int .i64 0)) (fun _ hk=>hk.1.2))⟩⟩
            case rest =>
             obtain ⟨N0_,N1_,N2_,N3_,N4_,NB_,NO_⟩:=hcut
             clear BK217;clear BK221;clear BK243;clear HI0;clear HK;clear HB;clear HO_222001
             have BK217:=N0_
             have BK221:=N1_
             have BK243:=N2_
             have HI0:=N3_
             have HK:=N4_
             have HB:=NB_
             have HO_222001:=NO_
             clear N0_ N1_ N2_ N3_ N4_ NB_ NO_
             have hcygb221_0 : wc.cell? ⟨gb221,0,none⟩ = some (.int .i64 t218):=(qh BK221.out 0).trans rfl
             have hcygb221_1 : wc.cell? ⟨gb221,1,none⟩ = some (u222001):=(qh BK221.out 1).trans rfl
             have hfygb221_0:=qi BK221.out 0
             have hfygb221_1:=qi BK221.out 1
             have hcygb243_0 : wc.cell? ⟨gb243,0,none⟩ = some (.int .i64 x6_1):=(qh BK243.out 0).trans rfl
             have hcygb243_1 : wc.cell? ⟨gb243,1,none⟩ = some (.int .i64 x7_2):=(qh BK243.out 1).trans rfl
             have hcygb243_2 : wc.cell? ⟨gb243,2,none⟩ = some (.int .i64 t234):=(qh BK243.out 2).trans rfl
             have hcygb243_3 : wc.cell? ⟨gb243,3,none⟩ = some (.int .i64 0):=(qh BK243.out 3).trans rfl
             have hcygb243_4 : wc.cell? ⟨gb243,4,none⟩ = some (.int .i64 0):=(qh BK243.out 4).trans rfl
             have hfygb243_0:=qi BK243.out 0
             have hfygb243_1:=qi BK243.out 1
             have hfygb243_2:=qi BK243.out 2
             have hfygb243_3:=qi BK243.out 3
             have hfygb243_4:=qi BK243.out 4
             go_wp2_with (first|((with_reducible refine gate_builtin (b:=.append) (xs:=#[.tmp 58,.tmp 60]) rfl ?_);at_builtin;refine Kd.R_append k36 w.heap.size rfl (.tmp 58) (.tmp 60) 24 36 (.agg #[(.int .i64 0),(.int .i64 0),(.int .i64 0),(.int .i64 0),(.int .i64 0)]) 40 rfl Try.underlying24 info36 rfl (by decide) (by omega) u222001 x222001_2 (⟨x6_1,x7_2,t234,0,0⟩ : S36) [.int .i64 x6_1,.int .i64 x7_2,.int .i64 t234,.int .i64 0,.int .i64 0] (fun k_=>k_ ≠ gb243) (fun _=>False) rfl (by first|(go_simp;done)|(go_simp;rfl)) ?aP (fun _ hk=>hk.elim) ?aF ?aO (Below.refl _ _) ?aS ?aL ?_;(case aP=>exact k36_mkM _ _ _ (⟨x6_1,x7_2,t234,0,0⟩ : S36));(case aF=>exact (fun k_ hk=>Kd.freshB (g:=gb243) (o:=.cells #[.int .i64 x6_1,.int .i64 x7_2,.int .i64 t234,.int .i64 0,.int .i64 0] 36 (0,0)) (by (with_reducible repeat (first|refine qb ?_ _|refine qe ?_|refine qc ?_ _));exact BK243.out) k_ hk));(case aO=>exact (by (with_reducible repeat (first|apply Kd.R_alloc|apply Kd.R_drewN|apply Kd.R_drew));exact HO_222001.out));(case aS=>exact (keep_size (w:=w) (g:=g) (row:=none) (by repeat (first|(with_reducible first|exact HK.out|apply KeepBut.set_|apply keep_drewN|apply keep_drew|apply keep_alloc|refine keep_far ?_ GW217.out _|refine keep_far ?_ GW221.out _|refine keep_far ?_ GW243.out _)|exact HK.out))));(case aL=>have:=LMc34.out;omega);intro v245 w46 ho hb hg hat;rw [← Ny244.out] at ho;have n0_:=qn.mk (blk_grown (g:=gb217) (o:=.cells #[.int .i64 0,.slice none 0 0] 26 (0,0)) (by (with_reducible repeat (first|refine qb ?_ _|refine qe ?_|refine qc ?_ _));exact BK217.out) hg (Kd.R_ne HO_222001.out BK217.out (by decide)));have n1_:=qn.mk (blk_grown (g:=gb221) (o:=.cells #[.int .i64 t218,u222001] 26 (0,0)) (by (with_reducible repeat (first|refine qb ?_ _|refine qe ?_|refine qc ?_ _));exact BK221.out) hg (Kd.R_ne HO_222001.out BK221.out (by decide)));have n2_:=qn.mk (IsS140.grown (by repeat (first|(with_reducible first|exact HI0.out|apply IsS140.alloc|apply IsS140.drewN|apply IsS140.drew|apply IsS140.set_1|apply IsS140.set_2|refine IsS140.far ?_ NB0_217.out _|refine IsS140.far ?_ NB0_221.out _|refine IsS140.far ?_ NB0_243.out _)|exact HI0.out)) hg (IsS140.own_ne HI0.out HO_222001.out (by decide)));have n3_:=qn.mk (blk_grown (g:=gb243) (o:=.cells #[.int .i64 x6_1,.int .i64 x7_2,.int .i64 t234,.int .i64 0,.int .i64 0] 36 (0,0)) (by (with_reducible repeat (first|refine qb ?_ _|refine qe ?_|refine qc ?_ _));exact BK243.out) hg (Kd.R_away HO_222001.out (fun _ hk=>hk)));have n4_:=qn.mk (below_weaken (by repeat (first|(with_reducible first|exact HB.out|apply qf|apply qa|apply qd|refine qg ?_ (IsS140.ge HI0.out)|refine qg ?_ GE217.out|refine qg ?_ GE221.out|refine qg ?_ GE243.out)|exact HB.out)) HL.out hb);have n5_:=qn.mk (KeepBut.trans (by repeat (first|(with_reducible first|exact HK.out|apply KeepBut.set_|apply keep_drewN|apply keep_drew|apply keep_alloc|refine keep_far ?_ GW217.out _|refine keep_far ?_ GW221.out _|refine keep_far ?_ GW243.out _)|exact HK.out)) (KeepBut.of_grown hg g) (Kd.R_base2 HO_222001.out));have n6_:=qn.mk (ho);clear BK217;clear BK221;clear HI0;clear BK243;clear HB;clear HK;clear HO_222001;have BK217:=n0_;have BK221:=n1_;have HI0:=n2_;have BK243:=n3_;have HB:=n4_;have HK:=n5_;have HO246:=n6_;clear n0_ n1_ n2_ n3_ n4_ n5_ n6_;clear ho hb hg hat;obtain ⟨Ao47,co47,eo47⟩:=Kd.R_slice HO246.out;subst eo47;have hcz48_0 : w46.cell? ⟨gb221,0,none⟩ = some (.int .i64 t218):=(qh BK221.out 0).trans rfl;have hcz48_1 : w46.cell? ⟨gb221,1,none⟩ = some (u222001):=(qh BK221.out 1).trans rfl;have hfz48_0:=qi BK221.out 0;have hfz48_1:=qi BK221.out 1))
             go_roundg kj20
             case measure=>have:=HK1.out;have:=HK2.out;have:=HJ20.out;omega
             case rel=>exact ⟨(wrap64 (x7_2 + 1)),(t241),(t242),(y244),(.slice Ao47 y244.length co47),(by first|rfl|(simp;done)|(simp [*];done)),H',⟨by have:=HK1.out;have:=HK2.out;have:=HJ20.out;omega⟩,⟨by (with_reducible repeat (first|apply Kd.R_alloc|apply Kd.R_drewN|apply Kd.R_drew));exact Kd.R_mono (Kd.R_far (p:=⟨gb221,1,none⟩) (Kd.R_types HO246.out BK221.out (by decide)) (fun _ hk=>hk.2) (.slice Ao47 y244.length co47)) (fun _ hk=>trivial)⟩,⟨by (with_reducible repeat (first|refine qb ?_ _|refine qe ?_|refine qc ?_ _));refine blk_far ?_ NB217_221.out _;(with_reducible repeat (first|refine qb ?_ _|refine qe ?_|refine qc ?_ _));exact BK217.out⟩,⟨by (with_reducible repeat (first|refine qb ?_ _|refine qe ?_|refine qc ?_ _));refine blk_put (cs:=#[.int .i64 t218,u222001]) ?_ 1 _ rfl;(with_reducible repeat (first|refine qb ?_ _|refine qe ?_|refine qc ?_ _));exact BK221.out⟩,⟨by repeat (first|(with_reducible first|exact HI0.out|apply IsS140.alloc|apply IsS140.drewN|apply IsS140.drew|apply IsS140.set_1|apply IsS140.set_2|refine IsS140.far ?_ NB0_217.out _|refine IsS140.far ?_ NB0_221.out _|refine IsS140.far ?_ NB0_243.out _)|exact HI0.out)⟩,⟨by repeat (first|(with_reducible first|exact HK.out|apply KeepBut.set_|apply keep_drewN|apply keep_drew|apply keep_alloc|refine keep_far ?_ GW217.out _|refine keep_far ?_ GW221.out _|refine keep_far ?_ GW243.out _)|exact HK.out)⟩,⟨by repeat (first|(with_reducible first|exact HB.out|apply qf|apply qa|apply qd|refine qg ?_ (IsS140.ge HI0.out)|refine qg ?_ GE217.out|refine qg ?_ GE221.out|refine qg ?_ GE243.out)|exact HB.out)⟩⟩
           ·rw [if_neg c34] at H
            exact absurd H (by simp)
          ·rw [if_neg c33] at H
           have c33b0 : (t228 == 4) = false:=beq_eq_false_iff_ne.mpr c33
           have c33b1 : (t228 != 4) = true:=bne_iff_ne.mpr c33
           by_cases c49 : x222001_2.length < 3518437208883
           ·rw [if_pos c49] at H
            have LMc49:=qn.mk c49
            clear c49
            obtain ⟨y247,hy247⟩ : ∃ y_ : List (S36),y_ = (x222001_2 ++ [(⟨x6_1,x7_2,t234,t237,t240⟩ : S36)]):=⟨_,rfl⟩
            replace H : (spec_l08Graph.l1 kj20 (wrap64 (1 + t222)) t228 x6_1 (wrap64 (x7_2 + 1)) s0_0 t241 t242 t218 y247) = some (r1,r2,r3,r4):=by first|(rw [hy247];with_reducible exact H)|(have H2_:=(Option.bind_some _ _).symm.trans H;rw [hy247];with_reducible exact H2_)|(have H2_:=(Option.bind_some _ _).symm.trans H;with_reducible exact H2_)|with_reducible exact H|(rw [hy247];exact H)|exact H
            have Ny247:=qn.mk hy247
            clear hy247
            have H':=qn.mk H
            clear H
            go_upto_region 12 with (first|((with_reducible refine gate_callee (f:=58) rfl ?_);refine goesL_ (some 45) rfl rfl Try.func58 (by kernel_rfl) rfl #[.pointer (some ⟨g,0,none⟩),.int .i64 t228] rfl (by (try simp only [List.map_toArray,List.map_cons,List.map_nil]);first|done|rfl|(simp only [List.length_drop,List.length_take];rfl)) ?_;(with_reducible refine (spec_l01Below.calls g s0_0 x1001_20 x1002_20 t228 t234 t235 t236 w0 _ ?side1 ?side2 A30.out).mono ?_);(case side1=>repeat (first|(with_reducible first|exact HI0.out|apply IsS140.alloc|apply IsS140.drewN|apply IsS140.drew|apply IsS140.set_1|apply IsS140.set_2|refine IsS140.far ?_ NB0_217.out _|refine IsS140.far ?_ NB0_221.out _)|exact HI0.out));(case side2=>repeat (first|(with_reducible first|exact HB.out|apply qf|apply qa|apply qd|refine qg ?_ (IsS140.ge HI0.out)|refine qg ?_ GE217.out|refine qg ?_ GE221.out)|exact HB.out));rintro e w50 ⟨rfl,hi,hb,hk⟩;refine ⟨_,rfl,?_⟩;have n0_:=qn.mk (Kd.R_mono (Kd.R_keep (IsS140.apart (show IsS140 w0 _ g s0_0 x1001_20 x1002_20 from by repeat (first|(with_reducible first|exact HI0.out|apply IsS140.alloc|apply IsS140.drewN|apply IsS140.drew|apply IsS140.set_1|apply IsS140.set_2|refine IsS140.far ?_ NB0_217.out _|refine IsS140.far ?_ NB0_221.out _)|exact HI0.out)) (by (with_reducible repeat (first|apply Kd.R_alloc|apply Kd.R_drewN|apply Kd.R_drew));exact HO_222001.out) (by decide)) hk (fun _ h=>h.2)) (fun _ h=>h.1));have n1_:=qn.mk (KeepBut.blk hk (g':=gb217) (o:=.cells #[.int .i64 0,.slice none 0 0] 26 (0,0)) (by (with_reducible repeat (first|refine qb ?_ _|refine qe ?_|refine qc ?_ _));exact BK217.out) NB217_0.out (by simp));have n2_:=qn.mk (KeepBut.blk hk (g':=gb221) (o:=.cells #[.int .i64 t218,u222001] 26 (0,0)) (by (with_reducible repeat (first|refine qb ?_ _|refine qe ?_|refine qc ?_ _));exact BK221.out) NB221_0.out (by simp));have n3_:=qn.mk (KeepBut.trans (by repeat (first|(with_reducible first|exact HK.out|apply KeepBut.set_|apply keep_drewN|apply keep_drew|apply keep_alloc|refine keep_far ?_ GW217.out _|refine keep_far ?_ GW221.out _)|exact HK.out)) hk (.inl rfl));have n4_:=qn.mk (hb);have n5_:=qn.mk (hi);clear HO_222001;clear BK217;clear BK221;clear HK;clear HB;clear HI0;have HO_222001:=n0_;have BK217:=n1_;have BK221:=n2_;have HK:=n3_;have HB:=n4_;have HI0:=n5_;clear n0_ n1_ n2_ n3_ n4_ n5_;(try clear hb);(try clear hb2);(try clear hk);(try clear hi))|((with_reducible refine gate_callee (f:=58) rfl ?_);refine goesL_ (some 48) rfl rfl Try.func58 (by kernel_rfl) rfl #[.pointer (some ⟨g,0,none⟩),.int .i64 t228] rfl (by (try simp only [List.map_toArray,List.map_cons,List.map_nil]);first|done|rfl|(simp only [List.length_drop,List.length_take];rfl)) ?_;(with_reducible refine (spec_l01Below.calls g s0_0 t235 t236 t228 t237 t238 t239 w0 _ ?side1 ?side2 A31.out).mono ?_);(case side1=>repeat (first|(with_reducible first|exact HI0.out|apply IsS140.alloc|apply IsS140.drewN|apply IsS140.drew|apply IsS140.set_1|apply IsS140.set_2|refine IsS140.far ?_ NB0_217.out _|refine IsS140.far ?_ NB0_221.out _)|exact HI0.out));(case side2=>repeat (first|(with_reducible first|exact HB.out|apply qf|apply qa|apply qd|refine qg ?_ (IsS140.ge HI0.out)|refine qg ?_ GE217.out|refine qg ?_ GE221.out)|exact HB.out));rintro e w51 ⟨rfl,hi,hb,hk⟩;refine ⟨_,rfl,?_⟩;have n0_:=qn.mk (Kd.R_mono (Kd.R_keep (IsS140.apart (show IsS140 w0 _ g s0_0 t235 t236 from by repeat (first|(with_reducible first|exact HI0.out|apply IsS140.alloc|apply IsS140.drewN|apply IsS140.drew|apply IsS140.set_1|apply IsS140.set_2|refine IsS140.far ?_ NB0_217.out _|refine IsS140.far ?_ NB0_221.out _)|exact HI0.out)) (by (with_reducible repeat (first|apply Kd.R_alloc|apply Kd.R_drewN|apply Kd.R_drew));exact HO_222001.out) (by decide)) hk (fun _ h=>h.2)) (fun _ h=>h.1));have n1_:=qn.mk (KeepBut.blk hk (g':=gb217) (o:=.cells #[.int .i64 0,.slice none 0 0] 26 (0,0)) (by (with_reducible repeat (first|refine qb ?_ _|refine qe ?_|refine qc ?_ _));exact BK217.out) NB217_0.out (by simp));have n2_:=qn.mk (KeepBut.blk hk (g':=gb221) (o:=.cells #[.int .i64 t218,u222001] 26 (0,0)) (by (with_reducible repeat (first|refine qb ?_ _|refine qe ?_|refine qc ?_ _));exact BK221.out) NB221_0.out (by simp));have n3_:=qn.mk (KeepBut.trans (by repeat (first|(with_reducible first|exact HK.out|apply KeepBut.set_|apply keep_drewN|apply keep_drew|apply keep_alloc|refine keep_far ?_ GW217.out _|refine keep_far ?_ GW221.out _)|exact HK.out)) hk (.inl rfl));have n4_:=qn.mk (hb);have n5_:=qn.mk (hi);clear HO_222001;clear BK217;clear BK221;clear HK;clear HB;clear HI0;have HO_222001:=n0_;have BK217:=n1_;have BK221:=n2_;have HK:=n3_;have HB:=n4_;have HI0:=n5_;clear n0_ n1_ n2_ n3_ n4_ n5_;(try clear hb);(try clear hb2);(try clear hk);(try clear hi))|((with_reducible refine gate_callee (f:=58) rfl ?_);refine goesL_ (some 51) rfl rfl Try.func58 (by kernel_rfl) rfl #[.pointer (some ⟨g,0,none⟩),.int .i64 t228] rfl (by (try simp only [List.map_toArray,List.map_cons,List.map_nil]);first|done|rfl|(simp only [List.length_drop,List.length_take];rfl)) ?_;(with_reducible refine (spec_l01Below.calls g s0_0 t238 t239 t228 t240 t241 t242 w0 _ ?side1 ?side2 A32.out).mono ?_);(case side1=>repeat (first|(with_reducible first|exact HI0.out|apply IsS140.alloc|apply IsS140.drewN|apply IsS140.drew|apply IsS140.set_1|apply IsS140.set_2|refine IsS140.far ?_ NB0_217.out _|refine IsS140.far ?_ NB0_221.out _)|exact HI0.out));(case side2=>repeat (first|(with_reducible first|exact HB.out|apply qf|apply qa|apply qd|refine qg ?_ (IsS140.ge HI0.out)|refine qg ?_ GE217.out|refine qg ?_ GE221.out)|exact HB.out));rintro e w52 ⟨rfl,hi,hb,hk⟩;refine ⟨_,rfl,?_⟩;have n0_:=qn.mk (Kd.R_mono (Kd.R_keep (IsS140.apart (show IsS140 w0 _ g s0_0 t238 t239 from by repeat (first|(with_reducible first|exact HI0.out|apply IsS140.alloc|apply IsS140.drewN|apply IsS140.drew|apply IsS140.set_1|apply IsS140.set_2|refine IsS140.far ?_ NB0_217.out _|refine IsS140.far ?_ NB0_221.out _)|exact HI0.out)) (by (with_reducible repeat (first|apply Kd.R_alloc|apply Kd.R_drewN|apply Kd.R_drew));exact HO_222001.out) (by decide)) hk (fun _ h=>h.2)) (fun _ h=>h.1));have n1_:=qn.mk (KeepBut.blk hk (g':=gb217) (o:=.cells #[.int .i64 0,.slice none 0 0] 26 (0,0)) (by (with_reducible repeat (first|refine qb ?_ _|refine qe ?_|refine qc ?_ _));exact BK217.out) NB217_0.out (by simp));have n2_:=qn.mk (KeepBut.blk hk (g':=gb221) (o:=.cells #[.int .i64 t218,u222001] 26 (0,0)) (by (with_reducible repeat (first|refine qb ?_ _|refine qe ?_|refine qc ?_ _));exact BK221.out) NB221_0.out (by simp));have n3_:=qn.mk (KeepBut.trans (by repeat (first|(with_reducible first|exact HK.out|apply KeepBut.set_|apply keep_drewN|apply keep_drew|apply keep_alloc|refine keep_far ?_ GW217.out _|refine keep_far ?_ GW221.out _)|exact HK.out)) hk (.inl rfl));have n4_:=qn.mk (hb);have n5_:=qn.mk (hi);clear HO_222001;clear BK217;clear BK221;clear HK;clear HB;clear HI0;have HO_222001:=n0_;have BK217:=n1_;have BK221:=n2_;have HK:=n3_;have HB:=n4_;have HI0:=n5_;clear n0_ n1_ n2_ n3_ n4_ n5_;(try clear hb);(try clear hb2);(try clear hk);(try clear hi))|((with_reducible refine gate_dst (N:=8) rfl ?_);refine box_event ?hg (N:=8) ?hd (cs:=#[.int .i64 0,.int .i64 0,.int .i64 0,.int .i64 0,.int .i64 0]) (t:=36) ?hr ?_;(case hd=>rfl);(case hg=>rfl);(case hr=>first|(go_simp;done)|(go_simp;rfl));intro gb243 hg w53 hbox hb;have n0_:=qn.mk (Kd.R_below (Kd.R_elderB (by (with_reducible repeat (first|apply Kd.R_alloc|apply Kd.R_drewN|apply Kd.R_drew));exact HO_222001.out) gb243 (Nat.le_of_eq hg.symm)) hb);have n1_:=bb_ BK217 hb;have n2_:=bb_ BK221 hb;have n3_:=qn.mk (IsS140.below (by repeat (first|(with_reducible first|exact HI0.out|apply IsS140.alloc|apply IsS140.drewN|apply IsS140.drew|apply IsS140.set_1|apply IsS140.set_2|refine IsS140.far ?_ NB0_217.out _|refine IsS140.far ?_ NB0_221.out _)|exact HI0.out)) hb);have n4_:=qn.mk (KeepBut.trans (by repeat (first|(with_reducible first|exact HK.out|apply KeepBut.set_|apply keep_drewN|apply keep_drew|apply keep_alloc|refine keep_far ?_ GW217.out _|refine keep_far ?_ GW221.out _)|exact HK.out)) (KeepBut.of_below hb g none) (.inl rfl));have n5_:=qn.mk (qm (by repeat (first|(with_reducible first|exact HB.out|apply qf|apply qa|apply qd|refine qg ?_ (IsS140.ge HI0.out)|refine qg ?_ GE217.out|refine qg ?_ GE221.out)|exact HB.out)) hb);have n6_:=qn.mk (hbox);have n7_:=qn.mk ((by rw [hg];exact (keep_size (w:=w) (g:=g) (row:=none) (by repeat (first|(with_reducible first|exact HK.out|apply KeepBut.set_|apply keep_drewN|apply keep_drew|apply keep_alloc|refine keep_far ?_ GW217.out _|refine keep_far ?_ GW221.out _)|exact HK.out))) : w.heap.size ≤ gb243));have n8_:=qn.mk ((Nat.le_trans HW0.out (by rw [hg];exact (keep_size (w:=w) (g:=g) (row:=none) (by repeat (first|(with_reducible first|exact HK.out|apply KeepBut.set_|apply keep_drewN|apply keep_drew|apply keep_alloc|refine keep_far ?_ GW217.out _|refine keep_far ?_ GW221.out _)|exact HK.out))) : w.heap.size ≤ gb243) : w0.heap.size ≤ gb243));have n9_:=qn.mk ((by rw [hg];exact nl_ BK217 : gb217 ≠ gb243));have n10_:=qn.mk ((by rw [hg];exact ng_ BK217 : gb243 ≠ gb217));have n11_:=qn.mk ((by rw [hg];exact nl_ BK221 : gb221 ≠ gb243));have n12_:=qn.mk ((by rw [hg];exact ng_ BK221 : gb243 ≠ gb221));have n13_:=qn.mk ((by rw [hg];exact Nat.ne_of_lt (IsS140.lt (show IsS140 w0 _ g s0_0 t241 t242 from by repeat (first|(with_reducible first|exact HI0.out|apply IsS140.alloc|apply IsS140.drewN|apply IsS140.drew|apply IsS140.set_1|apply IsS140.set_2|refine IsS140.far ?_ NB0_217.out _|refine IsS140.far ?_ NB0_221.out _)|exact HI0.out))) : g ≠ gb243));have n14_:=qn.mk ((by rw [hg];exact Nat.ne_of_gt (IsS140.lt (show IsS140 w0 _ g s0_0 t241 t242 from by repeat (first|(with_reducible first|exact HI0.out|apply IsS140.alloc|apply IsS140.drewN|apply IsS140.drew|apply IsS140.set_1|apply IsS140.set_2|refine IsS140.far ?_ NB0_217.out _|refine IsS140.far ?_ NB0_221.out _)|exact HI0.out))) : gb243 ≠ g));clear HO_222001;clear BK217;clear BK221;clear HI0;clear HK;clear HB;have HO_222001:=n0_;have BK217:=n1_;have BK221:=n2_;have HI0:=n3_;have HK:=n4_;have HB:=n5_;have BK243:=n6_;have GW243:=n7_;have GE243:=n8_;have NB217_243:=n9_;have NB243_217:=n10_;have NB221_243:=n11_;have NB243_221:=n12_;have NB0_243:=n13_;have NB243_0:=n14_;clear n0_ n1_ n2_ n3_ n4_ n5_ n6_ n7_ n8_ n9_ n10_ n11_ n12_ n13_ n14_;clear hb hbox hg;have hnb54:=NB243_217.out;have hnc54:=NB217_243.out;have hnb55:=NB243_221.out;have hnc55:=NB221_243.out;have hnb56:=NB243_0.out;have hnc56:=NB0_243.out;have hcz57_0 : w53.cell? ⟨gb243,0,none⟩ = some (.int .i64 0):=(qh BK243.out 0).trans rfl;have hcz57_1 : w53.cell? ⟨gb243,1,none⟩ = some (.int .i64 0):=(qh BK243.out 1).trans rfl;have hcz57_2 : w53.cell? ⟨gb243,2,none⟩ = some (.int .i64 0):=(qh BK243.out 2).trans rfl;have hcz57_3 : w53.cell? ⟨gb243,3,none⟩ = some (.int .i64 0):=(qh BK243.out 3).trans rfl;have hcz57_4 : w53.cell? ⟨gb243,4,none⟩ = some (.int .i64 0):=(qh BK243.out 4).trans rfl;have hfz57_0:=qi BK243.out 0;have hfz57_1:=qi BK243.out 1;have hfz57_2:=qi BK243.out 2;have hfz57_3:=qi BK243.out 3;have hfz57_4:=qi BK243.out 4;have hnb58:=NB221_217.out;have hnc58:=NB217_221.out;have hnb59:=NB221_0.out;have hnc59:=NB0_221.out;have hcz60_0 : w53.cell? ⟨gb221,0,none⟩ = some (.int .i64 t218):=(qh BK221.out 0).trans rfl;have hcz60_1 : w53.cell? ⟨gb221,1,none⟩ = some (u222001):=(qh BK221.out 1).trans rfl;have hfz60_0:=qi BK221.out 0;have hfz60_1:=qi BK221.out 1))
            (try simp only [Act.put,List.setIfInBounds_toArray,List.set_cons_zero,List.set_cons_succ])
            go_cut [54] (fun v54 wc=>v54 = .bool false ∧ qn (wc.heap[gb217]? = some (.cells #[.int .i64 0,.slice none 0 0] 26 (0,0))) ∧ qn (wc.heap[gb221]? = some (.cells #[.int .i64 t218,u222001] 26 (0,0))) ∧ qn (wc.heap[gb243]? = some (.cells #[.int .i64 x6_1,.int .i64 x7_2,.int .i64 t234,.int .i64 t237,.int .i64 t240] 36 (0,0))) ∧ qn (IsS140 w0 wc g s0_0 t241 t242) ∧ qn (KeepBut w wc g none) ∧ qn (Below w0.heap.size w0 wc) ∧ qn (Kd.R k36 36 wc w.heap.size (fun k_=>k_ ≠ gb243) u222001 x222001_2))
            case first =>
             go_wp2
             go_meet
             case rel=>exact ⟨(by first|rfl|(simp;done)|(simp [*];done)),⟨(by (with_reducible repeat (first|refine qb ?_ _|refine qe ?_|refine qc ?_ _));refine blk_far ?_ NB217_243.out _;(with_reducible repeat (first|refine qb ?_ _|refine qe ?_|refine qc ?_ _));refine blk_far ?_ NB217_243.out _;(with_reducible repeat (first|refine qb ?_ _|refine qe ?_|refine qc ?_ _));refine blk_far ?_ NB217_243.out _;(with_reducible repeat (first|refine qb ?_ _|refine qe ?_|refine qc ?_ _));refine blk_far ?_ NB217_243.out _;(with_reducible repeat (first|refine qb ?_ _|refine qe ?_|refine qc ?_ _));refine blk_far ?_ NB217_243.out _;(with_reducible repeat (first|refine qb ?_ _|refine qe ?_|refine qc ?_ _));exact BK217.out)⟩,⟨(by (with_reducible repeat (first|refine qb ?_ _|refine qe ?_|refine qc ?_ _));refine blk_far ?_ NB221_243.out _;(with_reducible repeat (first|refine qb ?_ _|refine qe ?_|refine qc ?_ _));refine blk_far ?_ NB221_243.out _;(with_reducible repeat (first|refine qb ?_ _|refine qe ?_|refine qc ?_ _));refine blk_far ?_ NB221_243.out _;(with_reducible repeat (first|refine qb ?_ _|refine qe ?_|refine qc ?_ _));refine blk_far ?_ NB221_243.out _;(with_reducible repeat (first|refine qb ?_ _|refine qe ?_|refine qc ?_ _));refine blk_far ?_ NB221_243.out _;(with_reducible repeat (first|refine qb ?_ _|refine qe ?_|refine qc ?_ _));exact BK221.out)⟩,⟨(by (with_reducible repeat (first|refine qb ?_ _|refine qe ?_|refine qc ?_ _));refine blk_put (cs:=#[.int .i64 x6_1,.int .i64 x7_2,.int .i64 t234,.int .i64 t237,.int .i64 0]) ?_ 4 _ rfl;(with_reducible repeat (first|refine qb ?_ _|refine qe ?_|refine qc ?_ _));refine blk_put (cs:=#[.int .i64 x6_1,.int .i64 x7_2,.int .i64 t234,.int .i64 0,.int .i64 0]) ?_ 3 _ rfl;(with_reducible repeat (first|refine qb ?_ _|refine qe ?_|refine qc ?_ _));refine blk_put (cs:=#[.int .i64 x6_1,.int .i64 x7_2,.int .i64 0,.int .i64 0,.int .i64 0]) ?_ 2 _ rfl;(with_reducible repeat (first|refine qb ?_ _|refine qe ?_|refine qc ?_ _));refine blk_put (cs:=#[.int .i64 x6_1,.int .i64 0,.int .i64 0,.int .i64 0,.int .i64 0]) ?_ 1 _ rfl;(with_reducible repeat (first|refine qb ?_ _|refine qe ?_|refine qc ?_ _));refine blk_put (cs:=#[.int .i64 0,.int .i64 0,.int .i64 0,.int .i64 0,.int .i64 0]) ?_ 0 _ rfl;(with_reducible repeat (first|refine qb ?_ _|refine qe ?_|refine qc ?_ _));exact BK243.out)⟩,⟨(by repeat (first|(with_reducible first|exact HI0.out|apply IsS140.alloc|apply IsS140.drewN|apply IsS140.drew|apply IsS140.set_1|apply IsS140.set_2|refine IsS140.far ?_ NB0_217.out _|refine IsS140.far ?_ NB0_221.out _|refine IsS140.far ?_ NB0_243.out _)|exact HI0.out))⟩,⟨(by repeat (first|(with_reducible first|exact HK.out|apply KeepBut.set_|apply keep_drewN|apply keep_drew|apply keep_alloc|refine keep_far ?_ GW217.out _|refine keep_far ?_ GW221.out _|refine keep_far ?_ GW243.out _)|exact HK.out))⟩,⟨(by repeat (first|(with_reducible first|exact HB.out|apply qf|apply qa|apply qd|refine qg ?_ (IsS140.ge HI0.out)|refine qg ?_ GE217.out|refine qg ?_ GE221.out|refine qg ?_ GE243.out)|exact HB.out))⟩,⟨(by (with_reducible repeat (first|apply Kd.R_alloc|apply Kd.R_drewN|apply Kd.R_drew));exact Kd.R_mono (Kd.R_far (p:=⟨gb243,4,none⟩) (Kd.R_far (p:=⟨gb243,3,none⟩) (Kd.R_far (p:=⟨gb243,2,none⟩) (Kd.R_far (p:=⟨gb243,1,none⟩) (Kd.R_far (p:=⟨gb243,0,none⟩) (Kd.R_mono HO_222001.out (fun k_ hk=>(⟨hk,hk.2⟩ : _ ∧ k_ ≠ gb243))) (fun _ hk=>hk.2) (.int .i64 x6_1)) (fun _ hk=>hk.2) (.int .i64 x7_2)) (fun _ hk=>hk.2) (.int .i64 t234)) (fun _ hk=>hk.2) (.int .i64 t237)) (fun _ hk=>hk.2) (.int .i64 t240)) (fun _ hk=>hk.1.2))⟩⟩
            case rest =>
             obtain ⟨rfl,N0_,N1_,N2_,N3_,N4_,NB_,NO_⟩:=hcut
             clear BK217;clear BK221;clear BK243;clear HI0;clear HK;clear HB;clear HO_222001
             have BK217:=N0_
             have BK221:=N1_
             have BK243:=N2_
             have HI0:=N3_
             have HK:=N4_
             have HB:=NB_
             have HO_222001:=NO_
             clear N0_ N1_ N2_ N3_ N4_ NB_ NO_
             have hcygb221_0 : wc.cell? ⟨gb221,0,none⟩ = some (.int .i64 t218):=(qh BK221.out 0).trans rfl
             have hcygb221_1 : wc.cell? ⟨gb221,1,none⟩ = some (u222001):=(qh BK221.out 1).trans rfl
             have hfygb221_0:=qi BK221.out 0
             have hfygb221_1:=qi BK221.out 1
             have hcygb243_0 : wc.cell? ⟨gb243,0,none⟩ = some (.int .i64 x6_1):=(qh BK243.out 0).trans rfl
             have hcygb243_1 : wc.cell? ⟨gb243,1,none⟩ = some (.int .i64 x7_2):=(qh BK243.out 1).trans rfl
             have hcygb243_2 : wc.cell? ⟨gb243,2,none⟩ = some (.int .i64 t234):=(qh BK243.out 2).trans rfl
             have hcygb243_3 : wc.cell? ⟨gb243,3,none⟩ = some (.int .i64 t237):=(qh BK243.out 3).trans rfl
             have hcygb243_4 : wc.cell? ⟨gb243,4,none⟩ = some (.int .i64 t240):=(qh BK243.out 4).trans rfl
             have hfygb243_0:=qi BK243.out 0
             have hfygb243_1:=qi BK243.out 1
             have hfygb243_2:=qi BK243.out 2
             have hfygb243_3:=qi BK243.out 3
             have hfygb243_4:=qi BK243.out 4
             go_wp2_with (first|((with_reducible refine gate_builtin (b:=.append) (xs:=#[.tmp 58,.tmp 60]) rfl ?_);at_builtin;refine Kd.R_append k36 w.heap.size rfl (.tmp 58) (.tmp 60) 24 36 (.agg #[(.int .i64 0),(.int .i64 0),(.int .i64 0),(.int .i64 0),(.int .i64 0)]) 40 rfl Try.underlying24 info36 rfl (by decide) (by omega) u222001 x222001_2 (⟨x6_1,x7_2,t234,t237,t240⟩ : S36) [.int .i64 x6_1,.int .i64 x7_2,.int .i64 t234,.int .i64 t237,.int .i64 t240] (fun k_=>k_ ≠ gb243) (fun _=>False) rfl (by first|(go_simp;done)|(go_simp;rfl)) ?aP (fun _ hk=>hk.elim) ?aF ?aO (Below.refl _ _) ?aS ?aL ?_;(case aP=>exact k36_mkM _ _ _ (⟨x6_1,x7_2,t234,t237,t240⟩ : S36));(case aF=>exact (fun k_ hk=>Kd.freshB (g:=gb243) (o:=.cells #[.int .i64 x6_1,.int .i64 x7_2,.int .i64 t234,.int .i64 t237,.int .i64 t240] 36 (0,0)) (by (with_reducible repeat (first|refine qb ?_ _|refine qe ?_|refine qc ?_ _));exact BK243.out) k_ hk));(case aO=>exact (by (with_reducible repeat (first|apply Kd.R_alloc|apply Kd.R_drewN|apply Kd.R_drew));exact HO_222001.out));(case aS=>exact (keep_size (w:=w) (g:=g) (row:=none) (by repeat (first|(with_reducible first|exact HK.out|apply KeepBut.set_|apply keep_drewN|apply keep_drew|apply keep_alloc|refine keep_far ?_ GW217.out _|refine keep_far ?_ GW221.out _|refine keep_far ?_ GW243.out _)|exact HK.out))));(case aL=>have:=LMc49.out;omega);intro v248 w61 ho hb hg hat;rw [← Ny247.out] at ho;have n0_:=qn.mk (blk_grown (g:=gb217) (o:=.cells #[.int .i64 0,.slice none 0 0] 26 (0,0)) (by (with_reducible repeat (first|refine qb ?_ _|refine qe ?_|refine qc ?_ _));exact BK217.out) hg (Kd.R_ne HO_222001.out BK217.out (by decide)));have n1_:=qn.mk (blk_grown (g:=gb221) (o:=.cells #[.int .i64 t218,u222001] 26 (0,0)) (by (with_reducible repeat (first|refine qb ?_ _|refine qe ?_|refine qc ?_ _));exact BK221.out) hg (Kd.R_ne HO_222001.out BK221.out (by decide)));have n2_:=qn.mk (IsS140.grown (by repeat (first|(with_reducible first|exact HI0.out|apply IsS140.alloc|apply IsS140.drewN|apply IsS140.drew|apply IsS140.set_1|apply IsS140.set_2|refine IsS140.far ?_ NB0_217.out _|refine IsS140.far ?_ NB0_221.out _|refine IsS140.far ?_ NB0_243.out _)|exact HI0.out)) hg (IsS140.own_ne HI0.out HO_222001.out (by decide)));have n3_:=qn.mk (blk_grown (g:=gb243) (o:=.cells #[.int .i64 x6_1,.int .i64 x7_2,.int .i64 t234,.int .i64 t237,.int .i64 t240] 36 (0,0)) (by (with_reducible repeat (first|refine qb ?_ _|refine qe ?_|refine qc ?_ _));exact BK243.out) hg (Kd.R_away HO_222001.out (fun _ hk=>hk)));have n4_:=qn.mk (below_weaken (by repeat (first|(with_reducible first|exact HB.out|apply qf|apply qa|apply qd|refine qg ?_ (IsS140.ge HI0.out)|refine qg ?_ GE217.out|refine qg ?_ GE221.out|refine qg ?_ GE243.out)|exact HB.out)) HL.out hb);have n5_:=qn.mk (KeepBut.trans (by repeat (first|(with_reducible first|exact HK.out|apply KeepBut.set_|apply keep_drewN|apply keep_drew|apply keep_alloc|refine keep_far ?_ GW217.out _|refine keep_far ?_ GW221.out _|refine keep_far ?_ GW243.out _)|exact HK.out)) (KeepBut.of_grown hg g) (Kd.R_base2 HO_222001.out));have n6_:=qn.mk (ho);clear BK217;clear BK221;clear HI0;clear BK243;clear HB;clear HK;clear HO_222001;have BK217:=n0_;have BK221:=n1_;have HI0:=n2_;have BK243:=n3_;have HB:=n4_;have HK:=n5_;have HO249:=n6_;clear n0_ n1_ n2_ n3_ n4_ n5_ n6_;clear ho hb hg hat;obtain ⟨Ao62,co62,eo62⟩:=Kd.R_slice HO249.out;subst eo62;have hcz63_0 : w61.cell? ⟨gb221,0,none⟩ = some (.int .i64 t218):=(qh BK221.out 0).trans rfl;have hcz63_1 : w61.cell? ⟨gb221,1,none⟩ = some (u222001):=(qh BK221.out 1).trans rfl;have hfz63_0:=qi BK221.out 0;have hfz63_1:=qi BK221.out 1))
             go_roundg kj20
             case measure=>have:=HK1.out;have:=HK2.out;have:=HJ20.out;omega
             case rel=>exact ⟨(wrap64 (x7_2 + 1)),(t241),(t242),(y247),(.slice Ao62 y247.length co62),(by first|rfl|(simp;done)|(simp [*];done)),H',⟨by have:=HK1.out;have:=HK2.out;have:=HJ20.out;omega⟩,⟨by (with_reducible repeat (first|apply Kd.R_alloc|apply Kd.R_drewN|apply Kd.R_drew));exact Kd.R_mono (Kd.R_far (p:=⟨gb221,1,none⟩) (Kd.R_types HO249.out BK221.out (by decide)) (fun _ hk=>hk.2) (.slice Ao62 y247.length co62)) (fun _ hk=>trivial)⟩,⟨by (with_reducible repeat (first|refine qb ?_ _|refine qe ?_|refine qc ?_ _));refine blk_far ?_ NB217_221.out _;(with_reducible repeat (first|refine qb ?_ _|refine qe ?_|refine qc ?_ _));exact BK217.out⟩,⟨by (with_reducible repeat (first|refine qb ?_ _|refine qe ?_|refine qc ?_ _));refine blk_put (cs:=#[.int .i64 t218,u222001]) ?_ 1 _ rfl;(with_reducible repeat (first|refine qb ?_ _|refine qe ?_|refine qc ?_ _));exact BK221.out⟩,⟨by repeat (first|(with_reducible first|exact HI0.out|apply IsS140.alloc|apply IsS140.drewN|apply IsS140.drew|apply IsS140.set_1|apply IsS140.set_2|refine IsS140.far ?_ NB0_217.out _|refine IsS140.far ?_ NB0_221.out _|refine IsS140.far ?_ NB0_243.out _)|exact HI0.out)⟩,⟨by repeat (first|(with_reducible first|exact HK.out|apply KeepBut.set_|apply keep_drewN|apply keep_drew|apply keep_alloc|refine keep_far ?_ GW217.out _|refine keep_far ?_ GW221.out _|refine keep_far ?_ GW243.out _)|exact HK.out)⟩,⟨by repeat (first|(with_reducible first|exact HB.out|apply qf|apply qa|apply qd|refine qg ?_ (IsS140.ge HI0.out)|refine qg ?_ GE217.out|refine qg ?_ GE221.out|refine qg ?_ GE243.out)|exact HB.out)⟩⟩
           ·rw [if_neg c49] at H
            exact absurd H (by simp)
         ·replace c29:=Bool.eq_false_iff.mpr c29
          subst c29
          have H1 : (spec_l08Graph.l1 kj20 (wrap64 (1 + t222)) t228 x6_1 (wrap64 (x7_2 + 1)) s0_0 x1001_20 x1002_20 t218 x222001_2) = some (r1,r2,r3,r4):=by rw [if_neg (show ¬ (false = true) by decide)] at H;exact H
          clear H
          have H:=H1
          clear H1
          have H':=qn.mk H
          clear H
          go_wp2
          go_roundg kj20
          case measure=>have:=HK1.out;have:=HK2.out;have:=HJ20.out;omega
          case rel=>exact ⟨(wrap64 (x7_2 + 1)),(x1001_20),(x1002_20),(x222001_2),(u222001),(by first|rfl|(simp;done)|(simp [*];done)),H',⟨by have:=HK1.out;have:=HK2.out;have:=HJ20.out;omega⟩,⟨by (with_reducible repeat (first|apply Kd.R_alloc|apply Kd.R_drewN|apply Kd.R_drew));exact HO_222001.out⟩,⟨by (with_reducible repeat (first|refine qb ?_ _|refine qe ?_|refine qc ?_ _));exact BK217.out⟩,⟨by (with_reducible repeat (first|refine qb ?_ _|refine qe ?_|refine qc ?_ _));exact BK221.out⟩,⟨by repeat (first|(with_reducible first|exact HI0.out|apply IsS140.alloc|apply IsS140.drewN|apply IsS140.drew|apply IsS140.set_1|apply IsS140.set_2|refine IsS140.far ?_ NB0_217.out _|refine IsS140.far ?_ NB0_221.out _)|exact HI0.out)⟩,⟨by repeat (first|(with_reducible first|exact HK.out|apply KeepBut.set_|apply keep_drewN|apply keep_drew|apply keep_alloc|refine keep_far ?_ GW217.out _|refine keep_far ?_ GW221.out _)|exact HK.out)⟩,⟨by repeat (first|(with_reducible first|exact HB.out|apply qf|apply qa|apply qd|refine qg ?_ (IsS140.ge HI0.out)|refine qg ?_ GE217.out|refine qg ?_ GE221.out)|exact HB.out)⟩⟩
      ·rw [if_neg c20] at H
       have c20b0 : decide (x7_2 < t218) = false:=decide_eq_false c20
       clear c20
       have H':=qn.mk H
       clear H
       have hnb64:=NB221_217.out
       have hnc64:=NB217_221.out
       have hnb65:=NB221_0.out
       have hnc65:=NB0_221.out
       have hcz66_0 : wr.cell? ⟨gb221,0,none⟩ = some (.int .i64 t218):=(qh BK221.out 0).trans rfl
       have hcz66_1 : wr.cell? ⟨gb221,1,none⟩ = some (u222001):=(qh BK221.out 1).trans rfl
       have hfz66_0:=qi BK221.out 0
       have hfz66_1:=qi BK221.out 1
       go_wp2
       go_roundg k2
       case measure=>have:=HK1.out;have:=HK2.out;omega
       case rel=>exact ⟨(wrap64 (x6_1 + 1)),(x1001_2),(x1002_2),(x222001_2),(u222001),(by first|rfl|(simp;done)|(simp [*];done)),H',⟨by have:=HK1.out;have:=HK2.out;omega⟩,⟨by (with_reducible repeat (first|apply Kd.R_alloc|apply Kd.R_drewN|apply Kd.R_drew));exact HO_222001.out⟩,⟨by (with_reducible repeat (first|refine qb ?_ _|refine qe ?_|refine qc ?_ _));exact BK217.out⟩,⟨by (with_reducible repeat (first|refine qb ?_ _|refine qe ?_|refine qc ?_ _));exact BK221.out⟩,⟨by repeat (first|(with_reducible first|exact HI0.out|apply IsS140.alloc|apply IsS140.drewN|apply IsS140.drew|apply IsS140.set_1|apply IsS140.set_2|refine IsS140.far ?_ NB0_217.out _|refine IsS140.far ?_ NB0_221.out _)|exact HI0.out)⟩,⟨by repeat (first|(with_reducible first|exact HK.out|apply KeepBut.set_|apply keep_drewN|apply keep_drew|apply keep_alloc|refine keep_far ?_ GW217.out _|refine keep_far ?_ GW221.out _)|exact HK.out)⟩,⟨by repeat (first|(with_reducible first|exact HB.out|apply qf|apply qa|apply qd|refine qg ?_ (IsS140.ge HI0.out)|refine qg ?_ GE217.out|refine qg ?_ GE221.out)|exact HB.out)⟩⟩
   ·rw [if_neg c16] at H
    have c16b0 : decide (x6_1 < t218) = false:=decide_eq_false c16
    clear c16
    simp only [Option.some.injEq,Prod.mk.injEq] at H
    obtain ⟨rfl,rfl,rfl,rfl⟩:=H
    have hnb67:=NB221_217.out
    have hnc67:=NB217_221.out
    have hnb68:=NB221_0.out
    have hnc68:=NB0_221.out
    have hcz69_0 : wr.cell? ⟨gb221,0,none⟩ = some (.int .i64 t218):=(qh BK221.out 0).trans rfl
    have hcz69_1 : wr.cell? ⟨gb221,1,none⟩ = some (u222001):=(qh BK221.out 1).trans rfl
    have hfz69_0:=qi BK221.out 0
    have hfz69_1:=qi BK221.out 1
    have hnb70:=NB217_0.out
    have hnc70:=NB0_217.out
    have hcz71_0 : wr.cell? ⟨gb217,0,none⟩ = some (.int .i64 0):=(qh BK217.out 0).trans rfl
    have hcz71_1 : wr.cell? ⟨gb217,1,none⟩ = some (.slice none 0 0):=(qh BK217.out 1).trans rfl
    have hfz71_0:=qi BK217.out 0
    have hfz71_1:=qi BK217.out 1
    obtain ⟨Ao72,co72,eo72⟩:=Kd.R_slice HO_222001.out
    subst eo72
    go_wp2
    refine bodyPost_ret (results_cell_row rfl _ _ gb217 26 #[.int .i64 t218,.slice Ao72 x222001_1.length co72] (0,0) _ rfl (by (with_reducible repeat (first|refine qb ?_ _|refine qe ?_|refine qc ?_ _));refine blk_put (cs:=#[.int .i64 t218,.slice none 0 0]) ?_ 1 _ rfl;(with_reducible repeat (first|refine qb ?_ _|refine qe ?_|refine qc ?_ _));refine blk_put (cs:=#[.int .i64 0,.slice none 0 0]) ?_ 0 _ rfl;(with_reducible repeat (first|refine qb ?_ _|refine qe ?_|refine qc ?_ _));exact BK217.out) Try.underlying26 rfl (by kernel_rfl)) rfl ?_
    exact ⟨_,by first|rfl|(simp [errW_none,errW_some] <;> rfl)|(simp [*,errW_none,errW_some] <;> rfl),by (with_reducible repeat (first|apply Kd.R_alloc|apply Kd.R_drewN|apply Kd.R_drew));exact Kd.R_mono (Kd.R_far (p:=⟨gb217,1,none⟩) (Kd.R_far (p:=⟨gb217,0,none⟩) (Kd.R_types HO_222001.out BK217.out (by decide)) (fun _ hk=>hk.2) (.int .i64 t218)) (fun _ hk=>hk.2) (.slice Ao72 x222001_1.length co72)) (fun _ hk=>trivial),by repeat (first|(with_reducible first|exact HI0.out|apply IsS140.alloc|apply IsS140.drewN|apply IsS140.drew|apply IsS140.set_1|apply IsS140.set_2|refine IsS140.far ?_ NB0_217.out _|refine IsS140.far ?_ NB0_221.out _)|exact HI0.out),by repeat (first|(with_reducible first|exact HB.out|apply qf|apply qa|apply qd|refine qg ?_ (IsS140.ge HI0.out)|refine qg ?_ GE217.out|refine qg ?_ GE221.out)|exact HB.out),by repeat (first|(with_reducible first|exact HK.out|apply KeepBut.set_|apply keep_drewN|apply keep_drew|apply keep_alloc|refine keep_far ?_ GW217.out _|refine keep_far ?_ GW221.out _)|exact HK.out)⟩

end Go.Proofs.Ytfmemcffbfahhaa.QFnBest
