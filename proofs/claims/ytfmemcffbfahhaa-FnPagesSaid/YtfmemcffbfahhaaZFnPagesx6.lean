/- Lean functions for the Go functions that the law FnPages reaches, and that each Go function comes to just its Lean function's answer; by a program of this session. -/
import Derived.Test.YtfmemcffbfahhaaZFnPagesx0
import Derived.Test.YtfmemcffbfahhaaZFnPagesx2
import Derived.Test.YtfmemcffbfahhaaZFnPagesx4
import Derived.Test.YtfmemcffbfahhaaZFnPagesx5
namespace Go.Proofs.Ytfmemcffbfahhaa.QFnPages
open Go.RowKit Go.Proofs.YtfmemcffbfahhaaW.PrintWords Go.Proofs.YtfmemcffbfahhaaW.PrintLast Go.Proofs.YtfmemcffbfahhaaW.PrintMore
attribute [local go_sem] max2_int min2_int max_two min_two max_three min_three max_four min_four   -- for this text's walks alone
set_option linter.unusedVariables false
set_option linter.unusedSimpArgs false

/-! ### impl_ReadPage: function 26 -/
mutual
def impl_ReadPage.l0 : Nat → ByteArray → Int → ByteArray → Int → Bool → Int → List (S61) → Option (Int × (List (S61)) × Bool)
 | 0,_,_,_,_,_,_,_=>none
 | k + 1,x0,x8,x198000,x198001,x198002,x199000,x199001=>if x8 > 0 then (impl_ReadPage.j1 k x0 x8 (!x198002) x198000 x198001 x198002 x199000 x199001) else (impl_ReadPage.j1 k x0 x8 false x198000 x198001 x198002 x199000 x199001)
def impl_ReadPage.j1 : Nat → ByteArray → Int → Bool → ByteArray → Int → Bool → Int → List (S61) → Option (Int × (List (S61)) × Bool)
 | 0,_,_,_,_,_,_,_,_=>none
 | k + 1,x0,x8,x36,x198000,x198001,x198002,x199000,x199001=>if x36 = true then ((impl_reader_short.f k x198000 x198001 x198002).bind fun bt207=>(if x199000 = 2 then ((impl_reader_num.f k bt207.2.1 bt207.2.2.1 bt207.2.2.2).bind fun bt212=>(if x199001.length < 3518437208883 then (impl_ReadPage.l0 k x0 (wrap64 (x8 - 1)) bt212.2.1 bt212.2.2.1 bt212.2.2.2 x199000 (x199001 ++ [(⟨bt207.1,(⟨#[]⟩ : ByteArray),bt212.1⟩ : S61)])) else (none))) else ((impl_reader_short.f k bt207.2.1 bt207.2.2.1 bt207.2.2.2).bind fun bt219=>(if x199001.length < 3518437208883 then (impl_ReadPage.l0 k x0 (wrap64 (x8 - 1)) bt219.2.1 bt219.2.2.1 bt219.2.2.2 x199000 (x199001 ++ [(⟨bt207.1,bt219.1,0⟩ : S61)])) else (none))))) else ((impl_PageText.f k x199000 x199001).bind fun bt226=>((impl_reader_ends.f x198000 x198001 x198002).bind fun bt228=>(if bt228.1 = true then (if bt226.2 = true then (if bt226.1.toList = x0.toList then (some (x199000,x199001,true)) else (some (0,([] : List (S61)),false))) else (some (0,([] : List (S61)),false))) else (some (0,([] : List (S61)),false)))))
end
def impl_ReadPage.f (k : Nat) (a0 : ByteArray) : Option (Int × (List (S61)) × Bool):=(impl_Unsealed.f k a0).bind fun bt192=>(if bt192.2 = true then ((impl_newReader.f bt192.1).bind fun bt194=>((impl_reader_one.f bt194.1 bt194.2.1 bt194.2.2).bind fun bt199=>((impl_reader_num.f k bt199.2.1 bt199.2.2.1 bt199.2.2.2).bind fun bt203=>(impl_ReadPage.l0 k a0 bt203.1 bt203.2.1 bt203.2.2.1 bt203.2.2.2 bt199.1 ([] : List (S61)))))) else (some (0,([] : List (S61)),false)))
theorem impl_ReadPage.mono_l : ∀ k,(∀ y0 y1 y2 y3 y4 y5 y6,LeO (impl_ReadPage.l0 k y0 y1 y2 y3 y4 y5 y6) (impl_ReadPage.l0 (k + 1) y0 y1 y2 y3 y4 y5 y6)) ∧ (∀ y0 y1 y2 y3 y4 y5 y6 y7,LeO (impl_ReadPage.j1 k y0 y1 y2 y3 y4 y5 y6 y7) (impl_ReadPage.j1 (k + 1) y0 y1 y2 y3 y4 y5 y6 y7))
 | 0=>⟨fun _ _ _ _ _ _ _ r h=>by simp [impl_ReadPage.l0] at h,fun _ _ _ _ _ _ _ _ r h=>by simp [impl_ReadPage.j1] at h⟩
 | k + 1=>by
  obtain ⟨ih0,ih1⟩:=impl_ReadPage.mono_l k
  refine ⟨?_,?_⟩
  ·intro y0 y1 y2 y3 y4 y5 y6
   unfold impl_ReadPage.l0
   repeat' first
   | (with_reducible exact ih0 _ _ _ _ _ _ _)
   | (with_reducible exact ih1 _ _ _ _ _ _ _ _)
   | (with_reducible exact impl_PageText.mono _ _ _)
   | (with_reducible exact impl_Unsealed.mono _ _)
   | (with_reducible exact impl_reader_num.mono _ _ _ _)
   | (with_reducible exact impl_reader_short.mono _ _ _ _)
   | (with_reducible exact LeO.refl _)
   | (with_reducible exact LeO.none _)
   | (with_reducible refine LeO.ite ?_ ?_)
   | (with_reducible refine LeO.bind ?_ (fun _=>?_))
   | exact ih0 _ _ _ _ _ _ _
   | exact ih1 _ _ _ _ _ _ _ _
   | exact impl_PageText.mono _ _ _
   | exact impl_Unsealed.mono _ _
   | exact impl_reader_num.mono _ _ _ _
   | exact impl_reader_short.mono _ _ _ _
   | exact LeO.none _
   | refine LeO.ite ?_ ?_
   | refine LeO.bind ?_ (fun _=>?_)
  ·intro y0 y1 y2 y3 y4 y5 y6 y7
   unfold impl_ReadPage.j1
   repeat' first
   | (with_reducible exact ih0 _ _ _ _ _ _ _)
   | (with_reducible exact ih1 _ _ _ _ _ _ _ _)
   | (with_reducible exact impl_PageText.mono _ _ _)
   | (with_reducible exact impl_Unsealed.mono _ _)
   | (with_reducible exact impl_reader_num.mono _ _ _ _)
   | (with_reducible exact impl_reader_short.mono _ _ _ _)
   | (with_reducible exact LeO.refl _)
   | (with_reducible exact LeO.none _)
   | (with_reducible refine LeO.ite ?_ ?_)
   | (with_reducible refine LeO.bind ?_ (fun _=>?_))
   | exact ih0 _ _ _ _ _ _ _
   | exact ih1 _ _ _ _ _ _ _ _
   | exact impl_PageText.mono _ _ _
   | exact impl_Unsealed.mono _ _
   | exact impl_reader_num.mono _ _ _ _
   | exact impl_reader_short.mono _ _ _ _
   | exact LeO.none _
   | refine LeO.ite ?_ ?_
   | refine LeO.bind ?_ (fun _=>?_)
theorem impl_ReadPage.mono : ∀ a0 k,LeO (impl_ReadPage.f k a0) (impl_ReadPage.f (k + 1) a0):=by
 intro a0 k
 obtain ⟨ih0,ih1⟩:=impl_ReadPage.mono_l k
 unfold impl_ReadPage.f
 repeat' first
   | (with_reducible exact ih0 _ _ _ _ _ _ _)
   | (with_reducible exact ih1 _ _ _ _ _ _ _ _)
   | (with_reducible exact impl_PageText.mono _ _ _)
   | (with_reducible exact impl_Unsealed.mono _ _)
   | (with_reducible exact impl_reader_num.mono _ _ _ _)
   | (with_reducible exact impl_reader_short.mono _ _ _ _)
   | (with_reducible exact LeO.refl _)
   | (with_reducible exact LeO.none _)
   | (with_reducible refine LeO.ite ?_ ?_)
   | (with_reducible refine LeO.bind ?_ (fun _=>?_))
   | exact ih0 _ _ _ _ _ _ _
   | exact ih1 _ _ _ _ _ _ _ _
   | exact impl_PageText.mono _ _ _
   | exact impl_Unsealed.mono _ _
   | exact impl_reader_num.mono _ _ _ _
   | exact impl_reader_short.mono _ _ _ _
   | exact LeO.none _
   | refine LeO.ite ?_ ?_
   | refine LeO.bind ?_ (fun _=>?_)
set_option maxHeartbeats 8000000 in
set_option maxRecDepth 100000 in
theorem impl_ReadPage.calls (k : Nat) (a0 : ByteArray) (r1 : Int) (r2 : List (S61)) (r3 : Bool) (w : World) (h : impl_ReadPage.f k a0 = some (r1,r2,r3)) :
  Calls Try.prog 26 #[.string a0] w fun e w'=>∃ v1_ : Value,e = .returned (.tuple #[.agg #[.int .i64 r1,v1_],.bool r3]) ∧ Kd.R k61 61 w' w.heap.size (fun _=>True) v1_ r2 ∧ Below w.heap.size w w':=by
 have hu50:=Try.underlying50
 have hu61:=Try.underlying61
 have HB:=qn.mk (Below.refl w.heap.size w)
 have H : ((impl_Unsealed.f k a0).bind fun bt192=>(if bt192.2 = true then ((impl_newReader.f bt192.1).bind fun bt194=>((impl_reader_one.f bt194.1 bt194.2.1 bt194.2.2).bind fun bt199=>((impl_reader_num.f k bt199.2.1 bt199.2.2.1 bt199.2.2.2).bind fun bt203=>(impl_ReadPage.l0 k a0 bt203.1 bt203.2.1 bt203.2.2.1 bt203.2.2.2 bt199.1 ([] : List (S61)))))) else (some (0,([] : List (S61)),false)))) = some (r1,r2,r3):=h
 clear h
 replace H:=Option.bind_eq_some_iff.mp H
 obtain ⟨⟨t192,t193⟩,A20,H⟩:=H
 replace H : (if t193 = true then ((impl_newReader.f t192).bind fun bt194=>((impl_reader_one.f bt194.1 bt194.2.1 bt194.2.2).bind fun bt199=>((impl_reader_num.f k bt199.2.1 bt199.2.2.1 bt199.2.2.2).bind fun bt203=>(impl_ReadPage.l0 k a0 bt203.1 bt203.2.1 bt203.2.2.1 bt203.2.2.2 bt199.1 ([] : List (S61)))))) else (some (0,([] : List (S61)),false))) = some (r1,r2,r3):=H
 have A2:=qn.mk A20
 clear A20
 by_cases c3 : t193 = true
 ·subst c3
  have H1 : ((impl_newReader.f t192).bind fun bt194=>((impl_reader_one.f bt194.1 bt194.2.1 bt194.2.2).bind fun bt199=>((impl_reader_num.f k bt199.2.1 bt199.2.2.1 bt199.2.2.2).bind fun bt203=>(impl_ReadPage.l0 k a0 bt203.1 bt203.2.1 bt203.2.2.1 bt203.2.2.2 bt199.1 ([] : List (S61)))))) = some (r1,r2,r3):=by rw [if_pos rfl] at H;exact H
  clear H
  have H:=H1
  clear H1
  replace H:=Option.bind_eq_some_iff.mp H
  obtain ⟨⟨t194,t195,t196⟩,A40,H⟩:=H
  replace H : ((impl_reader_one.f t194 t195 t196).bind fun bt199=>((impl_reader_num.f k bt199.2.1 bt199.2.2.1 bt199.2.2.2).bind fun bt203=>(impl_ReadPage.l0 k a0 bt203.1 bt203.2.1 bt203.2.2.1 bt203.2.2.2 bt199.1 ([] : List (S61))))) = some (r1,r2,r3):=H
  have A4:=qn.mk A40
  clear A40
  replace H:=Option.bind_eq_some_iff.mp H
  obtain ⟨⟨t199,t200,t201,t202⟩,A50,H⟩:=H
  replace H : ((impl_reader_num.f k t200 t201 t202).bind fun bt203=>(impl_ReadPage.l0 k a0 bt203.1 bt203.2.1 bt203.2.2.1 bt203.2.2.2 t199 ([] : List (S61)))) = some (r1,r2,r3):=H
  have A5:=qn.mk A50
  clear A50
  replace H:=Option.bind_eq_some_iff.mp H
  obtain ⟨⟨t203,t204,t205,t206⟩,A60,H⟩:=H
  replace H : (impl_ReadPage.l0 k a0 t203 t204 t205 t206 t199 ([] : List (S61))) = some (r1,r2,r3):=H
  have A6:=qn.mk A60
  clear A60
  have H':=qn.mk H
  clear H
  go_enter Try.func26,Try.ntmps26
  go_wp2_with (first|((with_reducible refine gate_dst (N:=2) rfl ?_);refine box_event ?hg (N:=2) ?hd (cs:=#[.int .i64 0,.slice none 0 0]) (t:=50) ?hr ?_;(case hd=>rfl);(case hg=>rfl);(case hr=>first|(go_simp;done)|(go_simp;rfl));intro gb191 hg w7 hbox hb;have n0_:=hs_ HB hb;have n1_:=qn.mk (hbox);have n2_:=qn.mk ((by rw [hg];exact (qj (by repeat (first|(with_reducible first|exact HB.out|apply qf|apply qa|apply qd)|exact HB.out))) : w.heap.size ≤ gb191));have n3_:=qn.mk ((by rw [hg];exact (qj (by repeat (first|(with_reducible first|exact HB.out|apply qf|apply qa|apply qd)|exact HB.out))) : w.heap.size ≤ gb191));clear HB;have HB:=n0_;have BK191:=n1_;have GW191:=n2_;have GE191:=n3_;clear n0_ n1_ n2_ n3_;clear hb hbox hg)|((with_reducible refine gate_callee (f:=48) rfl ?_);refine goesL_ (some 14) rfl rfl Try.func48 (by kernel_rfl) rfl #[.string a0] rfl (by (try simp only [List.map_toArray,List.map_cons,List.map_nil]);first|done|rfl|(simp only [List.length_drop,List.length_take];rfl)) ?_;(with_reducible refine (impl_Unsealed.calls k a0 t192 true _ A2.out).mono ?_);rintro e w8 ⟨rfl,hb⟩;refine ⟨_,rfl,?_⟩;have n0_:=bb_ BK191 hb;have n1_:=hs_ HB hb;clear BK191;clear HB;have BK191:=n0_;have HB:=n1_;clear n0_ n1_;(try clear hb);(try clear hb2);(try clear hk);(try clear hi))|((with_reducible refine gate_dst (N:=22) rfl ?_);refine box_event ?hg (N:=22) ?hd (cs:=#[.string t192,.int .i64 0,.bool false]) (t:=107) ?hr ?_;(case hd=>rfl);(case hg=>rfl);(case hr=>first|(go_simp;done)|(go_simp;rfl));intro g197 hg w9 hbox hb2;have hge : w.heap.size ≤ g197:=(by rw [hg];exact (qj (by repeat (first|(with_reducible first|exact HB.out|apply qf|apply qa|apply qd|refine qg ?_ GE191.out)|exact HB.out))));have hi : IsS107 w w9 g197 t194 t195 t196:=(by have h_:=A4.out;simp only [impl_newReader.f,Option.some.injEq,Prod.mk.injEq] at h_;obtain ⟨rfl,rfl,rfl⟩:=h_;exact ⟨hbox,hge⟩);have hb : Below w.heap.size w w9:=qm (by repeat (first|(with_reducible first|exact HB.out|apply qf|apply qa|apply qd|refine qg ?_ GE191.out)|exact HB.out)) hb2;clear hbox hg hge;have n0_:=qn.mk (ql (g:=gb191) (o:=.cells #[.int .i64 0,.slice none 0 0] 50 (0,0)) (by (with_reducible repeat (first|refine qb ?_ _|refine qe ?_|refine qc ?_ _));exact BK191.out) hb2);have n1_:=qn.mk (hb);have n2_:=qn.mk (hi);have n3_:=qn.mk (IsS107.ne_blk hi (ql (g:=gb191) (o:=.cells #[.int .i64 0,.slice none 0 0] 50 (0,0)) (by (with_reducible repeat (first|refine qb ?_ _|refine qe ?_|refine qc ?_ _));exact BK191.out) hb2) (by decide));have n4_:=qn.mk (Ne.symm (IsS107.ne_blk hi (ql (g:=gb191) (o:=.cells #[.int .i64 0,.slice none 0 0] 50 (0,0)) (by (with_reducible repeat (first|refine qb ?_ _|refine qe ?_|refine qc ?_ _));exact BK191.out) hb2) (by decide)));clear BK191;clear HB;have BK191:=n0_;have HB:=n1_;have HI197:=n2_;have NB197_191:=n3_;have NB191_197:=n4_;clear n0_ n1_ n2_ n3_ n4_;(try clear hb);(try clear hb2);(try clear hk);(try clear hi))|((with_reducible refine gate_dst (N:=7) rfl ?_);refine box_event ?hg (N:=7) ?hd (cs:=#[.int .i64 0,.slice none 0 0]) (t:=50) ?hr ?_;(case hd=>rfl);(case hg=>rfl);(case hr=>first|(go_simp;done)|(go_simp;rfl));intro gb198 hg w10 hbox hb;have n0_:=bb_ BK191 hb;have n1_:=qn.mk (IsS107.below (by repeat (first|(with_reducible first|exact HI197.out|apply IsS107.alloc|apply IsS107.drewN|apply IsS107.drew|apply IsS107.set_0|apply IsS107.set_1|apply IsS107.set_2|refine IsS107.far ?_ NB197_191.out _)|exact HI197.out)) hb);have n2_:=qn.mk (qm (by repeat (first|(with_reducible first|exact HB.out|apply qf|apply qa|apply qd|refine qg ?_ (IsS107.ge HI197.out)|refine qg ?_ GE191.out)|exact HB.out)) hb);have n3_:=qn.mk (hbox);have n4_:=qn.mk ((by rw [hg];exact (qj (by repeat (first|(with_reducible first|exact HB.out|apply qf|apply qa|apply qd|refine qg ?_ (IsS107.ge HI197.out)|refine qg ?_ GE191.out)|exact HB.out))) : w.heap.size ≤ gb198));have n5_:=qn.mk ((by rw [hg];exact (qj (by repeat (first|(with_reducible first|exact HB.out|apply qf|apply qa|apply qd|refine qg ?_ (IsS107.ge HI197.out)|refine qg ?_ GE191.out)|exact HB.out))) : w.heap.size ≤ gb198));have n6_:=qn.mk ((by rw [hg];exact nl_ BK191 : gb191 ≠ gb198));have n7_:=qn.mk ((by rw [hg];exact ng_ BK191 : gb198 ≠ gb191));have n8_:=qn.mk ((by rw [hg];exact Nat.ne_of_lt (IsS107.lt (show IsS107 w _ g197 t194 t195 t196 from by repeat (first|(with_reducible first|exact HI197.out|apply IsS107.alloc|apply IsS107.drewN|apply IsS107.drew|apply IsS107.set_0|apply IsS107.set_1|apply IsS107.set_2|refine IsS107.far ?_ NB197_191.out _)|exact HI197.out))) : g197 ≠ gb198));have n9_:=qn.mk ((by rw [hg];exact Nat.ne_of_gt (IsS107.lt (show IsS107 w _ g197 t194 t195 t196 from by repeat (first|(with_reducible first|exact HI197.out|apply IsS107.alloc|apply IsS107.drewN|apply IsS107.drew|apply IsS107.set_0|apply IsS107.set_1|apply IsS107.set_2|refine IsS107.far ?_ NB197_191.out _)|exact HI197.out))) : gb198 ≠ g197));clear BK191;clear HI197;clear HB;have BK191:=n0_;have HI197:=n1_;have HB:=n2_;have BK198:=n3_;have GW198:=n4_;have GE198:=n5_;have NB191_198:=n6_;have NB198_191:=n7_;have NB197_198:=n8_;have NB198_197:=n9_;clear n0_ n1_ n2_ n3_ n4_ n5_ n6_ n7_ n8_ n9_;clear hb hbox hg)|((with_reducible refine gate_callee (f:=68) rfl ?_);refine goesL_ (some 24) rfl rfl Try.func68 (by kernel_rfl) rfl #[.pointer (some ⟨g197,0,none⟩)] rfl (by (try simp only [List.map_toArray,List.map_cons,List.map_nil]);first|done|rfl|(simp only [List.length_drop,List.length_take];rfl)) ?_;(with_reducible refine (impl_reader_one.calls g197 t194 t195 t196 t199 t200 t201 t202 w _ ?side1 ?side2 A5.out).mono ?_);(case side1=>repeat (first|(with_reducible first|exact HI197.out|apply IsS107.alloc|apply IsS107.drewN|apply IsS107.drew|apply IsS107.set_0|apply IsS107.set_1|apply IsS107.set_2|refine IsS107.far ?_ NB197_191.out _|refine IsS107.far ?_ NB197_198.out _)|exact HI197.out));(case side2=>repeat (first|(with_reducible first|exact HB.out|apply qf|apply qa|apply qd|refine qg ?_ (IsS107.ge HI197.out)|refine qg ?_ GE191.out|refine qg ?_ GE198.out)|exact HB.out));rintro e w11 ⟨rfl,hi,hb,hk⟩;refine ⟨_,rfl,?_⟩;have n0_:=qn.mk (KeepBut.blk hk (g':=gb191) (o:=.cells #[.int .i64 0,.slice none 0 0] 50 (0,0)) (by (with_reducible repeat (first|refine qb ?_ _|refine qe ?_|refine qc ?_ _));exact BK191.out) NB191_197.out (by simp));have n1_:=qn.mk (KeepBut.blk hk (g':=gb198) (o:=.cells #[.int .i64 0,.slice none 0 0] 50 (0,0)) (by (with_reducible repeat (first|refine qb ?_ _|refine qe ?_|refine qc ?_ _));exact BK198.out) NB198_197.out (by simp));have n2_:=qn.mk (hb);have n3_:=qn.mk (hi);clear BK191;clear BK198;clear HB;clear HI197;have BK191:=n0_;have BK198:=n1_;have HB:=n2_;have HI197:=n3_;clear n0_ n1_ n2_ n3_;(try clear hb);(try clear hb2);(try clear hk);(try clear hi);have hnb12:=NB198_191.out;have hnc12:=NB191_198.out;have hnb13:=NB198_197.out;have hnc13:=NB197_198.out;have hcz14_0 : w11.cell? ⟨gb198,0,none⟩ = some (.int .i64 0):=(qh BK198.out 0).trans rfl;have hcz14_1 : w11.cell? ⟨gb198,1,none⟩ = some (.slice none 0 0):=(qh BK198.out 1).trans rfl;have hfz14_0:=qi BK198.out 0;have hfz14_1:=qi BK198.out 1)|((with_reducible refine gate_callee (f:=69) rfl ?_);refine goesL_ (some 27) rfl rfl Try.func69 (by kernel_rfl) rfl #[.pointer (some ⟨g197,0,none⟩)] rfl (by (try simp only [List.map_toArray,List.map_cons,List.map_nil]);first|done|rfl|(simp only [List.length_drop,List.length_take];rfl)) ?_;(with_reducible refine (impl_reader_num.calls k g197 t200 t201 t202 t203 t204 t205 t206 w _ ?side1 ?side2 A6.out).mono ?_);(case side1=>repeat (first|(with_reducible first|exact HI197.out|apply IsS107.alloc|apply IsS107.drewN|apply IsS107.drew|apply IsS107.set_0|apply IsS107.set_1|apply IsS107.set_2|refine IsS107.far ?_ NB197_191.out _|refine IsS107.far ?_ NB197_198.out _)|exact HI197.out));(case side2=>repeat (first|(with_reducible first|exact HB.out|apply qf|apply qa|apply qd|refine qg ?_ (IsS107.ge HI197.out)|refine qg ?_ GE191.out|refine qg ?_ GE198.out)|exact HB.out));rintro e w15 ⟨rfl,hi,hb,hk⟩;refine ⟨_,rfl,?_⟩;have n0_:=qn.mk (KeepBut.blk hk (g':=gb191) (o:=.cells #[.int .i64 0,.slice none 0 0] 50 (0,0)) (by (with_reducible repeat (first|refine qb ?_ _|refine qe ?_|refine qc ?_ _));refine blk_far ?_ NB191_198.out _;(with_reducible repeat (first|refine qb ?_ _|refine qe ?_|refine qc ?_ _));exact BK191.out) NB191_197.out (by simp));have n1_:=qn.mk (KeepBut.blk hk (g':=gb198) (o:=.cells #[.int .i64 t199,.slice none 0 0] 50 (0,0)) (by (with_reducible repeat (first|refine qb ?_ _|refine qe ?_|refine qc ?_ _));refine blk_put (cs:=#[.int .i64 0,.slice none 0 0]) ?_ 0 _ rfl;(with_reducible repeat (first|refine qb ?_ _|refine qe ?_|refine qc ?_ _));exact BK198.out) NB198_197.out (by simp));have n2_:=qn.mk (hb);have n3_:=qn.mk (hi);clear BK191;clear BK198;clear HB;clear HI197;have BK191:=n0_;have BK198:=n1_;have HB:=n2_;have HI197:=n3_;clear n0_ n1_ n2_ n3_;(try clear hb);(try clear hb2);(try clear hk);(try clear hi)))
  go_loopg [8] k (fun kq v8 w'=>∃ (x8_1 : Int) (x198000_1 : ByteArray) (x198001_1 : Int) (x198002_1 : Bool) (x199001_1 : List (S61)) (u199001 : Value),v8 = .int .i64 x8_1 ∧ qn (impl_ReadPage.l0 kq a0 x8_1 x198000_1 x198001_1 x198002_1 t199 x199001_1 = some (r1,r2,r3)) ∧ qn (kq ≤ k) ∧ qn (Kd.R k61 61 w' w.heap.size (fun _=>True) u199001 x199001_1) ∧ qn (w'.heap[gb191]? = some (.cells #[.int .i64 0,(.slice none 0 0)] 50 (0,0))) ∧ qn (w'.heap[gb198]? = some (.cells #[.int .i64 t199,u199001] 50 (0,0))) ∧ qn (IsS107 w w' g197 x198000_1 x198001_1 x198002_1) ∧ qn (Below w.heap.size w w'))
  case atStart=>exact ⟨(t203),(t204),(t205),(t206),(([] : List (S61))),(.slice none 0 0),(by first|rfl|(simp;done)|(simp [*];done)),H',⟨Nat.le_refl _⟩,⟨by first|exact Kd.R_nil _ _ _ _ _|exact Kd.N_nil _ _ _ _ _|exact Kd.V_nil _ _ _ _ _|exact Kd.Q_nil _ _ _ _ _|exact Kd.S_nil _ _ _ _ _⟩,⟨by (with_reducible repeat (first|refine qb ?_ _|refine qe ?_|refine qc ?_ _));exact BK191.out⟩,⟨by (with_reducible repeat (first|refine qb ?_ _|refine qe ?_|refine qc ?_ _));exact BK198.out⟩,⟨by repeat (first|(with_reducible first|exact HI197.out|apply IsS107.alloc|apply IsS107.drewN|apply IsS107.drew|apply IsS107.set_0|apply IsS107.set_1|apply IsS107.set_2|refine IsS107.far ?_ NB197_191.out _|refine IsS107.far ?_ NB197_198.out _)|exact HI197.out)⟩,⟨by repeat (first|(with_reducible first|exact HB.out|apply qf|apply qa|apply qd|refine qg ?_ (IsS107.ge HI197.out)|refine qg ?_ GE191.out|refine qg ?_ GE198.out)|exact HB.out)⟩⟩
  case round =>
   clear H'
   try clear c1
   try clear c2
   try clear p2
   try clear c3
   try clear c4
   try clear c6
   try clear c12
   try clear c13
   try clear hcz14_0
   try clear hcz14_1
   try clear hfz14_0
   try clear hfz14_1
   obtain ⟨x8_1,x198000_1,x198001_1,x198002_1,x199001_1,u199001,rfl,HA,HK1,HO_199001,BK191,BK198,HI197,HB⟩:=hrel
   cases gk with
   | zero=>exact absurd HA.out (by simp [impl_ReadPage.l0])
   | succ k1 =>
    have H:=HA.out
    clear HA
    simp only [impl_ReadPage.l0] at H
    have HC16:=qn.mk H
    clear H
    go_upto_region 8 with (fail)
    go_cut [36] (fun v36 wc=>∃ (kq : Nat) (x36_15 : Bool),v36 = .bool x36_15 ∧ qn (impl_ReadPage.j1 kq a0 x8_1 x36_15 x198000_1 x198001_1 x198002_1 t199 x199001_1 = some (r1,r2,r3)) ∧ qn (kq ≤ k1) ∧ qn (Kd.R k61 61 wc w.heap.size (fun _=>True) u199001 x199001_1) ∧ qn (wc.heap[gb191]? = some (.cells #[.int .i64 0,(.slice none 0 0)] 50 (0,0))) ∧ qn (wc.heap[gb198]? = some (.cells #[.int .i64 t199,u199001] 50 (0,0))) ∧ qn (IsS107 w wc g197 x198000_1 x198001_1 x198002_1) ∧ qn (Below w.heap.size w wc))
    case first =>
     have H:=HC16.out
     clear HC16
     by_cases c17 : x8_1 > 0
     ·rw [if_pos c17] at H
      have c17b0 : decide (0 < x8_1) = true:=decide_eq_true c17
      clear c17
      (first|rw [c17b0]|(simp only [i64_w,i32_w];rw [c17b0])|skip)
      have H':=qn.mk H
      clear H
      obtain ⟨HGz18,hgz18⟩:=HI197.out
      have hcz18_0:=cellS107_0 HGz18
      have hcz18_1:=cellS107_1 HGz18
      have hcz18_2:=cellS107_2 HGz18
      have hfz18_0:=qi HGz18 0
      have hfz18_1:=qi HGz18 1
      have hfz18_2:=qi HGz18 2
      clear HGz18 hgz18
      go_wp2
      go_meet
      case rel=>exact ⟨_,(!x198002_1),(by first|rfl|(simp;done)|(simp [*];done)),H',⟨by have:=HK1.out;first|omega|exact Nat.le_refl _⟩,⟨by (with_reducible repeat (first|apply Kd.R_alloc|apply Kd.R_drewN|apply Kd.R_drew));exact HO_199001.out⟩,⟨by (with_reducible repeat (first|refine qb ?_ _|refine qe ?_|refine qc ?_ _));exact BK191.out⟩,⟨by (with_reducible repeat (first|refine qb ?_ _|refine qe ?_|refine qc ?_ _));exact BK198.out⟩,⟨by repeat (first|(with_reducible first|exact HI197.out|apply IsS107.alloc|apply IsS107.drewN|apply IsS107.drew|apply IsS107.set_0|apply IsS107.set_1|apply IsS107.set_2|refine IsS107.far ?_ NB197_191.out _|refine IsS107.far ?_ NB197_198.out _)|exact HI197.out)⟩,⟨by repeat (first|(with_reducible first|exact HB.out|apply qf|apply qa|apply qd|refine qg ?_ (IsS107.ge HI197.out)|refine qg ?_ GE191.out|refine qg ?_ GE198.out)|exact HB.out)⟩⟩
     ·rw [if_neg c17] at H
      have c17b0 : decide (0 < x8_1) = false:=decide_eq_false c17
      clear c17
      (first|rw [c17b0]|(simp only [i64_w,i32_w];rw [c17b0])|skip)
      have H':=qn.mk H
      clear H
      go_wp2
      go_meet
      case rel=>exact ⟨_,(false),(by first|rfl|(simp;done)|(simp [*];done)),H',⟨by have:=HK1.out;first|omega|exact Nat.le_refl _⟩,⟨by (with_reducible repeat (first|apply Kd.R_alloc|apply Kd.R_drewN|apply Kd.R_drew));exact HO_199001.out⟩,⟨by (with_reducible repeat (first|refine qb ?_ _|refine qe ?_|refine qc ?_ _));exact BK191.out⟩,⟨by (with_reducible repeat (first|refine qb ?_ _|refine qe ?_|refine qc ?_ _));exact BK198.out⟩,⟨by repeat (first|(with_reducible first|exact HI197.out|apply IsS107.alloc|apply IsS107.drewN|apply IsS107.drew|apply IsS107.set_0|apply IsS107.set_1|apply IsS107.set_2|refine IsS107.far ?_ NB197_191.out _|refine IsS107.far ?_ NB197_198.out _)|exact HI197.out)⟩,⟨by repeat (first|(with_reducible first|exact HB.out|apply qf|apply qa|apply qd|refine qg ?_ (IsS107.ge HI197.out)|refine qg ?_ GE191.out|refine qg ?_ GE198.out)|exact HB.out)⟩⟩
    case rest =>
     clear HC16
     try clear c1
     try clear c2
     try clear p2
     try clear c3
     try clear c4
     try clear c6
     try clear c12
     try clear c13
     try clear c17
     try clear c17b0
     try clear hcz14_0
     try clear hcz14_1
     try clear hcz18_0
     try clear hcz18_1
     try clear hcz18_2
     try clear hfz14_0
     try clear hfz14_1
     try clear hfz18_0
     try clear hfz18_1
     try clear hfz18_2
     try clear p2
     obtain ⟨kq,x36_15,rfl,HA,HJ15,HO_199001,BK191,BK198,HI197,HB⟩:=hcut
     cases kq with
     | zero=>exact absurd HA.out (by simp [impl_ReadPage.j1])
     | succ kj15 =>
      have H:=HA.out
      clear HA
      simp only [impl_ReadPage.j1] at H
      by_cases c19 : x36_15 = true
      ·subst c19
       have H1 : ((impl_reader_short.f kj15 x198000_1 x198001_1 x198002_1).bind fun bt207=>(if t199 = 2 then ((impl_reader_num.f kj15 bt207.2.1 bt207.2.2.1 bt207.2.2.2).bind fun bt212=>(if x199001_1.length < 3518437208883 then (impl_ReadPage.l0 kj15 a0 (wrap64 (x8_1 - 1)) bt212.2.1 bt212.2.2.1 bt212.2.2.2 t199 (x199001_1 ++ [(⟨bt207.1,(⟨#[]⟩ : ByteArray),bt212.1⟩ : S61)])) else (none))) else ((impl_reader_short.f kj15 bt207.2.1 bt207.2.2.1 bt207.2.2.2).bind fun bt219=>(if x199001_1.length < 3518437208883 then (impl_ReadPage.l0 kj15 a0 (wrap64 (x8_1 - 1)) bt219.2.1 bt219.2.2.1 bt219.2.2.2 t199 (x199001_1 ++ [(⟨bt207.1,bt219.1,0⟩ : S61)])) else (none))))) = some (r1,r2,r3):=by rw [if_pos rfl] at H;exact H
       clear H
       have H:=H1
       clear H1
       replace H:=Option.bind_eq_some_iff.mp H
       obtain ⟨⟨t207,t208,t209,t210⟩,A200,H⟩:=H
       replace H : (if t199 = 2 then ((impl_reader_num.f kj15 t208 t209 t210).bind fun bt212=>(if x199001_1.length < 3518437208883 then (impl_ReadPage.l0 kj15 a0 (wrap64 (x8_1 - 1)) bt212.2.1 bt212.2.2.1 bt212.2.2.2 t199 (x199001_1 ++ [(⟨t207,(⟨#[]⟩ : ByteArray),bt212.1⟩ : S61)])) else (none))) else ((impl_reader_short.f kj15 t208 t209 t210).bind fun bt219=>(if x199001_1.length < 3518437208883 then (impl_ReadPage.l0 kj15 a0 (wrap64 (x8_1 - 1)) bt219.2.1 bt219.2.2.1 bt219.2.2.2 t199 (x199001_1 ++ [(⟨t207,bt219.1,0⟩ : S61)])) else (none)))) = some (r1,r2,r3):=H
       have A20:=qn.mk A200
       clear A200
       by_cases c21 : t199 = 2
       ·rw [if_pos c21] at H
        have c21b0 : (t199 == 2) = true:=beq_iff_eq.mpr c21
        have c21b1 : (t199 != 2) = false:=bne_eq_false_iff_eq.mpr c21
        clear c21
        replace H:=Option.bind_eq_some_iff.mp H
        obtain ⟨⟨t212,t213,t214,t215⟩,A220,H⟩:=H
        replace H : (if x199001_1.length < 3518437208883 then (impl_ReadPage.l0 kj15 a0 (wrap64 (x8_1 - 1)) t213 t214 t215 t199 (x199001_1 ++ [(⟨t207,(⟨#[]⟩ : ByteArray),t212⟩ : S61)])) else (none)) = some (r1,r2,r3):=H
        have A22:=qn.mk A220
        clear A220
        by_cases c23 : x199001_1.length < 3518437208883
        ·rw [if_pos c23] at H
         have LMc23:=qn.mk c23
         clear c23
         obtain ⟨y216,hy216⟩ : ∃ y_ : List (S61),y_ = (x199001_1 ++ [(⟨t207,(⟨#[]⟩ : ByteArray),t212⟩ : S61)]):=⟨_,rfl⟩
         replace H : (impl_ReadPage.l0 kj15 a0 (wrap64 (x8_1 - 1)) t213 t214 t215 t199 y216) = some (r1,r2,r3):=by first|(rw [hy216];with_reducible exact H)|(have H2_:=(Option.bind_some _ _).symm.trans H;rw [hy216];with_reducible exact H2_)|(have H2_:=(Option.bind_some _ _).symm.trans H;with_reducible exact H2_)|with_reducible exact H|(rw [hy216];exact H)|exact H
         have Ny216:=qn.mk hy216
         clear hy216
         have H':=qn.mk H
         clear H
         go_wp2_with (first|((with_reducible refine gate_callee (f:=70) rfl ?_);refine goesL_ (some 40) rfl rfl Try.func70 (by kernel_rfl) rfl #[.pointer (some ⟨g197,0,none⟩)] rfl (by (try simp only [List.map_toArray,List.map_cons,List.map_nil]);first|done|rfl|(simp only [List.length_drop,List.length_take];rfl)) ?_;(with_reducible refine (impl_reader_short.calls kj15 g197 x198000_1 x198001_1 x198002_1 t207 t208 t209 t210 w _ ?side1 ?side2 A20.out).mono ?_);(case side1=>repeat (first|(with_reducible first|exact HI197.out|apply IsS107.alloc|apply IsS107.drewN|apply IsS107.drew|apply IsS107.set_0|apply IsS107.set_1|apply IsS107.set_2|refine IsS107.far ?_ NB197_191.out _|refine IsS107.far ?_ NB197_198.out _)|exact HI197.out));(case side2=>repeat (first|(with_reducible first|exact HB.out|apply qf|apply qa|apply qd|refine qg ?_ (IsS107.ge HI197.out)|refine qg ?_ GE191.out|refine qg ?_ GE198.out)|exact HB.out));rintro e w24 ⟨rfl,hi,hb,hk⟩;refine ⟨_,rfl,?_⟩;have n0_:=qn.mk (Kd.R_mono (Kd.R_keep (IsS107.apart (show IsS107 w _ g197 x198000_1 x198001_1 x198002_1 from by repeat (first|(with_reducible first|exact HI197.out|apply IsS107.alloc|apply IsS107.drewN|apply IsS107.drew|apply IsS107.set_0|apply IsS107.set_1|apply IsS107.set_2|refine IsS107.far ?_ NB197_191.out _|refine IsS107.far ?_ NB197_198.out _)|exact HI197.out)) (by (with_reducible repeat (first|apply Kd.R_alloc|apply Kd.R_drewN|apply Kd.R_drew));exact HO_199001.out) (by decide)) hk (fun _ h=>h.2)) (fun _ h=>h.1));have n1_:=qn.mk (KeepBut.blk hk (g':=gb191) (o:=.cells #[.int .i64 0,.slice none 0 0] 50 (0,0)) (by (with_reducible repeat (first|refine qb ?_ _|refine qe ?_|refine qc ?_ _));exact BK191.out) NB191_197.out (by simp));have n2_:=qn.mk (KeepBut.blk hk (g':=gb198) (o:=.cells #[.int .i64 t199,u199001] 50 (0,0)) (by (with_reducible repeat (first|refine qb ?_ _|refine qe ?_|refine qc ?_ _));exact BK198.out) NB198_197.out (by simp));have n3_:=qn.mk (hb);have n4_:=qn.mk (hi);clear HO_199001;clear BK191;clear BK198;clear HB;clear HI197;have HO_199001:=n0_;have BK191:=n1_;have BK198:=n2_;have HB:=n3_;have HI197:=n4_;clear n0_ n1_ n2_ n3_ n4_;(try clear hb);(try clear hb2);(try clear hk);(try clear hi))|((with_reducible refine gate_dst (N:=9) rfl ?_);refine box_event ?hg (N:=9) ?hd (cs:=#[.string (⟨#[]⟩ : ByteArray),.string (⟨#[]⟩ : ByteArray),.int .i64 0]) (t:=61) ?hr ?_;(case hd=>rfl);(case hg=>rfl);(case hr=>first|(go_simp;done)|(go_simp;rfl));intro gb211 hg w25 hbox hb;have n0_:=qn.mk (Kd.R_below (Kd.R_elderB (by (with_reducible repeat (first|apply Kd.R_alloc|apply Kd.R_drewN|apply Kd.R_drew));exact HO_199001.out) gb211 (Nat.le_of_eq hg.symm)) hb);have n1_:=bb_ BK191 hb;have n2_:=bb_ BK198 hb;have n3_:=qn.mk (IsS107.below (by repeat (first|(with_reducible first|exact HI197.out|apply IsS107.alloc|apply IsS107.drewN|apply IsS107.drew|apply IsS107.set_0|apply IsS107.set_1|apply IsS107.set_2|refine IsS107.far ?_ NB197_191.out _|refine IsS107.far ?_ NB197_198.out _)|exact HI197.out)) hb);have n4_:=qn.mk (qm (by repeat (first|(with_reducible first|exact HB.out|apply qf|apply qa|apply qd|refine qg ?_ (IsS107.ge HI197.out)|refine qg ?_ GE191.out|refine qg ?_ GE198.out)|exact HB.out)) hb);have n5_:=qn.mk (hbox);have n6_:=qn.mk ((by rw [hg];exact (qj (by repeat (first|(with_reducible first|exact HB.out|apply qf|apply qa|apply qd|refine qg ?_ (IsS107.ge HI197.out)|refine qg ?_ GE191.out|refine qg ?_ GE198.out)|exact HB.out))) : w.heap.size ≤ gb211));have n7_:=qn.mk ((by rw [hg];exact (qj (by repeat (first|(with_reducible first|exact HB.out|apply qf|apply qa|apply qd|refine qg ?_ (IsS107.ge HI197.out)|refine qg ?_ GE191.out|refine qg ?_ GE198.out)|exact HB.out))) : w.heap.size ≤ gb211));have n8_:=qn.mk ((by rw [hg];exact nl_ BK191 : gb191 ≠ gb211));have n9_:=qn.mk ((by rw [hg];exact ng_ BK191 : gb211 ≠ gb191));have n10_:=qn.mk ((by rw [hg];exact nl_ BK198 : gb198 ≠ gb211));have n11_:=qn.mk ((by rw [hg];exact ng_ BK198 : gb211 ≠ gb198));have n12_:=qn.mk ((by rw [hg];exact Nat.ne_of_lt (IsS107.lt (show IsS107 w _ g197 t208 t209 t210 from by repeat (first|(with_reducible first|exact HI197.out|apply IsS107.alloc|apply IsS107.drewN|apply IsS107.drew|apply IsS107.set_0|apply IsS107.set_1|apply IsS107.set_2|refine IsS107.far ?_ NB197_191.out _|refine IsS107.far ?_ NB197_198.out _)|exact HI197.out))) : g197 ≠ gb211));have n13_:=qn.mk ((by rw [hg];exact Nat.ne_of_gt (IsS107.lt (show IsS107 w _ g197 t208 t209 t210 from by repeat (first|(with_reducible first|exact HI197.out|apply IsS107.alloc|apply IsS107.drewN|apply IsS107.drew|apply IsS107.set_0|apply IsS107.set_1|apply IsS107.set_2|refine IsS107.far ?_ NB197_191.out _|refine IsS107.far ?_ NB197_198.out _)|exact HI197.out))) : gb211 ≠ g197));clear HO_199001;clear BK191;clear BK198;clear HI197;clear HB;have HO_199001:=n0_;have BK191:=n1_;have BK198:=n2_;have HI197:=n3_;have HB:=n4_;have BK211:=n5_;have GW211:=n6_;have GE211:=n7_;have NB191_211:=n8_;have NB211_191:=n9_;have NB198_211:=n10_;have NB211_198:=n11_;have NB197_211:=n12_;have NB211_197:=n13_;clear n0_ n1_ n2_ n3_ n4_ n5_ n6_ n7_ n8_ n9_ n10_ n11_ n12_ n13_;clear hb hbox hg;have hnb26:=NB211_191.out;have hnc26:=NB191_211.out;have hnb27:=NB211_198.out;have hnc27:=NB198_211.out;have hnb28:=NB211_197.out;have hnc28:=NB197_211.out;have hcz29_0 : w25.cell? ⟨gb211,0,none⟩ = some (.string (⟨#[]⟩ : ByteArray)):=(qh BK211.out 0).trans rfl;have hcz29_1 : w25.cell? ⟨gb211,1,none⟩ = some (.string (⟨#[]⟩ : ByteArray)):=(qh BK211.out 1).trans rfl;have hcz29_2 : w25.cell? ⟨gb211,2,none⟩ = some (.int .i64 0):=(qh BK211.out 2).trans rfl;have hfz29_0:=qi BK211.out 0;have hfz29_1:=qi BK211.out 1;have hfz29_2:=qi BK211.out 2;have hnb30:=NB198_191.out;have hnc30:=NB191_198.out;have hnb31:=NB198_197.out;have hnc31:=NB197_198.out;have hcz32_0 : w25.cell? ⟨gb198,0,none⟩ = some (.int .i64 t199):=(qh BK198.out 0).trans rfl;have hcz32_1 : w25.cell? ⟨gb198,1,none⟩ = some (u199001):=(qh BK198.out 1).trans rfl;have hfz32_0:=qi BK198.out 0;have hfz32_1:=qi BK198.out 1)|((with_reducible refine gate_callee (f:=69) rfl ?_);refine goesL_ (some 46) rfl rfl Try.func69 (by kernel_rfl) rfl #[.pointer (some ⟨g197,0,none⟩)] rfl (by (try simp only [List.map_toArray,List.map_cons,List.map_nil]);first|done|rfl|(simp only [List.length_drop,List.length_take];rfl)) ?_;(with_reducible refine (impl_reader_num.calls kj15 g197 t208 t209 t210 t212 t213 t214 t215 w _ ?side1 ?side2 A22.out).mono ?_);(case side1=>repeat (first|(with_reducible first|exact HI197.out|apply IsS107.alloc|apply IsS107.drewN|apply IsS107.drew|apply IsS107.set_0|apply IsS107.set_1|apply IsS107.set_2|refine IsS107.far ?_ NB197_191.out _|refine IsS107.far ?_ NB197_198.out _|refine IsS107.far ?_ NB197_211.out _)|exact HI197.out));(case side2=>repeat (first|(with_reducible first|exact HB.out|apply qf|apply qa|apply qd|refine qg ?_ (IsS107.ge HI197.out)|refine qg ?_ GE191.out|refine qg ?_ GE198.out|refine qg ?_ GE211.out)|exact HB.out));rintro e w33 ⟨rfl,hi,hb,hk⟩;refine ⟨_,rfl,?_⟩;have n0_:=qn.mk (Kd.R_mono (Kd.R_keep (IsS107.apart (show IsS107 w _ g197 t208 t209 t210 from by repeat (first|(with_reducible first|exact HI197.out|apply IsS107.alloc|apply IsS107.drewN|apply IsS107.drew|apply IsS107.set_0|apply IsS107.set_1|apply IsS107.set_2|refine IsS107.far ?_ NB197_191.out _|refine IsS107.far ?_ NB197_198.out _|refine IsS107.far ?_ NB197_211.out _)|exact HI197.out)) (by (with_reducible repeat (first|apply Kd.R_alloc|apply Kd.R_drewN|apply Kd.R_drew));exact (Kd.R_mono (Kd.R_far (p:=⟨gb211,2,none⟩) (Kd.R_far (p:=⟨gb211,1,none⟩) (Kd.R_far (p:=⟨gb211,0,none⟩) (Kd.R_mono HO_199001.out (fun k_ hk=>(⟨hk,hk.2⟩ : _ ∧ k_ ≠ gb211))) (fun _ hk=>hk.2) (.string t207)) (fun _ hk=>hk.2) (.string (⟨#[]⟩ : ByteArray))) (fun _ hk=>hk.2) (.int .i64 0)) (fun _ h_=>h_.1))) (by decide)) hk (fun _ h=>h.2)) (fun _ h=>h.1));have n1_:=qn.mk (KeepBut.blk hk (g':=gb191) (o:=.cells #[.int .i64 0,.slice none 0 0] 50 (0,0)) (by (with_reducible repeat (first|refine qb ?_ _|refine qe ?_|refine qc ?_ _));refine blk_far ?_ NB191_211.out _;(with_reducible repeat (first|refine qb ?_ _|refine qe ?_|refine qc ?_ _));refine blk_far ?_ NB191_211.out _;(with_reducible repeat (first|refine qb ?_ _|refine qe ?_|refine qc ?_ _));refine blk_far ?_ NB191_211.out _;(with_reducible repeat (first|refine qb ?_ _|refine qe ?_|refine qc ?_ _));exact BK191.out) NB191_197.out (by simp));have n2_:=qn.mk (KeepBut.blk hk (g':=gb198) (o:=.cells #[.int .i64 t199,u199001] 50 (0,0)) (by (with_reducible repeat (first|refine qb ?_ _|refine qe ?_|refine qc ?_ _));refine blk_far ?_ NB198_211.out _;(with_reducible repeat (first|refine qb ?_ _|refine qe ?_|refine qc ?_ _));refine blk_far ?_ NB198_211.out _;(with_reducible repeat (first|refine qb ?_ _|refine qe ?_|refine qc ?_ _));refine blk_far ?_ NB198_211.out _;(with_reducible repeat (first|refine qb ?_ _|refine qe ?_|refine qc ?_ _));exact BK198.out) NB198_197.out (by simp));have n3_:=qn.mk (KeepBut.blk hk (g':=gb211) (o:=.cells #[.string t207,.string (⟨#[]⟩ : ByteArray),.int .i64 0] 61 (0,0)) (by (with_reducible repeat (first|refine qb ?_ _|refine qe ?_|refine qc ?_ _));refine blk_put (cs:=#[.string t207,.string (⟨#[]⟩ : ByteArray),.int .i64 0]) ?_ 2 _ rfl;(with_reducible repeat (first|refine qb ?_ _|refine qe ?_|refine qc ?_ _));refine blk_put (cs:=#[.string t207,.string (⟨#[]⟩ : ByteArray),.int .i64 0]) ?_ 1 _ rfl;(with_reducible repeat (first|refine qb ?_ _|refine qe ?_|refine qc ?_ _));refine blk_put (cs:=#[.string (⟨#[]⟩ : ByteArray),.string (⟨#[]⟩ : ByteArray),.int .i64 0]) ?_ 0 _ rfl;(with_reducible repeat (first|refine qb ?_ _|refine qe ?_|refine qc ?_ _));exact BK211.out) NB211_197.out (by simp));have n4_:=qn.mk (hb);have n5_:=qn.mk (hi);clear HO_199001;clear BK191;clear BK198;clear BK211;clear HB;clear HI197;have HO_199001:=n0_;have BK191:=n1_;have BK198:=n2_;have BK211:=n3_;have HB:=n4_;have HI197:=n5_;clear n0_ n1_ n2_ n3_ n4_ n5_;(try clear hb);(try clear hb2);(try clear hk);(try clear hi);have hcz34_0 : w33.cell? ⟨gb211,0,none⟩ = some (.string t207):=(qh BK211.out 0).trans rfl;have hcz34_1 : w33.cell? ⟨gb211,1,none⟩ = some (.string (⟨#[]⟩ : ByteArray)):=(qh BK211.out 1).trans rfl;have hcz34_2 : w33.cell? ⟨gb211,2,none⟩ = some (.int .i64 0):=(qh BK211.out 2).trans rfl;have hfz34_0:=qi BK211.out 0;have hfz34_1:=qi BK211.out 1;have hfz34_2:=qi BK211.out 2;have hcz35_0 : w33.cell? ⟨gb198,0,none⟩ = some (.int .i64 t199):=(qh BK198.out 0).trans rfl;have hcz35_1 : w33.cell? ⟨gb198,1,none⟩ = some (u199001):=(qh BK198.out 1).trans rfl;have hfz35_0:=qi BK198.out 0;have hfz35_1:=qi BK198.out 1)|((with_reducible refine gate_builtin (b:=.append) (xs:=#[.tmp 52,.tmp 54]) rfl ?_);at_builtin;refine Kd.R_append k61 (w0:=w) w.heap.size rfl (.tmp 52) (.tmp 54) 48 61 (.agg #[(.string ⟨#[]⟩),(.string ⟨#[]⟩),(.int .i64 0)]) 40 rfl Try.underlying48 info61 rfl (by decide) (by omega) u199001 x199001_1 (⟨t207,(⟨#[]⟩ : ByteArray),t212⟩ : S61) [.string t207,.string (⟨#[]⟩ : ByteArray),.int .i64 t212] (fun k_=>k_ ≠ gb211) (fun _=>False) rfl (by first|(go_simp;done)|(go_simp;rfl)) ?aP (fun _ hk=>hk.elim) ?aF ?aO ?aB ?aS ?aL ?_;(case aP=>exact k61_mkM _ _ _ (⟨t207,(⟨#[]⟩ : ByteArray),t212⟩ : S61));(case aB=>exact (by repeat (first|(with_reducible first|exact HB.out|apply qf|apply qa|apply qd|refine qg ?_ (IsS107.ge HI197.out)|refine qg ?_ GE191.out|refine qg ?_ GE198.out|refine qg ?_ GE211.out)|exact HB.out)));(case aF=>exact (fun k_ hk=>Kd.freshB (g:=gb211) (o:=.cells #[.string t207,.string (⟨#[]⟩ : ByteArray),.int .i64 t212] 61 (0,0)) (by (with_reducible repeat (first|refine qb ?_ _|refine qe ?_|refine qc ?_ _));refine blk_put (cs:=#[.string t207,.string (⟨#[]⟩ : ByteArray),.int .i64 0]) ?_ 2 _ rfl;(with_reducible repeat (first|refine qb ?_ _|refine qe ?_|refine qc ?_ _));exact BK211.out) k_ hk));(case aO=>exact (by (with_reducible repeat (first|apply Kd.R_alloc|apply Kd.R_drewN|apply Kd.R_drew));exact Kd.R_mono (Kd.R_far (p:=⟨gb211,2,none⟩) (Kd.R_mono HO_199001.out (fun k_ hk=>(⟨hk,hk.2⟩ : _ ∧ k_ ≠ gb211))) (fun _ hk=>hk.2) (.int .i64 t212)) (fun _ hk=>hk.1.2)));(case aS=>exact (qj (by repeat (first|(with_reducible first|exact HB.out|apply qf|apply qa|apply qd|refine qg ?_ (IsS107.ge HI197.out)|refine qg ?_ GE191.out|refine qg ?_ GE198.out|refine qg ?_ GE211.out)|exact HB.out))));(case aL=>have:=LMc23.out;omega);intro v217 w36 ho hb hg hat;rw [← Ny216.out] at ho;have n0_:=qn.mk (blk_grown (g:=gb191) (o:=.cells #[.int .i64 0,.slice none 0 0] 50 (0,0)) (by (with_reducible repeat (first|refine qb ?_ _|refine qe ?_|refine qc ?_ _));refine blk_far ?_ NB191_211.out _;(with_reducible repeat (first|refine qb ?_ _|refine qe ?_|refine qc ?_ _));exact BK191.out) hg (Kd.R_ne HO_199001.out BK191.out (by decide)));have n1_:=qn.mk (blk_grown (g:=gb198) (o:=.cells #[.int .i64 t199,u199001] 50 (0,0)) (by (with_reducible repeat (first|refine qb ?_ _|refine qe ?_|refine qc ?_ _));refine blk_far ?_ NB198_211.out _;(with_reducible repeat (first|refine qb ?_ _|refine qe ?_|refine qc ?_ _));exact BK198.out) hg (Kd.R_ne HO_199001.out BK198.out (by decide)));have n2_:=qn.mk (IsS107.grown (IsS107.far (p:=⟨gb211,2,none⟩) HI197.out NB197_211.out (.int .i64 t212)) hg (IsS107.own_ne HI197.out HO_199001.out (by decide)));have n3_:=qn.mk (blk_grown (g:=gb211) (o:=.cells #[.string t207,.string (⟨#[]⟩ : ByteArray),.int .i64 t212] 61 (0,0)) (by (with_reducible repeat (first|refine qb ?_ _|refine qe ?_|refine qc ?_ _));refine blk_put (cs:=#[.string t207,.string (⟨#[]⟩ : ByteArray),.int .i64 0]) ?_ 2 _ rfl;(with_reducible repeat (first|refine qb ?_ _|refine qe ?_|refine qc ?_ _));exact BK211.out) hg (Kd.R_away HO_199001.out (fun _ hk=>hk.2)));have n4_:=qn.mk (hb);have n5_:=qn.mk (ho);clear BK191;clear BK198;clear HI197;clear BK211;clear HB;clear HO_199001;have BK191:=n0_;have BK198:=n1_;have HI197:=n2_;have BK211:=n3_;have HB:=n4_;have HO218:=n5_;clear n0_ n1_ n2_ n3_ n4_ n5_;clear ho hb hg hat;obtain ⟨Ao37,co37,eo37⟩:=Kd.R_slice HO218.out;subst eo37;have hcz38_0 : w36.cell? ⟨gb198,0,none⟩ = some (.int .i64 t199):=(qh BK198.out 0).trans rfl;have hcz38_1 : w36.cell? ⟨gb198,1,none⟩ = some (u199001):=(qh BK198.out 1).trans rfl;have hfz38_0:=qi BK198.out 0;have hfz38_1:=qi BK198.out 1))
         go_roundg kj15
         case measure=>have:=HK1.out;have:=HJ15.out;omega
         case rel=>exact ⟨(wrap64 (x8_1 - 1)),(t213),(t214),(t215),(y216),(.slice Ao37 y216.length co37),(by first|rfl|(simp;done)|(simp [*];done)),H',⟨by have:=HK1.out;have:=HJ15.out;omega⟩,⟨by (with_reducible repeat (first|apply Kd.R_alloc|apply Kd.R_drewN|apply Kd.R_drew));exact Kd.R_mono (Kd.R_far (p:=⟨gb198,1,none⟩) (Kd.R_types HO218.out BK198.out (by decide)) (fun _ hk=>hk.2) (.slice Ao37 y216.length co37)) (fun _ hk=>trivial)⟩,⟨by (with_reducible repeat (first|refine qb ?_ _|refine qe ?_|refine qc ?_ _));refine blk_far ?_ NB191_198.out _;(with_reducible repeat (first|refine qb ?_ _|refine qe ?_|refine qc ?_ _));exact BK191.out⟩,⟨by (with_reducible repeat (first|refine qb ?_ _|refine qe ?_|refine qc ?_ _));refine blk_put (cs:=#[.int .i64 t199,u199001]) ?_ 1 _ rfl;(with_reducible repeat (first|refine qb ?_ _|refine qe ?_|refine qc ?_ _));exact BK198.out⟩,⟨by repeat (first|(with_reducible first|exact HI197.out|apply IsS107.alloc|apply IsS107.drewN|apply IsS107.drew|apply IsS107.set_0|apply IsS107.set_1|apply IsS107.set_2|refine IsS107.far ?_ NB197_191.out _|refine IsS107.far ?_ NB197_198.out _|refine IsS107.far ?_ NB197_211.out _)|exact HI197.out)⟩,⟨by repeat (first|(with_reducible first|exact HB.out|apply qf|apply qa|apply qd|refine qg ?_ (IsS107.ge HI197.out)|refine qg ?_ GE191.out|refine qg ?_ GE198.out|refine qg ?_ GE211.out)|exact HB.out)⟩⟩
        ·rw [if_neg c23] at H
         exact absurd H (by simp)
       ·rw [if_neg c21] at H
        have c21b0 : (t199 == 2) = false:=beq_eq_false_iff_ne.mpr c21
        have c21b1 : (t199 != 2) = true:=bne_iff_ne.mpr c21
        replace H:=Option.bind_eq_some_iff.mp H
        obtain ⟨⟨t219,t220,t221,t222⟩,A390,H⟩:=H
        replace H : (if x199001_1.length < 3518437208883 then (impl_ReadPage.l0 kj15 a0 (wrap64 (x8_1 - 1)) t220 t221 t222 t199 (x199001_1 ++ [(⟨t207,t219,0⟩ : S61)])) else (none)) = some (r1,r2,r3):=H
        have A39:=qn.mk A390
        clear A390
        by_cases c40 : x199001_1.length < 3518437208883
        ·rw [if_pos c40] at H
         have LMc40:=qn.mk c40
         clear c40
         obtain ⟨y223,hy223⟩ : ∃ y_ : List (S61),y_ = (x199001_1 ++ [(⟨t207,t219,0⟩ : S61)]):=⟨_,rfl⟩
         replace H : (impl_ReadPage.l0 kj15 a0 (wrap64 (x8_1 - 1)) t220 t221 t222 t199 y223) = some (r1,r2,r3):=by first|(rw [hy223];with_reducible exact H)|(have H2_:=(Option.bind_some _ _).symm.trans H;rw [hy223];with_reducible exact H2_)|(have H2_:=(Option.bind_some _ _).symm.trans H;with_reducible exact H2_)|with_reducible exact H|(rw [hy223];exact H)|exact H
         have Ny223:=qn.mk hy223
         clear hy223
         have H':=qn.mk H
         clear H
         go_wp2_with (first|((with_reducible refine gate_callee (f:=70) rfl ?_);refine goesL_ (some 40) rfl rfl Try.func70 (by kernel_rfl) rfl #[.pointer (some ⟨g197,0,none⟩)] rfl (by (try simp only [List.map_toArray,List.map_cons,List.map_nil]);first|done|rfl|(simp only [List.length_drop,List.length_take];rfl)) ?_;(with_reducible refine (impl_reader_short.calls kj15 g197 x198000_1 x198001_1 x198002_1 t207 t208 t209 t210 w _ ?side1 ?side2 A20.out).mono ?_);(case side1=>repeat (first|(with_reducible first|exact HI197.out|apply IsS107.alloc|apply IsS107.drewN|apply IsS107.drew|apply IsS107.set_0|apply IsS107.set_1|apply IsS107.set_2|refine IsS107.far ?_ NB197_191.out _|refine IsS107.far ?_ NB197_198.out _)|exact HI197.out));(case side2=>repeat (first|(with_reducible first|exact HB.out|apply qf|apply qa|apply qd|refine qg ?_ (IsS107.ge HI197.out)|refine qg ?_ GE191.out|refine qg ?_ GE198.out)|exact HB.out));rintro e w41 ⟨rfl,hi,hb,hk⟩;refine ⟨_,rfl,?_⟩;have n0_:=qn.mk (Kd.R_mono (Kd.R_keep (IsS107.apart (show IsS107 w _ g197 x198000_1 x198001_1 x198002_1 from by repeat (first|(with_reducible first|exact HI197.out|apply IsS107.alloc|apply IsS107.drewN|apply IsS107.drew|apply IsS107.set_0|apply IsS107.set_1|apply IsS107.set_2|refine IsS107.far ?_ NB197_191.out _|refine IsS107.far ?_ NB197_198.out _)|exact HI197.out)) (by (with_reducible repeat (first|apply Kd.R_alloc|apply Kd.R_drewN|apply Kd.R_drew));exact HO_199001.out) (by decide)) hk (fun _ h=>h.2)) (fun _ h=>h.1));have n1_:=qn.mk (KeepBut.blk hk (g':=gb191) (o:=.cells #[.int .i64 0,.slice none 0 0] 50 (0,0)) (by (with_reducible repeat (first|refine qb ?_ _|refine qe ?_|refine qc ?_ _));exact BK191.out) NB191_197.out (by simp));have n2_:=qn.mk (KeepBut.blk hk (g':=gb198) (o:=.cells #[.int .i64 t199,u199001] 50 (0,0)) (by (with_reducible repeat (first|refine qb ?_ _|refine qe ?_|refine qc ?_ _));exact BK198.out) NB198_197.out (by simp));have n3_:=qn.mk (hb);have n4_:=qn.mk (hi);clear HO_199001;clear BK191;clear BK198;clear HB;clear HI197;have HO_199001:=n0_;have BK191:=n1_;have BK198:=n2_;have HB:=n3_;have HI197:=n4_;clear n0_ n1_ n2_ n3_ n4_;(try clear hb);(try clear hb2);(try clear hk);(try clear hi))|((with_reducible refine gate_dst (N:=9) rfl ?_);refine box_event ?hg (N:=9) ?hd (cs:=#[.string (⟨#[]⟩ : ByteArray),.string (⟨#[]⟩ : ByteArray),.int .i64 0]) (t:=61) ?hr ?_;(case hd=>rfl);(case hg=>rfl);(case hr=>first|(go_simp;done)|(go_simp;rfl));intro gb211 hg w42 hbox hb;have n0_:=qn.mk (Kd.R_below (Kd.R_elderB (by (with_reducible repeat (first|apply Kd.R_alloc|apply Kd.R_drewN|apply Kd.R_drew));exact HO_199001.out) gb211 (Nat.le_of_eq hg.symm)) hb);have n1_:=bb_ BK191 hb;have n2_:=bb_ BK198 hb;have n3_:=qn.mk (IsS107.below (by repeat (first|(with_reducible first|exact HI197.out|apply IsS107.alloc|apply IsS107.drewN|apply IsS107.drew|apply IsS107.set_0|apply IsS107.set_1|apply IsS107.set_2|refine IsS107.far ?_ NB197_191.out _|refine IsS107.far ?_ NB197_198.out _)|exact HI197.out)) hb);have n4_:=qn.mk (qm (by repeat (first|(with_reducible first|exact HB.out|apply qf|apply qa|apply qd|refine qg ?_ (IsS107.ge HI197.out)|refine qg ?_ GE191.out|refine qg ?_ GE198.out)|exact HB.out)) hb);have n5_:=qn.mk (hbox);have n6_:=qn.mk ((by rw [hg];exact (qj (by repeat (first|(with_reducible first|exact HB.out|apply qf|apply qa|apply qd|refine qg ?_ (IsS107.ge HI197.out)|refine qg ?_ GE191.out|refine qg ?_ GE198.out)|exact HB.out))) : w.heap.size ≤ gb211));have n7_:=qn.mk ((by rw [hg];exact (qj (by repeat (first|(with_reducible first|exact HB.out|apply qf|apply qa|apply qd|refine qg ?_ (IsS107.ge HI197.out)|refine qg ?_ GE191.out|refine qg ?_ GE198.out)|exact HB.out))) : w.heap.size ≤ gb211));have n8_:=qn.mk ((by rw [hg];exact nl_ BK191 : gb191 ≠ gb211));have n9_:=qn.mk ((by rw [hg];exact ng_ BK191 : gb211 ≠ gb191));have n10_:=qn.mk ((by rw [hg];exact nl_ BK198 : gb198 ≠ gb211));have n11_:=qn.mk ((by rw [hg];exact ng_ BK198 : gb211 ≠ gb198));have n12_:=qn.mk ((by rw [hg];exact Nat.ne_of_lt (IsS107.lt (show IsS107 w _ g197 t208 t209 t210 from by repeat (first|(with_reducible first|exact HI197.out|apply IsS107.alloc|apply IsS107.drewN|apply IsS107.drew|apply IsS107.set_0|apply IsS107.set_1|apply IsS107.set_2|refine IsS107.far ?_ NB197_191.out _|refine IsS107.far ?_ NB197_198.out _)|exact HI197.out))) : g197 ≠ gb211));have n13_:=qn.mk ((by rw [hg];exact Nat.ne_of_gt (IsS107.lt (show IsS107 w _ g197 t208 t209 t210 from by repeat (first|(with_reducible first|exact HI197.out|apply IsS107.alloc|apply IsS107.drewN|apply IsS107.drew|apply IsS107.set_0|apply IsS107.set_1|apply IsS107.set_2|refine IsS107.far ?_ NB197_191.out _|refine IsS107.far ?_ NB197_198.out _)|exact HI197.out))) : gb211 ≠ g197));clear HO_199001;clear BK191;clear BK198;clear HI197;clear HB;have HO_199001:=n0_;have BK191:=n1_;have BK198:=n2_;have HI197:=n3_;have HB:=n4_;have BK211:=n5_;have GW211:=n6_;have GE211:=n7_;have NB191_211:=n8_;have NB211_191:=n9_;have NB198_211:=n10_;have NB211_198:=n11_;have NB197_211:=n12_;have NB211_197:=n13_;clear n0_ n1_ n2_ n3_ n4_ n5_ n6_ n7_ n8_ n9_ n10_ n11_ n12_ n13_;clear hb hbox hg;have hnb43:=NB211_191.out;have hnc43:=NB191_211.out;have hnb44:=NB211_198.out;have hnc44:=NB198_211.out;have hnb45:=NB211_197.out;have hnc45:=NB197_211.out;have hcz46_0 : w42.cell? ⟨gb211,0,none⟩ = some (.string (⟨#[]⟩ : ByteArray)):=(qh BK211.out 0).trans rfl;have hcz46_1 : w42.cell? ⟨gb211,1,none⟩ = some (.string (⟨#[]⟩ : ByteArray)):=(qh BK211.out 1).trans rfl;have hcz46_2 : w42.cell? ⟨gb211,2,none⟩ = some (.int .i64 0):=(qh BK211.out 2).trans rfl;have hfz46_0:=qi BK211.out 0;have hfz46_1:=qi BK211.out 1;have hfz46_2:=qi BK211.out 2;have hnb47:=NB198_191.out;have hnc47:=NB191_198.out;have hnb48:=NB198_197.out;have hnc48:=NB197_198.out;have hcz49_0 : w42.cell? ⟨gb198,0,none⟩ = some (.int .i64 t199):=(qh BK198.out 0).trans rfl;have hcz49_1 : w42.cell? ⟨gb198,1,none⟩ = some (u199001):=(qh BK198.out 1).trans rfl;have hfz49_0:=qi BK198.out 0;have hfz49_1:=qi BK198.out 1)|((with_reducible refine gate_callee (f:=70) rfl ?_);refine goesL_ (some 49) rfl rfl Try.func70 (by kernel_rfl) rfl #[.pointer (some ⟨g197,0,none⟩)] rfl (by (try simp only [List.map_toArray,List.map_cons,List.map_nil]);first|done|rfl|(simp only [List.length_drop,List.length_take];rfl)) ?_;(with_reducible refine (impl_reader_short.calls kj15 g197 t208 t209 t210 t219 t220 t221 t222 w _ ?side1 ?side2 A39.out).mono ?_);(case side1=>repeat (first|(with_reducible first|exact HI197.out|apply IsS107.alloc|apply IsS107.drewN|apply IsS107.drew|apply IsS107.set_0|apply IsS107.set_1|apply IsS107.set_2|refine IsS107.far ?_ NB197_191.out _|refine IsS107.far ?_ NB197_198.out _|refine IsS107.far ?_ NB197_211.out _)|exact HI197.out));(case side2=>repeat (first|(with_reducible first|exact HB.out|apply qf|apply qa|apply qd|refine qg ?_ (IsS107.ge HI197.out)|refine qg ?_ GE191.out|refine qg ?_ GE198.out|refine qg ?_ GE211.out)|exact HB.out));rintro e w50 ⟨rfl,hi,hb,hk⟩;refine ⟨_,rfl,?_⟩;have n0_:=qn.mk (Kd.R_mono (Kd.R_keep (IsS107.apart (show IsS107 w _ g197 t208 t209 t210 from by repeat (first|(with_reducible first|exact HI197.out|apply IsS107.alloc|apply IsS107.drewN|apply IsS107.drew|apply IsS107.set_0|apply IsS107.set_1|apply IsS107.set_2|refine IsS107.far ?_ NB197_191.out _|refine IsS107.far ?_ NB197_198.out _|refine IsS107.far ?_ NB197_211.out _)|exact HI197.out)) (by (with_reducible repeat (first|apply Kd.R_alloc|apply Kd.R_drewN|apply Kd.R_drew));exact (Kd.R_mono (Kd.R_far (p:=⟨gb211,2,none⟩) (Kd.R_far (p:=⟨gb211,1,none⟩) (Kd.R_far (p:=⟨gb211,0,none⟩) (Kd.R_mono HO_199001.out (fun k_ hk=>(⟨hk,hk.2⟩ : _ ∧ k_ ≠ gb211))) (fun _ hk=>hk.2) (.string t207)) (fun _ hk=>hk.2) (.string (⟨#[]⟩ : ByteArray))) (fun _ hk=>hk.2) (.int .i64 0)) (fun _ h_=>h_.1))) (by decide)) hk (fun _ h=>h.2)) (fun _ h=>h.1));have n1_:=qn.mk (KeepBut.blk hk (g':=gb191) (o:=.cells #[.int .i64 0,.slice none 0 0] 50 (0,0)) (by (with_reducible repeat (first|refine qb ?_ _|refine qe ?_|refine qc ?_ _));refine blk_far ?_ NB191_211.out _;(with_reducible repeat (first|refine qb ?_ _|refine qe ?_|refine qc ?_ _));refine blk_far ?_ NB191_211.out _;(with_reducible repeat (first|refine qb ?_ _|refine qe ?_|refine qc ?_ _));refine blk_far ?_ NB191_211.out _;(with_reducible repeat (first|refine qb ?_ _|refine qe ?_|refine qc ?_ _));exact BK191.out) NB191_197.out (by simp));have n2_:=qn.mk (KeepBut.blk hk (g':=gb198) (o:=.cells #[.int .i64 t199,u199001] 50 (0,0)) (by (with_reducible repeat (first|refine qb ?_ _|refine qe ?_|refine qc ?_ _));refine blk_far ?_ NB198_211.out _;(with_reducible repeat (first|refine qb ?_ _|refine qe ?_|refine qc ?_ _));refine blk_far ?_ NB198_211.out _;(with_reducible repeat (first|refine qb ?_ _|refine qe ?_|refine qc ?_ _));refine blk_far ?_ NB198_211.out _;(with_reducible repeat (first|refine qb ?_ _|refine qe ?_|refine qc ?_ _));exact BK198.out) NB198_197.out (by simp));have n3_:=qn.mk (KeepBut.blk hk (g':=gb211) (o:=.cells #[.string t207,.string (⟨#[]⟩ : ByteArray),.int .i64 0] 61 (0,0)) (by (with_reducible repeat (first|refine qb ?_ _|refine qe ?_|refine qc ?_ _));refine blk_put (cs:=#[.string t207,.string (⟨#[]⟩ : ByteArray),.int .i64 0]) ?_ 2 _ rfl;(with_reducible repeat (first|refine qb ?_ _|refine qe ?_|refine qc ?_ _));refine blk_put (cs:=#[.string t207,.string (⟨#[]⟩ : ByteArray),.int .i64 0]) ?_ 1 _ rfl;(with_reducible repeat (first|refine qb ?_ _|refine qe ?_|refine qc ?_ _));refine blk_put (cs:=#[.string (⟨#[]⟩ : ByteArray),.string (⟨#[]⟩ : ByteArray),.int .i64 0]) ?_ 0 _ rfl;(with_reducible repeat (first|refine qb ?_ _|refine qe ?_|refine qc ?_ _));exact BK211.out) NB211_197.out (by simp));have n4_:=qn.mk (hb);have n5_:=qn.mk (hi);clear HO_199001;clear BK191;clear BK198;clear BK211;clear HB;clear HI197;have HO_199001:=n0_;have BK191:=n1_;have BK198:=n2_;have BK211:=n3_;have HB:=n4_;have HI197:=n5_;clear n0_ n1_ n2_ n3_ n4_ n5_;(try clear hb);(try clear hb2);(try clear hk);(try clear hi);have hcz51_0 : w50.cell? ⟨gb211,0,none⟩ = some (.string t207):=(qh BK211.out 0).trans rfl;have hcz51_1 : w50.cell? ⟨gb211,1,none⟩ = some (.string (⟨#[]⟩ : ByteArray)):=(qh BK211.out 1).trans rfl;have hcz51_2 : w50.cell? ⟨gb211,2,none⟩ = some (.int .i64 0):=(qh BK211.out 2).trans rfl;have hfz51_0:=qi BK211.out 0;have hfz51_1:=qi BK211.out 1;have hfz51_2:=qi BK211.out 2;have hcz52_0 : w50.cell? ⟨gb198,0,none⟩ = some (.int .i64 t199):=(qh BK198.out 0).trans rfl;have hcz52_1 : w50.cell? ⟨gb198,1,none⟩ = some (u199001):=(qh BK198.out 1).trans rfl;have hfz52_0:=qi BK198.out 0;have hfz52_1:=qi BK198.out 1)|((with_reducible refine gate_builtin (b:=.append) (xs:=#[.tmp 52,.tmp 54]) rfl ?_);at_builtin;refine Kd.R_append k61 (w0:=w) w.heap.size rfl (.tmp 52) (.tmp 54) 48 61 (.agg #[(.string ⟨#[]⟩),(.string ⟨#[]⟩),(.int .i64 0)]) 40 rfl Try.underlying48 info61 rfl (by decide) (by omega) u199001 x199001_1 (⟨t207,t219,0⟩ : S61) [.string t207,.string t219,.int .i64 0] (fun k_=>k_ ≠ gb211) (fun _=>False) rfl (by first|(go_simp;done)|(go_simp;rfl)) ?aP (fun _ hk=>hk.elim) ?aF ?aO ?aB ?aS ?aL ?_;(case aP=>exact k61_mkM _ _ _ (⟨t207,t219,0⟩ : S61));(case aB=>exact (by repeat (first|(with_reducible first|exact HB.out|apply qf|apply qa|apply qd|refine qg ?_ (IsS107.ge HI197.out)|refine qg ?_ GE191.out|refine qg ?_ GE198.out|refine qg ?_ GE211.out)|exact HB.out)));(case aF=>exact (fun k_ hk=>Kd.freshB (g:=gb211) (o:=.cells #[.string t207,.string t219,.int .i64 0] 61 (0,0)) (by (with_reducible repeat (first|refine qb ?_ _|refine qe ?_|refine qc ?_ _));refine blk_put (cs:=#[.string t207,.string (⟨#[]⟩ : ByteArray),.int .i64 0]) ?_ 1 _ rfl;(with_reducible repeat (first|refine qb ?_ _|refine qe ?_|refine qc ?_ _));exact BK211.out) k_ hk));(case aO=>exact (by (with_reducible repeat (first|apply Kd.R_alloc|apply Kd.R_drewN|apply Kd.R_drew));exact Kd.R_mono (Kd.R_far (p:=⟨gb211,1,none⟩) (Kd.R_mono HO_199001.out (fun k_ hk=>(⟨hk,hk.2⟩ : _ ∧ k_ ≠ gb211))) (fun _ hk=>hk.2) (.string t219)) (fun _ hk=>hk.1.2)));(case aS=>exact (qj (by repeat (first|(with_reducible first|exact HB.out|apply qf|apply qa|apply qd|refine qg ?_ (IsS107.ge HI197.out)|refine qg ?_ GE191.out|refine qg ?_ GE198.out|refine qg ?_ GE211.out)|exact HB.out))));(case aL=>have:=LMc40.out;omega);intro v224 w53 ho hb hg hat;rw [← Ny223.out] at ho;have n0_:=qn.mk (blk_grown (g:=gb191) (o:=.cells #[.int .i64 0,.slice none 0 0] 50 (0,0)) (by (with_reducible repeat (first|refine qb ?_ _|refine qe ?_|refine qc ?_ _));refine blk_far ?_ NB191_211.out _;(with_reducible repeat (first|refine qb ?_ _|refine qe ?_|refine qc ?_ _));exact BK191.out) hg (Kd.R_ne HO_199001.out BK191.out (by decide)));have n1_:=qn.mk (blk_grown (g:=gb198) (o:=.cells #[.int .i64 t199,u199001] 50 (0,0)) (by (with_reducible repeat (first|refine qb ?_ _|refine qe ?_|refine qc ?_ _));refine blk_far ?_ NB198_211.out _;(with_reducible repeat (first|refine qb ?_ _|refine qe ?_|refine qc ?_ _));exact BK198.out) hg (Kd.R_ne HO_199001.out BK198.out (by decide)));have n2_:=qn.mk (IsS107.grown (IsS107.far (p:=⟨gb211,1,none⟩) HI197.out NB197_211.out (.string t219)) hg (IsS107.own_ne HI197.out HO_199001.out (by decide)));have n3_:=qn.mk (blk_grown (g:=gb211) (o:=.cells #[.string t207,.string t219,.int .i64 0] 61 (0,0)) (by (with_reducible repeat (first|refine qb ?_ _|refine qe ?_|refine qc ?_ _));refine blk_put (cs:=#[.string t207,.string (⟨#[]⟩ : ByteArray),.int .i64 0]) ?_ 1 _ rfl;(with_reducible repeat (first|refine qb ?_ _|refine qe ?_|refine qc ?_ _));exact BK211.out) hg (Kd.R_away HO_199001.out (fun _ hk=>hk.2)));have n4_:=qn.mk (hb);have n5_:=qn.mk (ho);clear BK191;clear BK198;clear HI197;clear BK211;clear HB;clear HO_199001;have BK191:=n0_;have BK198:=n1_;have HI197:=n2_;have BK211:=n3_;have HB:=n4_;have HO225:=n5_;clear n0_ n1_ n2_ n3_ n4_ n5_;clear ho hb hg hat;obtain ⟨Ao54,co54,eo54⟩:=Kd.R_slice HO225.out;subst eo54;have hcz55_0 : w53.cell? ⟨gb198,0,none⟩ = some (.int .i64 t199):=(qh BK198.out 0).trans rfl;have hcz55_1 : w53.cell? ⟨gb198,1,none⟩ = some (u199001):=(qh BK198.out 1).trans rfl;have hfz55_0:=qi BK198.out 0;have hfz55_1:=qi BK198.out 1))
         go_roundg kj15
         case measure=>have:=HK1.out;have:=HJ15.out;omega
         case rel=>exact ⟨(wrap64 (x8_1 - 1)),(t220),(t221),(t222),(y223),(.slice Ao54 y223.length co54),(by first|rfl|(simp;done)|(simp [*];done)),H',⟨by have:=HK1.out;have:=HJ15.out;omega⟩,⟨by (with_reducible repeat (first|apply Kd.R_alloc|apply Kd.R_drewN|apply Kd.R_drew));exact Kd.R_mono (Kd.R_far (p:=⟨gb198,1,none⟩) (Kd.R_types HO225.out BK198.out (by decide)) (fun _ hk=>hk.2) (.slice Ao54 y223.length co54)) (fun _ hk=>trivial)⟩,⟨by (with_reducible repeat (first|refine qb ?_ _|refine qe ?_|refine qc ?_ _));refine blk_far ?_ NB191_198.out _;(with_reducible repeat (first|refine qb ?_ _|refine qe ?_|refine qc ?_ _));exact BK191.out⟩,⟨by (with_reducible repeat (first|refine qb ?_ _|refine qe ?_|refine qc ?_ _));refine blk_put (cs:=#[.int .i64 t199,u199001]) ?_ 1 _ rfl;(with_reducible repeat (first|refine qb ?_ _|refine qe ?_|refine qc ?_ _));exact BK198.out⟩,⟨by repeat (first|(with_reducible first|exact HI197.out|apply IsS107.alloc|apply IsS107.drewN|apply IsS107.drew|apply IsS107.set_0|apply IsS107.set_1|apply IsS107.set_2|refine IsS107.far ?_ NB197_191.out _|refine IsS107.far ?_ NB197_198.out _|refine IsS107.far ?_ NB197_211.out _)|exact HI197.out)⟩,⟨by repeat (first|(with_reducible first|exact HB.out|apply qf|apply qa|apply qd|refine qg ?_ (IsS107.ge HI197.out)|refine qg ?_ GE191.out|refine qg ?_ GE198.out|refine qg ?_ GE211.out)|exact HB.out)⟩⟩
        ·rw [if_neg c40] at H
         exact absurd H (by simp)
      ·replace c19:=Bool.eq_false_iff.mpr c19
       subst c19
       have H1 : ((impl_PageText.f kj15 t199 x199001_1).bind fun bt226=>((impl_reader_ends.f x198000_1 x198001_1 x198002_1).bind fun bt228=>(if bt228.1 = true then (if bt226.2 = true then (if bt226.1.toList = a0.toList then (some (t199,x199001_1,true)) else (some (0,([] : List (S61)),false))) else (some (0,([] : List (S61)),false))) else (some (0,([] : List (S61)),false))))) = some (r1,r2,r3):=by rw [if_neg (show ¬ (false = true) by decide)] at H;exact H
       clear H
       have H:=H1
       clear H1
       replace H:=Option.bind_eq_some_iff.mp H
       obtain ⟨⟨t226,t227⟩,A560,H⟩:=H
       replace H : ((impl_reader_ends.f x198000_1 x198001_1 x198002_1).bind fun bt228=>(if bt228.1 = true then (if t227 = true then (if t226.toList = a0.toList then (some (t199,x199001_1,true)) else (some (0,([] : List (S61)),false))) else (some (0,([] : List (S61)),false))) else (some (0,([] : List (S61)),false)))) = some (r1,r2,r3):=H
       have A56:=qn.mk A560
       clear A560
       replace H:=Option.bind_eq_some_iff.mp H
       obtain ⟨⟨t228,t229,t230,t231⟩,A570,H⟩:=H
       replace H : (if t228 = true then (if t227 = true then (if t226.toList = a0.toList then (some (t199,x199001_1,true)) else (some (0,([] : List (S61)),false))) else (some (0,([] : List (S61)),false))) else (some (0,([] : List (S61)),false))) = some (r1,r2,r3):=H
       have A57:=qn.mk A570
       clear A570
       by_cases c58 : t228 = true
       ·subst c58
        have H1 : (if t227 = true then (if t226.toList = a0.toList then (some (t199,x199001_1,true)) else (some (0,([] : List (S61)),false))) else (some (0,([] : List (S61)),false))) = some (r1,r2,r3):=by rw [if_pos rfl] at H;exact H
        clear H
        have H:=H1
        clear H1
        by_cases c59 : t227 = true
        ·subst c59
         have H1 : (if t226.toList = a0.toList then (some (t199,x199001_1,true)) else (some (0,([] : List (S61)),false))) = some (r1,r2,r3):=by rw [if_pos rfl] at H;exact H
         clear H
         have H:=H1
         clear H1
         by_cases c60 : t226.toList = a0.toList
         ·rw [if_pos c60] at H
          have c60b0 : (t226.toList == a0.toList) = true:=beq_iff_eq.mpr c60
          have c60b1 : (t226.toList != a0.toList) = false:=bne_eq_false_iff_eq.mpr c60
          clear c60
          simp only [Option.some.injEq,Prod.mk.injEq] at H
          obtain ⟨rfl,rfl,rfl⟩:=H
          have hnb61:=NB198_191.out
          have hnc61:=NB191_198.out
          have hnb62:=NB198_197.out
          have hnc62:=NB197_198.out
          have hcz63_0 : wc.cell? ⟨gb198,0,none⟩ = some (.int .i64 t199):=(qh BK198.out 0).trans rfl
          have hcz63_1 : wc.cell? ⟨gb198,1,none⟩ = some (u199001):=(qh BK198.out 1).trans rfl
          have hfz63_0:=qi BK198.out 0
          have hfz63_1:=qi BK198.out 1
          obtain ⟨Ao64,co64,eo64⟩:=Kd.R_slice HO_199001.out
          subst eo64
          go_wp2_with (first|((with_reducible refine gate_callee (f:=52) rfl ?_);refine goesL_ (some 59) rfl rfl Try.func52 (by kernel_rfl) rfl #[.agg #[.int .i64 t199,.slice Ao64 x199001_1.length co64]] rfl (by (try simp only [List.map_toArray,List.map_cons,List.map_nil]);first|done|rfl|(simp only [List.length_drop,List.length_take];rfl)) ?_;(with_reducible refine (impl_PageText.calls kj15 t199 _ _ x199001_1 t226 true _ ?side1 ?side2 A56.out).mono ?_);(case side1=>repeat (first|exact (Kd.R_reads' HO_199001.out).2.2|(with_reducible refine Kd.C_alloc ?_ _)|(with_reducible refine Kd.C_drewN ?_ _)|(with_reducible refine Kd.C_drew ?_)));(case side2=>exact (Kd.R_reads' HO_199001.out).2.1);rintro e w65 ⟨rfl,hb⟩;refine ⟨_,rfl,?_⟩;have n0_:=rb_ HO_199001 hb;have n1_:=bb_ BK191 hb;have n2_:=bb_ BK198 hb;have n3_:=qn.mk (IsS107.below (by repeat (first|(with_reducible first|exact HI197.out|apply IsS107.alloc|apply IsS107.drewN|apply IsS107.drew|apply IsS107.set_0|apply IsS107.set_1|apply IsS107.set_2|refine IsS107.far ?_ NB197_191.out _|refine IsS107.far ?_ NB197_198.out _)|exact HI197.out)) hb);have n4_:=qn.mk (qm (by repeat (first|(with_reducible first|exact HB.out|apply qf|apply qa|apply qd|refine qg ?_ (IsS107.ge HI197.out)|refine qg ?_ GE191.out|refine qg ?_ GE198.out)|exact HB.out)) hb);clear HO_199001;clear BK191;clear BK198;clear HI197;clear HB;have HO_199001:=n0_;have BK191:=n1_;have BK198:=n2_;have HI197:=n3_;have HB:=n4_;clear n0_ n1_ n2_ n3_ n4_;(try clear hb);(try clear hb2);(try clear hk);(try clear hi))|((with_reducible refine gate_callee (f:=71) rfl ?_);refine goesL_ (some 63) rfl rfl Try.func71 (by kernel_rfl) rfl #[.pointer (some ⟨g197,0,none⟩)] rfl (by (try simp only [List.map_toArray,List.map_cons,List.map_nil]);first|done|rfl|(simp only [List.length_drop,List.length_take];rfl)) ?_;(with_reducible refine (impl_reader_ends.calls g197 x198000_1 x198001_1 x198002_1 true t229 t230 t231 w _ ?side1 ?side2 A57.out).mono ?_);(case side1=>repeat (first|(with_reducible first|exact HI197.out|apply IsS107.alloc|apply IsS107.drewN|apply IsS107.drew|apply IsS107.set_0|apply IsS107.set_1|apply IsS107.set_2|refine IsS107.far ?_ NB197_191.out _|refine IsS107.far ?_ NB197_198.out _)|exact HI197.out));(case side2=>repeat (first|(with_reducible first|exact HB.out|apply qf|apply qa|apply qd|refine qg ?_ (IsS107.ge HI197.out)|refine qg ?_ GE191.out|refine qg ?_ GE198.out)|exact HB.out));rintro e w66 ⟨rfl,hi,hb,hk⟩;refine ⟨_,rfl,?_⟩;have n0_:=qn.mk (Kd.R_mono (Kd.R_keep (IsS107.apart (show IsS107 w _ g197 x198000_1 x198001_1 x198002_1 from by repeat (first|(with_reducible first|exact HI197.out|apply IsS107.alloc|apply IsS107.drewN|apply IsS107.drew|apply IsS107.set_0|apply IsS107.set_1|apply IsS107.set_2|refine IsS107.far ?_ NB197_191.out _|refine IsS107.far ?_ NB197_198.out _)|exact HI197.out)) (by (with_reducible repeat (first|apply Kd.R_alloc|apply Kd.R_drewN|apply Kd.R_drew));exact HO_199001.out) (by decide)) hk (fun _ h=>h.2)) (fun _ h=>h.1));have n1_:=qn.mk (KeepBut.blk hk (g':=gb191) (o:=.cells #[.int .i64 0,.slice none 0 0] 50 (0,0)) (by (with_reducible repeat (first|refine qb ?_ _|refine qe ?_|refine qc ?_ _));exact BK191.out) NB191_197.out (by simp));have n2_:=qn.mk (KeepBut.blk hk (g':=gb198) (o:=.cells #[.int .i64 t199,.slice Ao64 x199001_1.length co64] 50 (0,0)) (by (with_reducible repeat (first|refine qb ?_ _|refine qe ?_|refine qc ?_ _));exact BK198.out) NB198_197.out (by simp));have n3_:=qn.mk (hb);have n4_:=qn.mk (hi);clear HO_199001;clear BK191;clear BK198;clear HB;clear HI197;have HO_199001:=n0_;have BK191:=n1_;have BK198:=n2_;have HB:=n3_;have HI197:=n4_;clear n0_ n1_ n2_ n3_ n4_;(try clear hb);(try clear hb2);(try clear hk);(try clear hi);have hcz67_0 : w66.cell? ⟨gb198,0,none⟩ = some (.int .i64 t199):=(qh BK198.out 0).trans rfl;have hcz67_1 : w66.cell? ⟨gb198,1,none⟩ = some (.slice Ao64 x199001_1.length co64):=(qh BK198.out 1).trans rfl;have hfz67_0:=qi BK198.out 0;have hfz67_1:=qi BK198.out 1;have hnb68:=NB191_197.out;have hnc68:=NB197_191.out;have hcz69_0 : w66.cell? ⟨gb191,0,none⟩ = some (.int .i64 0):=(qh BK191.out 0).trans rfl;have hcz69_1 : w66.cell? ⟨gb191,1,none⟩ = some (.slice none 0 0):=(qh BK191.out 1).trans rfl;have hfz69_0:=qi BK191.out 0;have hfz69_1:=qi BK191.out 1))
          refine bodyPost_ret (results_ct rfl _ _ gb191 50 #[.int .i64 t199,.slice Ao64 x199001_1.length co64] (0,0) _ rfl (by (with_reducible repeat (first|refine qb ?_ _|refine qe ?_|refine qc ?_ _));refine blk_put (cs:=#[.int .i64 t199,.slice none 0 0]) ?_ 1 _ rfl;(with_reducible repeat (first|refine qb ?_ _|refine qe ?_|refine qc ?_ _));refine blk_put (cs:=#[.int .i64 0,.slice none 0 0]) ?_ 0 _ rfl;(with_reducible repeat (first|refine qb ?_ _|refine qe ?_|refine qc ?_ _));exact BK191.out) Try.underlying50 rfl (by kernel_rfl)) rfl ?_
          exact ⟨_,by first|rfl|(simp [errW_none,errW_some] <;> rfl)|(simp [*,errW_none,errW_some] <;> rfl),by (with_reducible repeat (first|apply Kd.R_alloc|apply Kd.R_drewN|apply Kd.R_drew));exact Kd.R_mono (Kd.R_far (p:=⟨gb191,1,none⟩) (Kd.R_far (p:=⟨gb191,0,none⟩) (Kd.R_types HO_199001.out BK191.out (by decide)) (fun _ hk=>hk.2) (.int .i64 t199)) (fun _ hk=>hk.2) (.slice Ao64 x199001_1.length co64)) (fun _ hk=>trivial),by repeat (first|(with_reducible first|exact HB.out|apply qf|apply qa|apply qd|refine qg ?_ (IsS107.ge HI197.out)|refine qg ?_ GE191.out|refine qg ?_ GE198.out)|exact HB.out)⟩
         ·rw [if_neg c60] at H
          have c60b0 : (t226.toList == a0.toList) = false:=beq_eq_false_iff_ne.mpr c60
          have c60b1 : (t226.toList != a0.toList) = true:=bne_iff_ne.mpr c60
          simp only [Option.some.injEq,Prod.mk.injEq] at H
          obtain ⟨rfl,rfl,rfl⟩:=H
          have hnb70:=NB198_191.out
          have hnc70:=NB191_198.out
          have hnb71:=NB198_197.out
          have hnc71:=NB197_198.out
          have hcz72_0 : wc.cell? ⟨gb198,0,none⟩ = some (.int .i64 t199):=(qh BK198.out 0).trans rfl
          have hcz72_1 : wc.cell? ⟨gb198,1,none⟩ = some (u199001):=(qh BK198.out 1).trans rfl
          have hfz72_0:=qi BK198.out 0
          have hfz72_1:=qi BK198.out 1
          obtain ⟨Ao73,co73,eo73⟩:=Kd.R_slice HO_199001.out
          subst eo73
          go_wp2_with (first|((with_reducible refine gate_callee (f:=52) rfl ?_);refine goesL_ (some 59) rfl rfl Try.func52 (by kernel_rfl) rfl #[.agg #[.int .i64 t199,.slice Ao73 x199001_1.length co73]] rfl (by (try simp only [List.map_toArray,List.map_cons,List.map_nil]);first|done|rfl|(simp only [List.length_drop,List.length_take];rfl)) ?_;(with_reducible refine (impl_PageText.calls kj15 t199 _ _ x199001_1 t226 true _ ?side1 ?side2 A56.out).mono ?_);(case side1=>repeat (first|exact (Kd.R_reads' HO_199001.out).2.2|(with_reducible refine Kd.C_alloc ?_ _)|(with_reducible refine Kd.C_drewN ?_ _)|(with_reducible refine Kd.C_drew ?_)));(case side2=>exact (Kd.R_reads' HO_199001.out).2.1);rintro e w74 ⟨rfl,hb⟩;refine ⟨_,rfl,?_⟩;have n0_:=rb_ HO_199001 hb;have n1_:=bb_ BK191 hb;have n2_:=bb_ BK198 hb;have n3_:=qn.mk (IsS107.below (by repeat (first|(with_reducible first|exact HI197.out|apply IsS107.alloc|apply IsS107.drewN|apply IsS107.drew|apply IsS107.set_0|apply IsS107.set_1|apply IsS107.set_2|refine IsS107.far ?_ NB197_191.out _|refine IsS107.far ?_ NB197_198.out _)|exact HI197.out)) hb);have n4_:=qn.mk (qm (by repeat (first|(with_reducible first|exact HB.out|apply qf|apply qa|apply qd|refine qg ?_ (IsS107.ge HI197.out)|refine qg ?_ GE191.out|refine qg ?_ GE198.out)|exact HB.out)) hb);clear HO_199001;clear BK191;clear BK198;clear HI197;clear HB;have HO_199001:=n0_;have BK191:=n1_;have BK198:=n2_;have HI197:=n3_;have HB:=n4_;clear n0_ n1_ n2_ n3_ n4_;(try clear hb);(try clear hb2);(try clear hk);(try clear hi))|((with_reducible refine gate_callee (f:=71) rfl ?_);refine goesL_ (some 63) rfl rfl Try.func71 (by kernel_rfl) rfl #[.pointer (some ⟨g197,0,none⟩)] rfl (by (try simp only [List.map_toArray,List.map_cons,List.map_nil]);first|done|rfl|(simp only [List.length_drop,List.length_take];rfl)) ?_;(with_reducible refine (impl_reader_ends.calls g197 x198000_1 x198001_1 x198002_1 true t229 t230 t231 w _ ?side1 ?side2 A57.out).mono ?_);(case side1=>repeat (first|(with_reducible first|exact HI197.out|apply IsS107.alloc|apply IsS107.drewN|apply IsS107.drew|apply IsS107.set_0|apply IsS107.set_1|apply IsS107.set_2|refine IsS107.far ?_ NB197_191.out _|refine IsS107.far ?_ NB197_198.out _)|exact HI197.out));(case side2=>repeat (first|(with_reducible first|exact HB.out|apply qf|apply qa|apply qd|refine qg ?_ (IsS107.ge HI197.out)|refine qg ?_ GE191.out|refine qg ?_ GE198.out)|exact HB.out));rintro e w75 ⟨rfl,hi,hb,hk⟩;refine ⟨_,rfl,?_⟩;have n0_:=qn.mk (Kd.R_mono (Kd.R_keep (IsS107.apart (show IsS107 w _ g197 x198000_1 x198001_1 x198002_1 from by repeat (first|(with_reducible first|exact HI197.out|apply IsS107.alloc|apply IsS107.drewN|apply IsS107.drew|apply IsS107.set_0|apply IsS107.set_1|apply IsS107.set_2|refine IsS107.far ?_ NB197_191.out _|refine IsS107.far ?_ NB197_198.out _)|exact HI197.out)) (by (with_reducible repeat (first|apply Kd.R_alloc|apply Kd.R_drewN|apply Kd.R_drew));exact HO_199001.out) (by decide)) hk (fun _ h=>h.2)) (fun _ h=>h.1));have n1_:=qn.mk (KeepBut.blk hk (g':=gb191) (o:=.cells #[.int .i64 0,.slice none 0 0] 50 (0,0)) (by (with_reducible repeat (first|refine qb ?_ _|refine qe ?_|refine qc ?_ _));exact BK191.out) NB191_197.out (by simp));have n2_:=qn.mk (KeepBut.blk hk (g':=gb198) (o:=.cells #[.int .i64 t199,.slice Ao73 x199001_1.length co73] 50 (0,0)) (by (with_reducible repeat (first|refine qb ?_ _|refine qe ?_|refine qc ?_ _));exact BK198.out) NB198_197.out (by simp));have n3_:=qn.mk (hb);have n4_:=qn.mk (hi);clear HO_199001;clear BK191;clear BK198;clear HB;clear HI197;have HO_199001:=n0_;have BK191:=n1_;have BK198:=n2_;have HB:=n3_;have HI197:=n4_;clear n0_ n1_ n2_ n3_ n4_;(try clear hb);(try clear hb2);(try clear hk);(try clear hi);have hnb76:=NB191_197.out;have hnc76:=NB197_191.out;have hcz77_0 : w75.cell? ⟨gb191,0,none⟩ = some (.int .i64 0):=(qh BK191.out 0).trans rfl;have hcz77_1 : w75.cell? ⟨gb191,1,none⟩ = some (.slice none 0 0):=(qh BK191.out 1).trans rfl;have hfz77_0:=qi BK191.out 0;have hfz77_1:=qi BK191.out 1))
          refine bodyPost_ret (results_ct rfl _ _ gb191 50 #[.int .i64 0,.slice none 0 0] (0,0) _ rfl (by (with_reducible repeat (first|refine qb ?_ _|refine qe ?_|refine qc ?_ _));refine blk_put (cs:=#[.int .i64 0,.slice none 0 0]) ?_ 1 _ rfl;(with_reducible repeat (first|refine qb ?_ _|refine qe ?_|refine qc ?_ _));refine blk_put (cs:=#[.int .i64 0,.slice none 0 0]) ?_ 0 _ rfl;(with_reducible repeat (first|refine qb ?_ _|refine qe ?_|refine qc ?_ _));exact BK191.out) Try.underlying50 rfl (by kernel_rfl)) rfl ?_
          exact ⟨_,by first|rfl|(simp [errW_none,errW_some] <;> rfl)|(simp [*,errW_none,errW_some] <;> rfl),by first|exact Kd.R_nil _ _ _ _ _|exact Kd.N_nil _ _ _ _ _|exact Kd.V_nil _ _ _ _ _|exact Kd.Q_nil _ _ _ _ _|exact Kd.S_nil _ _ _ _ _,by repeat (first|(with_reducible first|exact HB.out|apply qf|apply qa|apply qd|refine qg ?_ (IsS107.ge HI197.out)|refine qg ?_ GE191.out|refine qg ?_ GE198.out)|exact HB.out)⟩
        ·replace c59:=Bool.eq_false_iff.mpr c59
         subst c59
         have H1 : (some (0,([] : List (S61)),false)) = some (r1,r2,r3):=by rw [if_neg (show ¬ (false = true) by decide)] at H;exact H
         clear H
         have H:=H1
         clear H1
         simp only [Option.some.injEq,Prod.mk.injEq] at H
         obtain ⟨rfl,rfl,rfl⟩:=H
         have hnb78:=NB198_191.out
         have hnc78:=NB191_198.out
         have hnb79:=NB198_197.out
         have hnc79:=NB197_198.out
         have hcz80_0 : wc.cell? ⟨gb198,0,none⟩ = some (.int .i64 t199):=(qh BK198.out 0).trans rfl
         have hcz80_1 : wc.cell? ⟨gb198,1,none⟩ = some (u199001):=(qh BK198.out 1).trans rfl
         have hfz80_0:=qi BK198.out 0
         have hfz80_1:=qi BK198.out 1
         obtain ⟨Ao81,co81,eo81⟩:=Kd.R_slice HO_199001.out
         subst eo81
         go_wp2_with (first|((with_reducible refine gate_callee (f:=52) rfl ?_);refine goesL_ (some 59) rfl rfl Try.func52 (by kernel_rfl) rfl #[.agg #[.int .i64 t199,.slice Ao81 x199001_1.length co81]] rfl (by (try simp only [List.map_toArray,List.map_cons,List.map_nil]);first|done|rfl|(simp only [List.length_drop,List.length_take];rfl)) ?_;(with_reducible refine (impl_PageText.calls kj15 t199 _ _ x199001_1 t226 false _ ?side1 ?side2 A56.out).mono ?_);(case side1=>repeat (first|exact (Kd.R_reads' HO_199001.out).2.2|(with_reducible refine Kd.C_alloc ?_ _)|(with_reducible refine Kd.C_drewN ?_ _)|(with_reducible refine Kd.C_drew ?_)));(case side2=>exact (Kd.R_reads' HO_199001.out).2.1);rintro e w82 ⟨rfl,hb⟩;refine ⟨_,rfl,?_⟩;have n0_:=rb_ HO_199001 hb;have n1_:=bb_ BK191 hb;have n2_:=bb_ BK198 hb;have n3_:=qn.mk (IsS107.below (by repeat (first|(with_reducible first|exact HI197.out|apply IsS107.alloc|apply IsS107.drewN|apply IsS107.drew|apply IsS107.set_0|apply IsS107.set_1|apply IsS107.set_2|refine IsS107.far ?_ NB197_191.out _|refine IsS107.far ?_ NB197_198.out _)|exact HI197.out)) hb);have n4_:=qn.mk (qm (by repeat (first|(with_reducible first|exact HB.out|apply qf|apply qa|apply qd|refine qg ?_ (IsS107.ge HI197.out)|refine qg ?_ GE191.out|refine qg ?_ GE198.out)|exact HB.out)) hb);clear HO_199001;clear BK191;clear BK198;clear HI197;clear HB;have HO_199001:=n0_;have BK191:=n1_;have BK198:=n2_;have HI197:=n3_;have HB:=n4_;clear n0_ n1_ n2_ n3_ n4_;(try clear hb);(try clear hb2);(try clear hk);(try clear hi))|((with_reducible refine gate_callee (f:=71) rfl ?_);refine goesL_ (some 63) rfl rfl Try.func71 (by kernel_rfl) rfl #[.pointer (some ⟨g197,0,none⟩)] rfl (by (try simp only [List.map_toArray,List.map_cons,List.map_nil]);first|done|rfl|(simp only [List.length_drop,List.length_take];rfl)) ?_;(with_reducible refine (impl_reader_ends.calls g197 x198000_1 x198001_1 x198002_1 true t229 t230 t231 w _ ?side1 ?side2 A57.out).mono ?_);(case side1=>repeat (first|(with_reducible first|exact HI197.out|apply IsS107.alloc|apply IsS107.drewN|apply IsS107.drew|apply IsS107.set_0|apply IsS107.set_1|apply IsS107.set_2|refine IsS107.far ?_ NB197_191.out _|refine IsS107.far ?_ NB197_198.out _)|exact HI197.out));(case side2=>repeat (first|(with_reducible first|exact HB.out|apply qf|apply qa|apply qd|refine qg ?_ (IsS107.ge HI197.out)|refine qg ?_ GE191.out|refine qg ?_ GE198.out)|exact HB.out));rintro e w83 ⟨rfl,hi,hb,hk⟩;refine ⟨_,rfl,?_⟩;have n0_:=qn.mk (Kd.R_mono (Kd.R_keep (IsS107.apart (show IsS107 w _ g197 x198000_1 x198001_1 x198002_1 from by repeat (first|(with_reducible first|exact HI197.out|apply IsS107.alloc|apply IsS107.drewN|apply IsS107.drew|apply IsS107.set_0|apply IsS107.set_1|apply IsS107.set_2|refine IsS107.far ?_ NB197_191.out _|refine IsS107.far ?_ NB197_198.out _)|exact HI197.out)) (by (with_reducible repeat (first|apply Kd.R_alloc|apply Kd.R_drewN|apply Kd.R_drew));exact HO_199001.out) (by decide)) hk (fun _ h=>h.2)) (fun _ h=>h.1));have n1_:=qn.mk (KeepBut.blk hk (g':=gb191) (o:=.cells #[.int .i64 0,.slice none 0 0] 50 (0,0)) (by (with_reducible repeat (first|refine qb ?_ _|refine qe ?_|refine qc ?_ _));exact BK191.out) NB191_197.out (by simp));have n2_:=qn.mk (KeepBut.blk hk (g':=gb198) (o:=.cells #[.int .i64 t199,.slice Ao81 x199001_1.length co81] 50 (0,0)) (by (with_reducible repeat (first|refine qb ?_ _|refine qe ?_|refine qc ?_ _));exact BK198.out) NB198_197.out (by simp));have n3_:=qn.mk (hb);have n4_:=qn.mk (hi);clear HO_199001;clear BK191;clear BK198;clear HB;clear HI197;have HO_199001:=n0_;have BK191:=n1_;have BK198:=n2_;have HB:=n3_;have HI197:=n4_;clear n0_ n1_ n2_ n3_ n4_;(try clear hb);(try clear hb2);(try clear hk);(try clear hi);have hnb84:=NB191_197.out;have hnc84:=NB197_191.out;have hcz85_0 : w83.cell? ⟨gb191,0,none⟩ = some (.int .i64 0):=(qh BK191.out 0).trans rfl;have hcz85_1 : w83.cell? ⟨gb191,1,none⟩ = some (.slice none 0 0):=(qh BK191.out 1).trans rfl;have hfz85_0:=qi BK191.out 0;have hfz85_1:=qi BK191.out 1))
         refine bodyPost_ret (results_ct rfl _ _ gb191 50 #[.int .i64 0,.slice none 0 0] (0,0) _ rfl (by (with_reducible repeat (first|refine qb ?_ _|refine qe ?_|refine qc ?_ _));refine blk_put (cs:=#[.int .i64 0,.slice none 0 0]) ?_ 1 _ rfl;(with_reducible repeat (first|refine qb ?_ _|refine qe ?_|refine qc ?_ _));refine blk_put (cs:=#[.int .i64 0,.slice none 0 0]) ?_ 0 _ rfl;(with_reducible repeat (first|refine qb ?_ _|refine qe ?_|refine qc ?_ _));exact BK191.out) Try.underlying50 rfl (by kernel_rfl)) rfl ?_
         exact ⟨_,by first|rfl|(simp [errW_none,errW_some] <;> rfl)|(simp [*,errW_none,errW_some] <;> rfl),by first|exact Kd.R_nil _ _ _ _ _|exact Kd.N_nil _ _ _ _ _|exact Kd.V_nil _ _ _ _ _|exact Kd.Q_nil _ _ _ _ _|exact Kd.S_nil _ _ _ _ _,by repeat (first|(with_reducible first|exact HB.out|apply qf|apply qa|apply qd|refine qg ?_ (IsS107.ge HI197.out)|refine qg ?_ GE191.out|refine qg ?_ GE198.out)|exact HB.out)⟩
       ·replace c58:=Bool.eq_false_iff.mpr c58
        subst c58
        have H1 : (some (0,([] : List (S61)),false)) = some (r1,r2,r3):=by rw [if_neg (show ¬ (false = true) by decide)] at H;exact H
        clear H
        have H:=H1
        clear H1
        simp only [Option.some.injEq,Prod.mk.injEq] at H
        obtain ⟨rfl,rfl,rfl⟩:=H
        have hnb86:=NB198_191.out
        have hnc86:=NB191_198.out
        have hnb87:=NB198_197.out
        have hnc87:=NB197_198.out
        have hcz88_0 : wc.cell? ⟨gb198,0,none⟩ = some (.int .i64 t199):=(qh BK198.out 0).trans rfl
        have hcz88_1 : wc.cell? ⟨gb198,1,none⟩ = some (u199001):=(qh BK198.out 1).trans rfl
        have hfz88_0:=qi BK198.out 0
        have hfz88_1:=qi BK198.out 1
        obtain ⟨Ao89,co89,eo89⟩:=Kd.R_slice HO_199001.out
        subst eo89
        go_wp2_with (first|((with_reducible refine gate_callee (f:=52) rfl ?_);refine goesL_ (some 59) rfl rfl Try.func52 (by kernel_rfl) rfl #[.agg #[.int .i64 t199,.slice Ao89 x199001_1.length co89]] rfl (by (try simp only [List.map_toArray,List.map_cons,List.map_nil]);first|done|rfl|(simp only [List.length_drop,List.length_take];rfl)) ?_;(with_reducible refine (impl_PageText.calls kj15 t199 _ _ x199001_1 t226 t227 _ ?side1 ?side2 A56.out).mono ?_);(case side1=>repeat (first|exact (Kd.R_reads' HO_199001.out).2.2|(with_reducible refine Kd.C_alloc ?_ _)|(with_reducible refine Kd.C_drewN ?_ _)|(with_reducible refine Kd.C_drew ?_)));(case side2=>exact (Kd.R_reads' HO_199001.out).2.1);rintro e w90 ⟨rfl,hb⟩;refine ⟨_,rfl,?_⟩;have n0_:=rb_ HO_199001 hb;have n1_:=bb_ BK191 hb;have n2_:=bb_ BK198 hb;have n3_:=qn.mk (IsS107.below (by repeat (first|(with_reducible first|exact HI197.out|apply IsS107.alloc|apply IsS107.drewN|apply IsS107.drew|apply IsS107.set_0|apply IsS107.set_1|apply IsS107.set_2|refine IsS107.far ?_ NB197_191.out _|refine IsS107.far ?_ NB197_198.out _)|exact HI197.out)) hb);have n4_:=qn.mk (qm (by repeat (first|(with_reducible first|exact HB.out|apply qf|apply qa|apply qd|refine qg ?_ (IsS107.ge HI197.out)|refine qg ?_ GE191.out|refine qg ?_ GE198.out)|exact HB.out)) hb);clear HO_199001;clear BK191;clear BK198;clear HI197;clear HB;have HO_199001:=n0_;have BK191:=n1_;have BK198:=n2_;have HI197:=n3_;have HB:=n4_;clear n0_ n1_ n2_ n3_ n4_;(try clear hb);(try clear hb2);(try clear hk);(try clear hi))|((with_reducible refine gate_callee (f:=71) rfl ?_);refine goesL_ (some 63) rfl rfl Try.func71 (by kernel_rfl) rfl #[.pointer (some ⟨g197,0,none⟩)] rfl (by (try simp only [List.map_toArray,List.map_cons,List.map_nil]);first|done|rfl|(simp only [List.length_drop,List.length_take];rfl)) ?_;(with_reducible refine (impl_reader_ends.calls g197 x198000_1 x198001_1 x198002_1 false t229 t230 t231 w _ ?side1 ?side2 A57.out).mono ?_);(case side1=>repeat (first|(with_reducible first|exact HI197.out|apply IsS107.alloc|apply IsS107.drewN|apply IsS107.drew|apply IsS107.set_0|apply IsS107.set_1|apply IsS107.set_2|refine IsS107.far ?_ NB197_191.out _|refine IsS107.far ?_ NB197_198.out _)|exact HI197.out));(case side2=>repeat (first|(with_reducible first|exact HB.out|apply qf|apply qa|apply qd|refine qg ?_ (IsS107.ge HI197.out)|refine qg ?_ GE191.out|refine qg ?_ GE198.out)|exact HB.out));rintro e w91 ⟨rfl,hi,hb,hk⟩;refine ⟨_,rfl,?_⟩;have n0_:=qn.mk (Kd.R_mono (Kd.R_keep (IsS107.apart (show IsS107 w _ g197 x198000_1 x198001_1 x198002_1 from by repeat (first|(with_reducible first|exact HI197.out|apply IsS107.alloc|apply IsS107.drewN|apply IsS107.drew|apply IsS107.set_0|apply IsS107.set_1|apply IsS107.set_2|refine IsS107.far ?_ NB197_191.out _|refine IsS107.far ?_ NB197_198.out _)|exact HI197.out)) (by (with_reducible repeat (first|apply Kd.R_alloc|apply Kd.R_drewN|apply Kd.R_drew));exact HO_199001.out) (by decide)) hk (fun _ h=>h.2)) (fun _ h=>h.1));have n1_:=qn.mk (KeepBut.blk hk (g':=gb191) (o:=.cells #[.int .i64 0,.slice none 0 0] 50 (0,0)) (by (with_reducible repeat (first|refine qb ?_ _|refine qe ?_|refine qc ?_ _));exact BK191.out) NB191_197.out (by simp));have n2_:=qn.mk (KeepBut.blk hk (g':=gb198) (o:=.cells #[.int .i64 t199,.slice Ao89 x199001_1.length co89] 50 (0,0)) (by (with_reducible repeat (first|refine qb ?_ _|refine qe ?_|refine qc ?_ _));exact BK198.out) NB198_197.out (by simp));have n3_:=qn.mk (hb);have n4_:=qn.mk (hi);clear HO_199001;clear BK191;clear BK198;clear HB;clear HI197;have HO_199001:=n0_;have BK191:=n1_;have BK198:=n2_;have HB:=n3_;have HI197:=n4_;clear n0_ n1_ n2_ n3_ n4_;(try clear hb);(try clear hb2);(try clear hk);(try clear hi);have hnb92:=NB191_197.out;have hnc92:=NB197_191.out;have hcz93_0 : w91.cell? ⟨gb191,0,none⟩ = some (.int .i64 0):=(qh BK191.out 0).trans rfl;have hcz93_1 : w91.cell? ⟨gb191,1,none⟩ = some (.slice none 0 0):=(qh BK191.out 1).trans rfl;have hfz93_0:=qi BK191.out 0;have hfz93_1:=qi BK191.out 1))
        refine bodyPost_ret (results_ct rfl _ _ gb191 50 #[.int .i64 0,.slice none 0 0] (0,0) _ rfl (by (with_reducible repeat (first|refine qb ?_ _|refine qe ?_|refine qc ?_ _));refine blk_put (cs:=#[.int .i64 0,.slice none 0 0]) ?_ 1 _ rfl;(with_reducible repeat (first|refine qb ?_ _|refine qe ?_|refine qc ?_ _));refine blk_put (cs:=#[.int .i64 0,.slice none 0 0]) ?_ 0 _ rfl;(with_reducible repeat (first|refine qb ?_ _|refine qe ?_|refine qc ?_ _));exact BK191.out) Try.underlying50 rfl (by kernel_rfl)) rfl ?_
        exact ⟨_,by first|rfl|(simp [errW_none,errW_some] <;> rfl)|(simp [*,errW_none,errW_some] <;> rfl),by first|exact Kd.R_nil _ _ _ _ _|exact Kd.N_nil _ _ _ _ _|exact Kd.V_nil _ _ _ _ _|exact Kd.Q_nil _ _ _ _ _|exact Kd.S_nil _ _ _ _ _,by repeat (first|(with_reducible first|exact HB.out|apply qf|apply qa|apply qd|refine qg ?_ (IsS107.ge HI197.out)|refine qg ?_ GE191.out|refine qg ?_ GE198.out)|exact HB.out)⟩
 ·replace c3:=Bool.eq_false_iff.mpr c3
  subst c3
  have H1 : (some (0,([] : List (S61)),false)) = some (r1,r2,r3):=by rw [if_neg (show ¬ (false = true) by decide)] at H;exact H
  clear H
  have H:=H1
  clear H1
  simp only [Option.some.injEq,Prod.mk.injEq] at H
  obtain ⟨rfl,rfl,rfl⟩:=H
  go_enter Try.func26,Try.ntmps26
  go_wp2_with (first|((with_reducible refine gate_dst (N:=2) rfl ?_);refine box_event ?hg (N:=2) ?hd (cs:=#[.int .i64 0,.slice none 0 0]) (t:=50) ?hr ?_;(case hd=>rfl);(case hg=>rfl);(case hr=>first|(go_simp;done)|(go_simp;rfl));intro gb191 hg w94 hbox hb;have n0_:=hs_ HB hb;have n1_:=qn.mk (hbox);have n2_:=qn.mk ((by rw [hg];exact (qj (by repeat (first|(with_reducible first|exact HB.out|apply qf|apply qa|apply qd)|exact HB.out))) : w.heap.size ≤ gb191));have n3_:=qn.mk ((by rw [hg];exact (qj (by repeat (first|(with_reducible first|exact HB.out|apply qf|apply qa|apply qd)|exact HB.out))) : w.heap.size ≤ gb191));clear HB;have HB:=n0_;have BK191:=n1_;have GW191:=n2_;have GE191:=n3_;clear n0_ n1_ n2_ n3_;clear hb hbox hg)|((with_reducible refine gate_callee (f:=48) rfl ?_);refine goesL_ (some 14) rfl rfl Try.func48 (by kernel_rfl) rfl #[.string a0] rfl (by (try simp only [List.map_toArray,List.map_cons,List.map_nil]);first|done|rfl|(simp only [List.length_drop,List.length_take];rfl)) ?_;(with_reducible refine (impl_Unsealed.calls k a0 t192 false _ A2.out).mono ?_);rintro e w95 ⟨rfl,hb⟩;refine ⟨_,rfl,?_⟩;have n0_:=bb_ BK191 hb;have n1_:=hs_ HB hb;clear BK191;clear HB;have BK191:=n0_;have HB:=n1_;clear n0_ n1_;(try clear hb);(try clear hb2);(try clear hk);(try clear hi);have hcz96_0 : w95.cell? ⟨gb191,0,none⟩ = some (.int .i64 0):=(qh BK191.out 0).trans rfl;have hcz96_1 : w95.cell? ⟨gb191,1,none⟩ = some (.slice none 0 0):=(qh BK191.out 1).trans rfl;have hfz96_0:=qi BK191.out 0;have hfz96_1:=qi BK191.out 1))
  refine bodyPost_ret (results_ct rfl _ _ gb191 50 #[.int .i64 0,.slice none 0 0] (0,0) _ rfl (by (with_reducible repeat (first|refine qb ?_ _|refine qe ?_|refine qc ?_ _));refine blk_put (cs:=#[.int .i64 0,.slice none 0 0]) ?_ 1 _ rfl;(with_reducible repeat (first|refine qb ?_ _|refine qe ?_|refine qc ?_ _));refine blk_put (cs:=#[.int .i64 0,.slice none 0 0]) ?_ 0 _ rfl;(with_reducible repeat (first|refine qb ?_ _|refine qe ?_|refine qc ?_ _));exact BK191.out) Try.underlying50 rfl (by kernel_rfl)) rfl ?_
  exact ⟨_,by first|rfl|(simp [errW_none,errW_some] <;> rfl)|(simp [*,errW_none,errW_some] <;> rfl),by first|exact Kd.R_nil _ _ _ _ _|exact Kd.N_nil _ _ _ _ _|exact Kd.V_nil _ _ _ _ _|exact Kd.Q_nil _ _ _ _ _|exact Kd.S_nil _ _ _ _ _,by repeat (first|(with_reducible first|exact HB.out|apply qf|apply qa|apply qd|refine qg ?_ GE191.out)|exact HB.out)⟩

/-! ### spec_l01Text: function 62 -/
mutual
def spec_l01Text.j0 : Nat → Int → List Int → Int → Int → Option (ByteArray × Int × Int)
 | 0,_,_,_,_=>none
 | k + 1,x1,x1000,x1001,x1002=>spec_l01Text.l0 k x1 (([] : List Int)) 0 x1000 x1001 x1002
def spec_l01Text.l0 : Nat → Int → List Int → Int → List Int → Int → Int → Option (ByteArray × Int × Int)
 | 0,_,_,_,_,_,_=>none
 | k + 1,x1,x5,x6,x1000,x1001,x1002=>if x6 < x1 then ((spec_l01Byte.f x1000 x1001 x1002).bind fun bt235=>(if x5.length < 140737488355328 then (spec_l01Text.l0 k x1 (x5 ++ [(bt235.1) % 256]) (wrap64 (x6 + 1)) x1000 bt235.2.1 bt235.2.2) else (none))) else (some (strOfNums x5,x1001,x1002))
end
def spec_l01Text.f (k : Nat) (s0_0 : List Int) (s0_1 : Int) (s0_2 : Int) (a1 : Int) : Option (ByteArray × Int × Int):=if a1 > 5000 then (spec_l01Text.j0 k 5000 s0_0 s0_1 s0_2) else (spec_l01Text.j0 k a1 s0_0 s0_1 s0_2)
theorem spec_l01Text.mono_l : ∀ k,(∀ y0 y1 y2 y3,LeO (spec_l01Text.j0 k y0 y1 y2 y3) (spec_l01Text.j0 (k + 1) y0 y1 y2 y3)) ∧ (∀ y0 y1 y2 y3 y4 y5,LeO (spec_l01Text.l0 k y0 y1 y2 y3 y4 y5) (spec_l01Text.l0 (k + 1) y0 y1 y2 y3 y4 y5))
 | 0=>⟨fun _ _ _ _ r h=>by simp [spec_l01Text.j0] at h,fun _ _ _ _ _ _ r h=>by simp [spec_l01Text.l0] at h⟩
 | k + 1=>by
  obtain ⟨ih0,ih1⟩:=spec_l01Text.mono_l k
  refine ⟨?_,?_⟩
  ·intro y0 y1 y2 y3
   unfold spec_l01Text.j0
   repeat' first
   | (with_reducible exact ih0 _ _ _ _)
   | (with_reducible exact ih1 _ _ _ _ _ _)
   | (with_reducible exact LeO.refl _)
   | (with_reducible exact LeO.none _)
   | (with_reducible refine LeO.ite ?_ ?_)
   | (with_reducible refine LeO.bind ?_ (fun _=>?_))
   | exact ih0 _ _ _ _
   | exact ih1 _ _ _ _ _ _
   | exact LeO.none _
   | refine LeO.ite ?_ ?_
   | refine LeO.bind ?_ (fun _=>?_)
  ·intro y0 y1 y2 y3 y4 y5
   unfold spec_l01Text.l0
   repeat' first
   | (with_reducible exact ih0 _ _ _ _)
   | (with_reducible exact ih1 _ _ _ _ _ _)
   | (with_reducible exact LeO.refl _)
   | (with_reducible exact LeO.none _)
   | (with_reducible refine LeO.ite ?_ ?_)
   | (with_reducible refine LeO.bind ?_ (fun _=>?_))
   | exact ih0 _ _ _ _
   | exact ih1 _ _ _ _ _ _
   | exact LeO.none _
   | refine LeO.ite ?_ ?_
   | refine LeO.bind ?_ (fun _=>?_)
theorem spec_l01Text.mono : ∀ a0 a1 a2 a3 k,LeO (spec_l01Text.f k a0 a1 a2 a3) (spec_l01Text.f (k + 1) a0 a1 a2 a3):=by
 intro a0 a1 a2 a3 k
 obtain ⟨ih0,ih1⟩:=spec_l01Text.mono_l k
 unfold spec_l01Text.f
 repeat' first
   | (with_reducible exact ih0 _ _ _ _)
   | (with_reducible exact ih1 _ _ _ _ _ _)
   | (with_reducible exact LeO.refl _)
   | (with_reducible exact LeO.none _)
   | (with_reducible refine LeO.ite ?_ ?_)
   | (with_reducible refine LeO.bind ?_ (fun _=>?_))
   | exact ih0 _ _ _ _
   | exact ih1 _ _ _ _ _ _
   | exact LeO.none _
   | refine LeO.ite ?_ ?_
   | refine LeO.bind ?_ (fun _=>?_)
set_option maxHeartbeats 8000000 in
set_option maxRecDepth 100000 in
theorem spec_l01Text.calls (k : Nat) (g : Nat) (s0_0 : List Int) (s0_1 : Int) (s0_2 : Int) (a1 : Int) (r1 : ByteArray) (r2 : Int) (r3 : Int) (w0 w : World) (hI : IsS140 w0 w g s0_0 s0_1 s0_2) (hB : Below w0.heap.size w0 w) (h : spec_l01Text.f k s0_0 s0_1 s0_2 a1 = some (r1,r2,r3)) :
  Calls Try.prog 62 #[.pointer (some ⟨g,0,none⟩),.int .i64 a1] w fun e w'=>e = .returned (.string r1) ∧ IsS140 w0 w' g s0_0 r2 r3 ∧ Below w0.heap.size w0 w' ∧ KeepBut w w' g none:=by
 have HI0:=qn.mk hI
 have HK:=qn.mk (KeepBut.refl w g none)
 have HL:=qn.mk hB.size
 clear hI
 have HW0:=qn.mk hB.size
 have HB:=qn.mk hB
 clear hB
 have H : (if a1 > 5000 then (spec_l01Text.j0 k 5000 s0_0 s0_1 s0_2) else (spec_l01Text.j0 k a1 s0_0 s0_1 s0_2)) = some (r1,r2,r3):=h
 clear h
 have HC3:=qn.mk H
 clear H
 go_enter Try.func62,Try.ntmps62
 go_upto_if 8 with (fail)
 go_cut [1] (fun v1 wc=>∃ (kq : Nat) (x1_2 : Int),v1 = .int .i64 x1_2 ∧ qn (spec_l01Text.j0 kq x1_2 s0_0 s0_1 s0_2 = some (r1,r2,r3)) ∧ qn (kq ≤ k) ∧ qn (IsS140 w0 wc g s0_0 s0_1 s0_2) ∧ qn (KeepBut w wc g none) ∧ qn (Below w0.heap.size w0 wc))
 case first =>
  have H:=HC3.out
  clear HC3
  by_cases c4 : a1 > 5000
  ·rw [if_pos c4] at H
   have c4b0 : decide (5000 < a1) = true:=decide_eq_true c4
   clear c4
   (first|rw [c4b0]|(simp only [i64_w,i32_w];rw [c4b0])|skip)
   have H':=qn.mk H
   clear H
   go_wp2
   go_meet
   case rel=>exact ⟨_,(5000),(by first|rfl|(simp;done)|(simp [*];done)),H',⟨by first|omega|exact Nat.le_refl _⟩,⟨by repeat (first|(with_reducible first|exact HI0.out|apply IsS140.alloc|apply IsS140.drewN|apply IsS140.drew|apply IsS140.set_1|apply IsS140.set_2)|exact HI0.out)⟩,⟨by repeat (first|(with_reducible first|exact HK.out|apply KeepBut.set_|apply keep_drewN|apply keep_drew|apply keep_alloc)|exact HK.out)⟩,⟨by repeat (first|(with_reducible first|exact HB.out|apply qf|apply qa|apply qd|refine qg ?_ (IsS140.ge HI0.out))|exact HB.out)⟩⟩
  ·rw [if_neg c4] at H
   have c4b0 : decide (5000 < a1) = false:=decide_eq_false c4
   clear c4
   (first|rw [c4b0]|(simp only [i64_w,i32_w];rw [c4b0])|skip)
   have H':=qn.mk H
   clear H
   go_wp2
   go_meet
   case rel=>exact ⟨_,(a1),(by first|rfl|(simp;done)|(simp [*];done)),H',⟨by first|omega|exact Nat.le_refl _⟩,⟨by repeat (first|(with_reducible first|exact HI0.out|apply IsS140.alloc|apply IsS140.drewN|apply IsS140.drew|apply IsS140.set_1|apply IsS140.set_2)|exact HI0.out)⟩,⟨by repeat (first|(with_reducible first|exact HK.out|apply KeepBut.set_|apply keep_drewN|apply keep_drew|apply keep_alloc)|exact HK.out)⟩,⟨by repeat (first|(with_reducible first|exact HB.out|apply qf|apply qa|apply qd|refine qg ?_ (IsS140.ge HI0.out))|exact HB.out)⟩⟩
 case rest =>
  clear HC3
  try clear p2
  try clear c4
  try clear c4b0
  obtain ⟨kq,x1_2,rfl,HA,HJ2,HI0,HK,HB⟩:=hcut
  cases kq with
  | zero=>exact absurd HA.out (by simp [spec_l01Text.j0])
  | succ kj2 =>
   have H:=HA.out
   clear HA
   simp only [spec_l01Text.j0] at H
   obtain ⟨y232,hy232⟩ : ∃ y_ : List Int,y_ = (([] : List Int)):=⟨_,rfl⟩
   replace H : (spec_l01Text.l0 kj2 x1_2 y232 0 s0_0 s0_1 s0_2) = some (r1,r2,r3):=by first|(rw [hy232];with_reducible exact H)|(have H2_:=(Option.bind_some _ _).symm.trans H;rw [hy232];with_reducible exact H2_)|(have H2_:=(Option.bind_some _ _).symm.trans H;with_reducible exact H2_)|with_reducible exact H|(rw [hy232];exact H)|exact H
   have Ny232:=qn.mk hy232
   clear hy232
   have H':=qn.mk H
   clear H
   go_wp2_with (first|((with_reducible refine gate_dst (N:=9) rfl ?_);refine Kd.R_lit (Kd.int .u8) _ 5 ?hg (N:=9) ?hd (xs:=([] : List Int)) (inner:=[]) (ok:=fun _=>True) (okp:=fun _=>True) ?hr ?hp (fun _ hk=>hk) trivial (Below.refl _ _) (Nat.le_refl _) (by simp) ?_;(case hd=>rfl);(case hg=>rfl);(case hr=>first|(go_simp;done)|(go_simp;rfl));(case hp=>exact (Reps.none _ _));intro v233 w5 ho6 hb hg_ hnew_;clear hg_ hnew_;(first|rw [← Ny232.out] at ho6|(simp only [Int.reduceToNat] at ho6;rw [← Ny232.out] at ho6));have n0_:=qn.mk (Kd.R_lower ho6 (keep_size (w:=w) (g:=g) (row:=none) (by repeat (first|(with_reducible first|exact HK.out|apply KeepBut.set_|apply keep_drewN|apply keep_drew|apply keep_alloc)|exact HK.out))));have n1_:=qn.mk (IsS140.below (by repeat (first|(with_reducible first|exact HI0.out|apply IsS140.alloc|apply IsS140.drewN|apply IsS140.drew|apply IsS140.set_1|apply IsS140.set_2)|exact HI0.out)) hb);have n2_:=qn.mk (KeepBut.trans (by repeat (first|(with_reducible first|exact HK.out|apply KeepBut.set_|apply keep_drewN|apply keep_drew|apply keep_alloc)|exact HK.out)) (KeepBut.of_below hb g none) (.inl rfl));have n3_:=qn.mk (qm (by repeat (first|(with_reducible first|exact HB.out|apply qf|apply qa|apply qd|refine qg ?_ (IsS140.ge HI0.out))|exact HB.out)) hb);clear HI0;clear HK;clear HB;have HO234:=n0_;have HI0:=n1_;have HK:=n2_;have HB:=n3_;clear n0_ n1_ n2_ n3_;clear hb ho6))
   go_loopg [5,6] kj2 (fun kq v5 v6 w'=>∃ (x5_2 : List Int) (x6_2 : Int) (x1001_2 : Int) (x1002_2 : Int),v6 = .int .i64 x6_2 ∧ qn (spec_l01Text.l0 kq x1_2 x5_2 x6_2 s0_0 x1001_2 x1002_2 = some (r1,r2,r3)) ∧ qn (kq ≤ kj2) ∧ qn (Kd.R (Kd.int .u8) 5 w' w.heap.size (fun _=>True) v5 x5_2) ∧ qn (IsS140 w0 w' g s0_0 x1001_2 x1002_2) ∧ qn (KeepBut w w' g none) ∧ qn (Below w0.heap.size w0 w'))
   case atStart=>exact ⟨(y232),(0),(s0_1),(s0_2),(by first|rfl|(simp;done)|(simp [*];done)),H',⟨Nat.le_refl _⟩,⟨by (with_reducible repeat (first|apply Kd.R_alloc|apply Kd.R_drewN|apply Kd.R_drew));exact HO234.out⟩,⟨by repeat (first|(with_reducible first|exact HI0.out|apply IsS140.alloc|apply IsS140.drewN|apply IsS140.drew|apply IsS140.set_1|apply IsS140.set_2)|exact HI0.out)⟩,⟨by repeat (first|(with_reducible first|exact HK.out|apply KeepBut.set_|apply keep_drewN|apply keep_drew|apply keep_alloc)|exact HK.out)⟩,⟨by repeat (first|(with_reducible first|exact HB.out|apply qf|apply qa|apply qd|refine qg ?_ (IsS140.ge HI0.out))|exact HB.out)⟩⟩
   case round =>
    clear H'
    try clear p2
    try clear c4
    try clear c4b0
    try clear c6
    try clear p2
    obtain ⟨x5_2,x6_2,x1001_2,x1002_2,rfl,HA,HK2,HO_5,HI0,HK,HB⟩:=hrel
    cases gk with
    | zero=>exact absurd HA.out (by simp [spec_l01Text.l0])
    | succ k2 =>
     have H:=HA.out
     clear HA
     simp only [spec_l01Text.l0] at H
     by_cases c7 : x6_2 < x1_2
     ·rw [if_pos c7] at H
      have c7b0 : decide (x6_2 < x1_2) = true:=decide_eq_true c7
      clear c7
      replace H:=Option.bind_eq_some_iff.mp H
      obtain ⟨⟨t235,t236,t237⟩,A80,H⟩:=H
      replace H : (if x5_2.length < 140737488355328 then (spec_l01Text.l0 k2 x1_2 (x5_2 ++ [(t235) % 256]) (wrap64 (x6_2 + 1)) s0_0 t236 t237) else (none)) = some (r1,r2,r3):=H
      have A8:=qn.mk A80
      clear A80
      by_cases c9 : x5_2.length < 140737488355328
      ·rw [if_pos c9] at H
       have LMc9:=qn.mk c9
       clear c9
       obtain ⟨y238,hy238⟩ : ∃ y_ : List Int,y_ = (x5_2 ++ [(t235) % 256]):=⟨_,rfl⟩
       replace H : (spec_l01Text.l0 k2 x1_2 y238 (wrap64 (x6_2 + 1)) s0_0 t236 t237) = some (r1,r2,r3):=by first|(rw [hy238];with_reducible exact H)|(have H2_:=(Option.bind_some _ _).symm.trans H;rw [hy238];with_reducible exact H2_)|(have H2_:=(Option.bind_some _ _).symm.trans H;with_reducible exact H2_)|with_reducible exact H|(rw [hy238];exact H)|exact H
       have Ny238:=qn.mk hy238
       clear hy238
       have H':=qn.mk H
       clear H
       go_wp2_with (first|((with_reducible refine gate_callee (f:=57) rfl ?_);refine goesL_ (some 17) rfl rfl Try.func57 (by kernel_rfl) rfl #[.pointer (some ⟨g,0,none⟩)] rfl (by (try simp only [List.map_toArray,List.map_cons,List.map_nil]);first|done|rfl|(simp only [List.length_drop,List.length_take];rfl)) ?_;(with_reducible refine (spec_l01Byte.calls g s0_0 x1001_2 x1002_2 t235 t236 t237 w0 _ ?side1 ?side2 A8.out).mono ?_);(case side1=>repeat (first|(with_reducible first|exact HI0.out|apply IsS140.alloc|apply IsS140.drewN|apply IsS140.drew|apply IsS140.set_1|apply IsS140.set_2)|exact HI0.out));(case side2=>repeat (first|(with_reducible first|exact HB.out|apply qf|apply qa|apply qd|refine qg ?_ (IsS140.ge HI0.out))|exact HB.out));rintro e w10 ⟨rfl,hi,hb,hk⟩;refine ⟨_,rfl,?_⟩;have n0_:=qn.mk (Kd.R_mono (Kd.R_keep (IsS140.apart (show IsS140 w0 _ g s0_0 x1001_2 x1002_2 from by repeat (first|(with_reducible first|exact HI0.out|apply IsS140.alloc|apply IsS140.drewN|apply IsS140.drew|apply IsS140.set_1|apply IsS140.set_2)|exact HI0.out)) (by (with_reducible repeat (first|apply Kd.R_alloc|apply Kd.R_drewN|apply Kd.R_drew));exact HO_5.out) (by decide)) hk (fun _ h=>h.2)) (fun _ h=>h.1));have n1_:=qn.mk (KeepBut.trans (by repeat (first|(with_reducible first|exact HK.out|apply KeepBut.set_|apply keep_drewN|apply keep_drew|apply keep_alloc)|exact HK.out)) hk (.inl rfl));have n2_:=qn.mk (hb);have n3_:=qn.mk (hi);clear HO_5;clear HK;clear HB;clear HI0;have HO_5:=n0_;have HK:=n1_;have HB:=n2_;have HI0:=n3_;clear n0_ n1_ n2_ n3_;(try clear hb);(try clear hb2);(try clear hk);(try clear hi))|((with_reducible refine gate_builtin (b:=.append) (xs:=#[.tmp 15,.tmp 19]) rfl ?_);at_builtin;refine Kd.R_append (Kd.int .u8) w.heap.size rfl (.tmp 15) (.tmp 19) 22 5 (.int .u8 0) 1 rfl Try.underlying22 info5 rfl (by decide) (by omega) u5 x5_2 ((t235) % 256) [.int .u8 ((t235) % 256)] (fun _=>True) (fun _=>False) rfl rfl ?aP (fun _ hk=>hk.elim) ?aF ?aO (Below.refl _ _) ?aS ?aL ?_;(case aP=>exact rfl);(case aF=>exact (fun _ _=>trivial));(case aO=>exact (by (with_reducible repeat (first|apply Kd.R_alloc|apply Kd.R_drewN|apply Kd.R_drew));exact HO_5.out));(case aS=>exact (keep_size (w:=w) (g:=g) (row:=none) (by repeat (first|(with_reducible first|exact HK.out|apply KeepBut.set_|apply keep_drewN|apply keep_drew|apply keep_alloc)|exact HK.out))));(case aL=>have:=LMc9.out;omega);intro v239 w11 ho hb hg hat;rw [← Ny238.out] at ho;have n0_:=qn.mk (IsS140.grown (by repeat (first|(with_reducible first|exact HI0.out|apply IsS140.alloc|apply IsS140.drewN|apply IsS140.drew|apply IsS140.set_1|apply IsS140.set_2)|exact HI0.out)) hg (IsS140.own_ne HI0.out HO_5.out (by decide)));have n1_:=qn.mk (below_weaken (by repeat (first|(with_reducible first|exact HB.out|apply qf|apply qa|apply qd|refine qg ?_ (IsS140.ge HI0.out))|exact HB.out)) HL.out hb);have n2_:=qn.mk (KeepBut.trans (by repeat (first|(with_reducible first|exact HK.out|apply KeepBut.set_|apply keep_drewN|apply keep_drew|apply keep_alloc)|exact HK.out)) (KeepBut.of_grown hg g) (Kd.R_base2 HO_5.out));have n3_:=qn.mk (ho);clear HI0;clear HB;clear HK;clear HO_5;have HI0:=n0_;have HB:=n1_;have HK:=n2_;have HO240:=n3_;clear n0_ n1_ n2_ n3_;clear ho hb hg hat))
       go_roundg k2
       case measure=>have:=HJ2.out;have:=HK2.out;omega
       case rel=>exact ⟨(y238),(wrap64 (x6_2 + 1)),(t236),(t237),(by first|rfl|(simp;done)|(simp [*];done)),H',⟨by have:=HJ2.out;have:=HK2.out;omega⟩,⟨by (with_reducible repeat (first|apply Kd.R_alloc|apply Kd.R_drewN|apply Kd.R_drew));exact HO240.out⟩,⟨by repeat (first|(with_reducible first|exact HI0.out|apply IsS140.alloc|apply IsS140.drewN|apply IsS140.drew|apply IsS140.set_1|apply IsS140.set_2)|exact HI0.out)⟩,⟨by repeat (first|(with_reducible first|exact HK.out|apply KeepBut.set_|apply keep_drewN|apply keep_drew|apply keep_alloc)|exact HK.out)⟩,⟨by repeat (first|(with_reducible first|exact HB.out|apply qf|apply qa|apply qd|refine qg ?_ (IsS140.ge HI0.out))|exact HB.out)⟩⟩
      ·rw [if_neg c9] at H
       exact absurd H (by simp)
     ·rw [if_neg c7] at H
      have c7b0 : decide (x6_2 < x1_2) = false:=decide_eq_false c7
      clear c7
      simp only [Option.some.injEq,Prod.mk.injEq] at H
      obtain ⟨rfl,rfl,rfl⟩:=H
      have hcv12:=own_string (P:=Try.prog) Try.underlying22 Try.underlying5 Try.underlying9 (Kd.own_of_R HO_5.out)
      go_wp2
      go_ret
      exact ⟨by first|rfl|(simp [errW_none,errW_some] <;> rfl)|(simp [*,errW_none,errW_some] <;> rfl),by repeat (first|(with_reducible first|exact HI0.out|apply IsS140.alloc|apply IsS140.drewN|apply IsS140.drew|apply IsS140.set_1|apply IsS140.set_2)|exact HI0.out),by repeat (first|(with_reducible first|exact HB.out|apply qf|apply qa|apply qd|refine qg ?_ (IsS140.ge HI0.out))|exact HB.out),by repeat (first|(with_reducible first|exact HK.out|apply KeepBut.set_|apply keep_drewN|apply keep_drew|apply keep_alloc)|exact HK.out)⟩

/-! ### spec_l01Long: function 77 -/
def spec_l01Long.l0 : Nat → Int → Int → List Int → Int → Option (ByteArray)
 | 0,_,_,_,_=>none
 | k + 1,x0,x1,x5,x6=>if x6 < x0 then (if 0 ≤ x6 then (if x6 < (x5.length : Int) then (spec_l01Long.l0 k x0 x1 (x5.set (x6 : Int).toNat x1) (wrap64 (x6 + 1))) else (none)) else (none)) else (some (strOfNums x5))
def spec_l01Long.f (k : Nat) (a0 : Int) (a1 : Int) : Option (ByteArray):=if 0 ≤ a0 then (if (a0 : Int).toNat ≤ 281474976710656 then (spec_l01Long.l0 k a0 a1 (List.replicate (a0 : Int).toNat 0) 0) else (none)) else (none)
theorem spec_l01Long.mono_l : ∀ k,(∀ y0 y1 y2 y3,LeO (spec_l01Long.l0 k y0 y1 y2 y3) (spec_l01Long.l0 (k + 1) y0 y1 y2 y3))
 | 0=>fun _ _ _ _ r h=>by simp [spec_l01Long.l0] at h
 | k + 1=>by
  have ih0:=spec_l01Long.mono_l k
  ·intro y0 y1 y2 y3
   unfold spec_l01Long.l0
   repeat' first
   | (with_reducible exact ih0 _ _ _ _)
   | (with_reducible exact LeO.refl _)
   | (with_reducible exact LeO.none _)
   | (with_reducible refine LeO.ite ?_ ?_)
   | (with_reducible refine LeO.bind ?_ (fun _=>?_))
   | exact ih0 _ _ _ _
   | exact LeO.none _
   | refine LeO.ite ?_ ?_
   | refine LeO.bind ?_ (fun _=>?_)
theorem spec_l01Long.mono : ∀ a0 a1 k,LeO (spec_l01Long.f k a0 a1) (spec_l01Long.f (k + 1) a0 a1):=by
 intro a0 a1 k
 have ih0:=spec_l01Long.mono_l k
 unfold spec_l01Long.f
 repeat' first
   | (with_reducible exact ih0 _ _ _ _)
   | (with_reducible exact LeO.refl _)
   | (with_reducible exact LeO.none _)
   | (with_reducible refine LeO.ite ?_ ?_)
   | (with_reducible refine LeO.bind ?_ (fun _=>?_))
   | exact ih0 _ _ _ _
   | exact LeO.none _
   | refine LeO.ite ?_ ?_
   | refine LeO.bind ?_ (fun _=>?_)
set_option maxHeartbeats 8000000 in
set_option maxRecDepth 100000 in
theorem spec_l01Long.calls (k : Nat) (a0 : Int) (a1 : Int) (r : ByteArray) (w : World) (h : spec_l01Long.f k a0 a1 = some r) :
  Calls Try.prog 77 #[.int .i64 a0,.int .u8 a1] w fun e w'=>e = .returned (.string r) ∧ Below w.heap.size w w':=by
 have HB:=qn.mk (Below.refl w.heap.size w)
 have H : (if 0 ≤ a0 then (if (a0 : Int).toNat ≤ 281474976710656 then (spec_l01Long.l0 k a0 a1 (List.replicate (a0 : Int).toNat 0) 0) else (none)) else (none)) = some r:=h
 clear h
 by_cases c3 : 0 ≤ a0
 ·rw [if_pos c3] at H
  have c3b0:=eq_true c3
  have c3b1 : decide (0 ≤ a0) = true:=decide_eq_true c3
  clear c3
  by_cases c4 : (a0 : Int).toNat ≤ 281474976710656
  ·rw [if_pos c4] at H
   have c4b0:=eq_true c4
   have c4b1 : decide ((a0 : Int).toNat ≤ 281474976710656) = true:=decide_eq_true c4
   clear c4
   obtain ⟨y241,hy241⟩ : ∃ y_ : List Int,y_ = (List.replicate (a0 : Int).toNat 0):=⟨_,rfl⟩
   replace H : (spec_l01Long.l0 k a0 a1 y241 0) = some r:=by first|(rw [hy241];with_reducible exact H)|(have H2_:=(Option.bind_some _ _).symm.trans H;rw [hy241];with_reducible exact H2_)|(have H2_:=(Option.bind_some _ _).symm.trans H;with_reducible exact H2_)|with_reducible exact H|(rw [hy241];exact H)|exact H
   have Ny241:=qn.mk hy241
   clear hy241
   have H':=qn.mk H
   clear H
   go_enter Try.func77,Try.ntmps77
   go_wp2_with (first|((with_reducible refine gate_dst (N:=8) rfl ?_);refine Kd.R_make (Kd.int .u8) _ 5 rfl (N:=8) rfl 22 _ _ rfl a0 rfl rfl Try.underlying22 (.int .u8 0) 1 info5 rfl (by decide) (by omega) 0 (ok:=fun _=>True) (okp:=fun _=>True) rfl (fun _ hk=>hk) trivial (of_decide_eq_true (by first|(with_reducible assumption)|assumption)) (Nat.le_trans (Nat.mul_le_mul_right _ (of_decide_eq_true (by first|(with_reducible assumption)|assumption) : a0.toNat ≤ 281474976710656)) (by omega)) (Below.refl _ _) (Nat.le_refl _) ?_;intro v242 w5 ho6 hb hg_ hnew_;clear hg_ hnew_;(first|rw [← Ny241.out] at ho6|(simp only [Int.reduceToNat] at ho6;rw [← Ny241.out] at ho6));have n0_:=qn.mk (Kd.R_lower ho6 (qj (by repeat (first|(with_reducible first|exact HB.out|apply qf|apply qa|apply qd)|exact HB.out))));have n1_:=hs_ HB hb;clear HB;have HO243:=n0_;have HB:=n1_;clear n0_ n1_;clear hb ho6))
   go_loopg [6] k (fun kq v6 w'=>∃ (x5_1 : List Int) (x6_1 : Int),v6 = .int .i64 x6_1 ∧ qn (spec_l01Long.l0 kq a0 a1 x5_1 x6_1 = some r) ∧ qn (kq ≤ k) ∧ qn (Kd.R (Kd.int .u8) 5 w' w.heap.size (fun _=>True) v242 x5_1) ∧ qn (Below w.heap.size w w'))
   case atStart=>exact ⟨(y241),(0),(by first|rfl|(simp;done)|(simp [*];done)),H',⟨Nat.le_refl _⟩,⟨by (with_reducible repeat (first|apply Kd.R_alloc|apply Kd.R_drewN|apply Kd.R_drew));exact HO243.out⟩,⟨by repeat (first|(with_reducible first|exact HB.out|apply qf|apply qa|apply qd)|exact HB.out)⟩⟩
   case round =>
    clear H'
    try clear p2
    try clear c3
    try clear c3b0
    try clear c3b1
    try clear c4
    try clear c4b0
    try clear c4b1
    obtain ⟨x5_1,x6_1,rfl,HA,HK1,HO_5,HB⟩:=hrel
    cases gk with
    | zero=>exact absurd HA.out (by simp [spec_l01Long.l0])
    | succ k1 =>
     have H:=HA.out
     clear HA
     simp only [spec_l01Long.l0] at H
     by_cases c7 : x6_1 < a0
     ·rw [if_pos c7] at H
      have c7b0 : decide (x6_1 < a0) = true:=decide_eq_true c7
      clear c7
      by_cases c8 : 0 ≤ x6_1
      ·rw [if_pos c8] at H
       have c8b0 : decide (0 ≤ x6_1) = true:=decide_eq_true c8
       clear c8
       by_cases c9 : x6_1 < (x5_1.length : Int)
       ·rw [if_pos c9] at H
        have c9b0 : decide (x6_1 < (x5_1.length : Int)) = true:=decide_eq_true c9
        clear c9
        obtain ⟨y244,hy244⟩ : ∃ y_ : List Int,y_ = (x5_1.set (x6_1 : Int).toNat a1):=⟨_,rfl⟩
        replace H : (spec_l01Long.l0 k1 a0 a1 y244 (wrap64 (x6_1 + 1))) = some r:=by first|(rw [hy244];with_reducible exact H)|(have H2_:=(Option.bind_some _ _).symm.trans H;rw [hy244];with_reducible exact H2_)|(have H2_:=(Option.bind_some _ _).symm.trans H;with_reducible exact H2_)|with_reducible exact H|(rw [hy244];exact H)|exact H
        have Ny244:=qn.mk hy244
        clear hy244
        have H':=qn.mk H
        clear H
        have p10 : 0 ≤ (x6_1 : Int):=of_decide_eq_true (by first|(with_reducible assumption)|assumption)
        have q10 : (x6_1 : Int) < ((x5_1.length : Int) : Int):=of_decide_eq_true (by first|(with_reducible assumption)|assumption)
        obtain ⟨go10,co10,eo10,gb10,gl10,cl10,HG10⟩:=Kd.R_form HO_5.out (by omega)
        (first|cases eo10|(injection eo10 with ea_ en_ ec_;(first|subst ea_|(injection ea_ with ea_;subst ea_));subst ec_;clear en_))
        have GB10:=qn.mk gb10
        have GG10:=qn.mk HG10
        clear gb10 gl10 HG10
        obtain ⟨hx10_0,hf10_0⟩:=Kd.R_celln 0 HO_5.out (x6_1 : Int) p10 q10
        replace p10:=eq_true p10
        replace q10:=eq_true q10
        have HP11:=Kd.R_putg HO_5.out (x6_1 : Int) a1
        go_wp2_with (first|((with_reducible refine gate_store (t:=5) (p:=17) rfl ?_);refine store_event (t:=5) (p:=17) (v:=?vo_w12) (w1:=(wr.setCell ⟨go10,(x6_1 : Int).toNat,none⟩ (.int .u8 a1))) ?hg ?ho ?hn ?hr ?_;(case ho=>rfl);(case hg=>rfl);(case hn=>rfl);(case hr=>first|(go_simp;done)|(go_simp;rfl));intro w12 hw;have hg : wr.grownBy w12 (some go10):=(by rw [hw];exact HP11.2);have hp_ : Kd.R (Kd.int .u8) 5 w12 w.heap.size (fun _=>True) (.slice (some ⟨go10,0,none⟩) x5_1.length co10) y244:=(by rw [hw,Ny244.out];exact HP11.1);clear HP11;have n0_:=qn.mk (hp_);have n1_:=qn.mk ((by rw [hw];exact qg (HB.out) GB10.out : Below w.heap.size w w12));clear HO_5;clear HB;have HO_5:=n0_;have HB:=n1_;clear n0_ n1_;clear hg hw hp_))
        go_roundg k1
        case measure=>have:=HK1.out;omega
        case rel=>exact ⟨(y244),(wrap64 (x6_1 + 1)),(by first|rfl|(simp;done)|(simp [*];done)),H',⟨by have:=HK1.out;omega⟩,⟨by (with_reducible repeat (first|apply Kd.R_alloc|apply Kd.R_drewN|apply Kd.R_drew));exact HO_5.out⟩,⟨by repeat (first|(with_reducible first|exact HB.out|apply qf|apply qa|apply qd)|exact HB.out)⟩⟩
       ·rw [if_neg c9] at H
        exact absurd H (by simp)
      ·rw [if_neg c8] at H
       exact absurd H (by simp)
     ·rw [if_neg c7] at H
      have c7b0 : decide (x6_1 < a0) = false:=decide_eq_false c7
      clear c7
      obtain rfl:=Option.some.inj H
      have hcv13:=own_string (P:=Try.prog) Try.underlying22 Try.underlying5 Try.underlying9 (Kd.own_of_R HO_5.out)
      go_wp2
      go_ret
      exact ⟨by first|rfl|(simp [errW_none,errW_some] <;> rfl)|(simp [*,errW_none,errW_some] <;> rfl),by repeat (first|(with_reducible first|exact HB.out|apply qf|apply qa|apply qd)|exact HB.out)⟩
  ·rw [if_neg c4] at H
   exact absurd H (by simp)
 ·rw [if_neg c3] at H
  exact absurd H (by simp)

/-! ### spec_l01PickInt: function 102 -/
def spec_l01PickInt.f (s0_0 : List Int) (s0_1 : Int) (s0_2 : Int) (l1 : List Int) : Option (Int × Int × Int):=(spec_l01Below.f s0_0 s0_1 s0_2 (l1.length : Int)).bind fun bt245=>(if 0 ≤ bt245.1 then (if bt245.1 < (l1.length : Int) then (some (rd l1 bt245.1,bt245.2.1,bt245.2.2)) else (none)) else (none))
set_option maxHeartbeats 8000000 in
set_option maxRecDepth 100000 in
theorem spec_l01PickInt.calls (g : Nat) (s0_0 : List Int) (s0_1 : Int) (s0_2 : Int) (A1 : Option Addr) (c1 : Nat) (l1 : List Int) (r1 : Int) (r2 : Int) (r3 : Int) (w0 w : World) (hI : IsS140 w0 w g s0_0 s0_1 s0_2) (hB : Below w0.heap.size w0 w) (hr1 : Kd.C (Kd.int .i64) w A1 l1.length l1) (hc1 : l1.length ≤ c1) (hf1 : ∀ ad,A1 = some ad → 0 < l1.length → ad.block ≠ g) (h : spec_l01PickInt.f s0_0 s0_1 s0_2 l1 = some (r1,r2,r3)) :
  Calls Try.prog 102 #[.pointer (some ⟨g,0,none⟩),.slice A1 l1.length c1] w fun e w'=>e = .returned (.int .i64 r1) ∧ IsS140 w0 w' g s0_0 r2 r3 ∧ Below w0.heap.size w0 w' ∧ KeepBut w w' g none:=by
 have HR1:=qn.mk hr1
 have HC1:=qn.mk hc1
 clear hr1 hc1
 have HI0:=qn.mk hI
 have HK:=qn.mk (KeepBut.refl w g none)
 have HL:=qn.mk hB.size
 clear hI
 have HW0:=qn.mk hB.size
 have HB:=qn.mk hB
 clear hB
 have H : ((spec_l01Below.f s0_0 s0_1 s0_2 (l1.length : Int)).bind fun bt245=>(if 0 ≤ bt245.1 then (if bt245.1 < (l1.length : Int) then (some (rd l1 bt245.1,bt245.2.1,bt245.2.2)) else (none)) else (none))) = some (r1,r2,r3):=h
 clear h
 replace H:=Option.bind_eq_some_iff.mp H
 obtain ⟨⟨t245,t246,t247⟩,A30,H⟩:=H
 replace H : (if 0 ≤ t245 then (if t245 < (l1.length : Int) then (some (rd l1 t245,t246,t247)) else (none)) else (none)) = some (r1,r2,r3):=H
 have A3:=qn.mk A30
 clear A30
 by_cases c4 : 0 ≤ t245
 ·rw [if_pos c4] at H
  have c4b0 : decide (0 ≤ t245) = true:=decide_eq_true c4
  clear c4
  by_cases c5 : t245 < (l1.length : Int)
  ·rw [if_pos c5] at H
   have c5b0 : decide (t245 < (l1.length : Int)) = true:=decide_eq_true c5
   clear c5
   simp only [Option.some.injEq,Prod.mk.injEq] at H
   obtain ⟨rfl,rfl,rfl⟩:=H
   go_enter Try.func102,Try.ntmps102
   go_wp2_with (first|((with_reducible refine gate_callee (f:=58) rfl ?_);refine goesL_ (some 9) rfl rfl Try.func58 (by kernel_rfl) rfl #[.pointer (some ⟨g,0,none⟩),.int .i64 (l1.length : Int)] rfl (by (try simp only [List.map_toArray,List.map_cons,List.map_nil]);first|done|rfl|(simp only [List.length_drop,List.length_take];rfl)) ?_;(with_reducible refine (spec_l01Below.calls g s0_0 s0_1 s0_2 (l1.length : Int) t245 t246 t247 w0 _ ?side1 ?side2 A3.out).mono ?_);(case side1=>repeat (first|(with_reducible first|exact HI0.out|apply IsS140.alloc|apply IsS140.drewN|apply IsS140.drew|apply IsS140.set_1|apply IsS140.set_2)|exact HI0.out));(case side2=>repeat (first|(with_reducible first|exact HB.out|apply qf|apply qa|apply qd|refine qg ?_ (IsS140.ge HI0.out))|exact HB.out));rintro e w6 ⟨rfl,hi,hb,hk⟩;refine ⟨_,rfl,?_⟩;have n0_:=qn.mk (KeepBut.trans (by repeat (first|(with_reducible first|exact HK.out|apply KeepBut.set_|apply keep_drewN|apply keep_drew|apply keep_alloc)|exact HK.out)) hk (.inl rfl));have n1_:=qn.mk (hb);have n2_:=qn.mk (hi);clear HK;clear HB;clear HI0;have HK:=n0_;have HB:=n1_;have HI0:=n2_;clear n0_ n1_ n2_;(try clear hb);(try clear hb2);(try clear hk);(try clear hi);have p248 : 0 ≤ (t245 : Int):=of_decide_eq_true (by first|(with_reducible assumption)|assumption);have q248 : t245 < (l1.length : Int):=of_decide_eq_true (by first|(with_reducible assumption)|assumption);obtain ⟨ad248,e248,hx248_0⟩:=Kd.at_int HR1.out t245 p248 q248;cases e248;replace hx248_0:=keep_cell HK.out hx248_0 (by first|(rw [qk];exact hf1 _ rfl (by omega))|exact hf1 _ rfl (by omega)|exact hf1 ad248 rfl (by omega));replace p248:=eq_true p248;replace q248:=eq_true q248))
   go_ret
   exact ⟨by first|rfl|(simp [errW_none,errW_some] <;> rfl)|(simp [*,errW_none,errW_some] <;> rfl),by repeat (first|(with_reducible first|exact HI0.out|apply IsS140.alloc|apply IsS140.drewN|apply IsS140.drew|apply IsS140.set_1|apply IsS140.set_2)|exact HI0.out),by repeat (first|(with_reducible first|exact HB.out|apply qf|apply qa|apply qd|refine qg ?_ (IsS140.ge HI0.out))|exact HB.out),by repeat (first|(with_reducible first|exact HK.out|apply KeepBut.set_|apply keep_drewN|apply keep_drew|apply keep_alloc)|exact HK.out)⟩
  ·rw [if_neg c5] at H
   exact absurd H (by simp)
 ·rw [if_neg c4] at H
  exact absurd H (by simp)

/-! ### spec_l01Pick: function 111 -/
def spec_l01Pick.f (s0_0 : List Int) (s0_1 : Int) (s0_2 : Int) (l1 : List ByteArray) : Option (ByteArray × Int × Int):=(spec_l01Below.f s0_0 s0_1 s0_2 (l1.length : Int)).bind fun bt249=>(if 0 ≤ bt249.1 then (if bt249.1 < (l1.length : Int) then (some (rdOf ByteArray.empty l1 bt249.1,bt249.2.1,bt249.2.2)) else (none)) else (none))
set_option maxHeartbeats 8000000 in
set_option maxRecDepth 100000 in
theorem spec_l01Pick.calls (g : Nat) (s0_0 : List Int) (s0_1 : Int) (s0_2 : Int) (A1 : Option Addr) (c1 : Nat) (l1 : List ByteArray) (r1 : ByteArray) (r2 : Int) (r3 : Int) (w0 w : World) (hI : IsS140 w0 w g s0_0 s0_1 s0_2) (hB : Below w0.heap.size w0 w) (hr1 : Kd.C Kd.string w A1 l1.length l1) (hc1 : l1.length ≤ c1) (hf1 : ∀ ad,A1 = some ad → 0 < l1.length → ad.block ≠ g) (h : spec_l01Pick.f s0_0 s0_1 s0_2 l1 = some (r1,r2,r3)) :
  Calls Try.prog 111 #[.pointer (some ⟨g,0,none⟩),.slice A1 l1.length c1] w fun e w'=>e = .returned (.string r1) ∧ IsS140 w0 w' g s0_0 r2 r3 ∧ Below w0.heap.size w0 w' ∧ KeepBut w w' g none:=by
 have HR1:=qn.mk hr1
 have HC1:=qn.mk hc1
 clear hr1 hc1
 have HI0:=qn.mk hI
 have HK:=qn.mk (KeepBut.refl w g none)
 have HL:=qn.mk hB.size
 clear hI
 have HW0:=qn.mk hB.size
 have HB:=qn.mk hB
 clear hB
 have H : ((spec_l01Below.f s0_0 s0_1 s0_2 (l1.length : Int)).bind fun bt249=>(if 0 ≤ bt249.1 then (if bt249.1 < (l1.length : Int) then (some (rdOf ByteArray.empty l1 bt249.1,bt249.2.1,bt249.2.2)) else (none)) else (none))) = some (r1,r2,r3):=h
 clear h
 replace H:=Option.bind_eq_some_iff.mp H
 obtain ⟨⟨t249,t250,t251⟩,A30,H⟩:=H
 replace H : (if 0 ≤ t249 then (if t249 < (l1.length : Int) then (some (rdOf ByteArray.empty l1 t249,t250,t251)) else (none)) else (none)) = some (r1,r2,r3):=H
 have A3:=qn.mk A30
 clear A30
 by_cases c4 : 0 ≤ t249
 ·rw [if_pos c4] at H
  have c4b0 : decide (0 ≤ t249) = true:=decide_eq_true c4
  clear c4
  by_cases c5 : t249 < (l1.length : Int)
  ·rw [if_pos c5] at H
   have c5b0 : decide (t249 < (l1.length : Int)) = true:=decide_eq_true c5
   clear c5
   simp only [Option.some.injEq,Prod.mk.injEq] at H
   obtain ⟨rfl,rfl,rfl⟩:=H
   go_enter Try.func111,Try.ntmps111
   go_wp2_with (first|((with_reducible refine gate_callee (f:=58) rfl ?_);refine goesL_ (some 9) rfl rfl Try.func58 (by kernel_rfl) rfl #[.pointer (some ⟨g,0,none⟩),.int .i64 (l1.length : Int)] rfl (by (try simp only [List.map_toArray,List.map_cons,List.map_nil]);first|done|rfl|(simp only [List.length_drop,List.length_take];rfl)) ?_;(with_reducible refine (spec_l01Below.calls g s0_0 s0_1 s0_2 (l1.length : Int) t249 t250 t251 w0 _ ?side1 ?side2 A3.out).mono ?_);(case side1=>repeat (first|(with_reducible first|exact HI0.out|apply IsS140.alloc|apply IsS140.drewN|apply IsS140.drew|apply IsS140.set_1|apply IsS140.set_2)|exact HI0.out));(case side2=>repeat (first|(with_reducible first|exact HB.out|apply qf|apply qa|apply qd|refine qg ?_ (IsS140.ge HI0.out))|exact HB.out));rintro e w6 ⟨rfl,hi,hb,hk⟩;refine ⟨_,rfl,?_⟩;have n0_:=qn.mk (KeepBut.trans (by repeat (first|(with_reducible first|exact HK.out|apply KeepBut.set_|apply keep_drewN|apply keep_drew|apply keep_alloc)|exact HK.out)) hk (.inl rfl));have n1_:=qn.mk (hb);have n2_:=qn.mk (hi);clear HK;clear HB;clear HI0;have HK:=n0_;have HB:=n1_;have HI0:=n2_;clear n0_ n1_ n2_;(try clear hb);(try clear hb2);(try clear hk);(try clear hi);have p252 : 0 ≤ (t249 : Int):=of_decide_eq_true (by first|(with_reducible assumption)|assumption);have q252 : t249 < (l1.length : Int):=of_decide_eq_true (by first|(with_reducible assumption)|assumption);obtain ⟨ad252,e252,hx252_0⟩:=Kd.at_string HR1.out t249 p252 q252;cases e252;replace hx252_0:=keep_cell HK.out hx252_0 (by first|(rw [qk];exact hf1 _ rfl (by omega))|exact hf1 _ rfl (by omega)|exact hf1 ad252 rfl (by omega));replace p252:=eq_true p252;replace q252:=eq_true q252))
   go_ret
   exact ⟨by first|rfl|(simp [errW_none,errW_some] <;> rfl)|(simp [*,errW_none,errW_some] <;> rfl),by repeat (first|(with_reducible first|exact HI0.out|apply IsS140.alloc|apply IsS140.drewN|apply IsS140.drew|apply IsS140.set_1|apply IsS140.set_2)|exact HI0.out),by repeat (first|(with_reducible first|exact HB.out|apply qf|apply qa|apply qd|refine qg ?_ (IsS140.ge HI0.out))|exact HB.out),by repeat (first|(with_reducible first|exact HK.out|apply KeepBut.set_|apply keep_drewN|apply keep_drew|apply keep_alloc)|exact HK.out)⟩
  ·rw [if_neg c5] at H
   exact absurd H (by simp)
 ·rw [if_neg c4] at H
  exact absurd H (by simp)

/-! ### spec_l04Key: function 119 -/
def spec_l04Key.f (s0_0 : List Int) (s0_1 : Int) (s0_2 : Int) : Option (ByteArray × Int × Int):=(spec_l01Pick.f s0_0 s0_1 s0_2 (([(⟨#[97]⟩ : ByteArray),(⟨#[98]⟩ : ByteArray),(⟨#[118,48,48]⟩ : ByteArray),(⟨#[118,48,49]⟩ : ByteArray),(⟨#[101,48,49,48,50]⟩ : ByteArray),(⟨#[114,48,48,48,48]⟩ : ByteArray),(⟨#[113,48,48]⟩ : ByteArray),(⟨#[122,122]⟩ : ByteArray),(⟨#[107,49]⟩ : ByteArray),(⟨#[107,50]⟩ : ByteArray)] : List ByteArray))).bind fun bt256=>(some (bt256.1,bt256.2.1,bt256.2.2))
set_option maxHeartbeats 8000000 in
set_option maxRecDepth 100000 in
theorem spec_l04Key.calls (g : Nat) (s0_0 : List Int) (s0_1 : Int) (s0_2 : Int) (r1 : ByteArray) (r2 : Int) (r3 : Int) (w0 w : World) (hI : IsS140 w0 w g s0_0 s0_1 s0_2) (hB : Below w0.heap.size w0 w) (h : spec_l04Key.f s0_0 s0_1 s0_2 = some (r1,r2,r3)) :
  Calls Try.prog 119 #[.pointer (some ⟨g,0,none⟩)] w fun e w'=>e = .returned (.string r1) ∧ IsS140 w0 w' g s0_0 r2 r3 ∧ Below w0.heap.size w0 w' ∧ KeepBut w w' g none:=by
 have HI0:=qn.mk hI
 have HK:=qn.mk (KeepBut.refl w g none)
 have HL:=qn.mk hB.size
 clear hI
 have HW0:=qn.mk hB.size
 have HB:=qn.mk hB
 clear hB
 have H : ((spec_l01Pick.f s0_0 s0_1 s0_2 (([(⟨#[97]⟩ : ByteArray),(⟨#[98]⟩ : ByteArray),(⟨#[118,48,48]⟩ : ByteArray),(⟨#[118,48,49]⟩ : ByteArray),(⟨#[101,48,49,48,50]⟩ : ByteArray),(⟨#[114,48,48,48,48]⟩ : ByteArray),(⟨#[113,48,48]⟩ : ByteArray),(⟨#[122,122]⟩ : ByteArray),(⟨#[107,49]⟩ : ByteArray),(⟨#[107,50]⟩ : ByteArray)] : List ByteArray))).bind fun bt256=>(some (bt256.1,bt256.2.1,bt256.2.2))) = some (r1,r2,r3):=h
 clear h
 obtain ⟨y253,hy253⟩ : ∃ y_ : List ByteArray,y_ = (([(⟨#[97]⟩ : ByteArray),(⟨#[98]⟩ : ByteArray),(⟨#[118,48,48]⟩ : ByteArray),(⟨#[118,48,49]⟩ : ByteArray),(⟨#[101,48,49,48,50]⟩ : ByteArray),(⟨#[114,48,48,48,48]⟩ : ByteArray),(⟨#[113,48,48]⟩ : ByteArray),(⟨#[122,122]⟩ : ByteArray),(⟨#[107,49]⟩ : ByteArray),(⟨#[107,50]⟩ : ByteArray)] : List ByteArray)):=⟨_,rfl⟩
 replace H : ((spec_l01Pick.f s0_0 s0_1 s0_2 y253).bind fun bt256=>(some (bt256.1,bt256.2.1,bt256.2.2))) = some (r1,r2,r3):=by first|(rw [hy253];with_reducible exact H)|(have H2_:=(Option.bind_some _ _).symm.trans H;rw [hy253];with_reducible exact H2_)|(have H2_:=(Option.bind_some _ _).symm.trans H;with_reducible exact H2_)|with_reducible exact H|(rw [hy253];exact H)|exact H
 have Ny253:=qn.mk hy253
 clear hy253
 replace H:=Option.bind_eq_some_iff.mp H
 obtain ⟨⟨t256,t257,t258⟩,A20,H⟩:=H
 replace H : (some (t256,t257,t258)) = some (r1,r2,r3):=H
 have A2:=qn.mk A20
 clear A20
 simp only [Option.some.injEq,Prod.mk.injEq] at H
 obtain ⟨rfl,rfl,rfl⟩:=H
 go_enter Try.func119,Try.ntmps119
 go_wp2_with (first|((with_reducible refine gate_dst (N:=4) rfl ?_);refine Kd.R_lit Kd.string _ 9 ?hg (N:=4) ?hd (xs:=([(⟨#[97]⟩ : ByteArray),(⟨#[98]⟩ : ByteArray),(⟨#[118,48,48]⟩ : ByteArray),(⟨#[118,48,49]⟩ : ByteArray),(⟨#[101,48,49,48,50]⟩ : ByteArray),(⟨#[114,48,48,48,48]⟩ : ByteArray),(⟨#[113,48,48]⟩ : ByteArray),(⟨#[122,122]⟩ : ByteArray),(⟨#[107,49]⟩ : ByteArray),(⟨#[107,50]⟩ : ByteArray)] : List ByteArray)) (inner:=[.string (⟨#[97]⟩ : ByteArray),.string (⟨#[98]⟩ : ByteArray),.string (⟨#[118,48,48]⟩ : ByteArray),.string (⟨#[118,48,49]⟩ : ByteArray),.string (⟨#[101,48,49,48,50]⟩ : ByteArray),.string (⟨#[114,48,48,48,48]⟩ : ByteArray),.string (⟨#[113,48,48]⟩ : ByteArray),.string (⟨#[122,122]⟩ : ByteArray),.string (⟨#[107,49]⟩ : ByteArray),.string (⟨#[107,50]⟩ : ByteArray)]) (ok:=fun _=>True) (okp:=fun _=>True) ?hr ?hp (fun _ hk=>hk) trivial (Below.refl _ _) (Nat.le_refl _) (by simp) ?_;(case hd=>rfl);(case hg=>rfl);(case hr=>first|(go_simp;done)|(go_simp;rfl));(case hp=>exact (Reps.one (show Kd.M Kd.string _ _ _ (⟨#[97]⟩ : ByteArray) [.string (⟨#[97]⟩ : ByteArray)] from rfl) (Reps.one (show Kd.M Kd.string _ _ _ (⟨#[98]⟩ : ByteArray) [.string (⟨#[98]⟩ : ByteArray)] from rfl) (Reps.one (show Kd.M Kd.string _ _ _ (⟨#[118,48,48]⟩ : ByteArray) [.string (⟨#[118,48,48]⟩ : ByteArray)] from rfl) (Reps.one (show Kd.M Kd.string _ _ _ (⟨#[118,48,49]⟩ : ByteArray) [.string (⟨#[118,48,49]⟩ : ByteArray)] from rfl) (Reps.one (show Kd.M Kd.string _ _ _ (⟨#[101,48,49,48,50]⟩ : ByteArray) [.string (⟨#[101,48,49,48,50]⟩ : ByteArray)] from rfl) (Reps.one (show Kd.M Kd.string _ _ _ (⟨#[114,48,48,48,48]⟩ : ByteArray) [.string (⟨#[114,48,48,48,48]⟩ : ByteArray)] from rfl) (Reps.one (show Kd.M Kd.string _ _ _ (⟨#[113,48,48]⟩ : ByteArray) [.string (⟨#[113,48,48]⟩ : ByteArray)] from rfl) (Reps.one (show Kd.M Kd.string _ _ _ (⟨#[122,122]⟩ : ByteArray) [.string (⟨#[122,122]⟩ : ByteArray)] from rfl) (Reps.one (show Kd.M Kd.string _ _ _ (⟨#[107,49]⟩ : ByteArray) [.string (⟨#[107,49]⟩ : ByteArray)] from rfl) (Reps.one (show Kd.M Kd.string _ _ _ (⟨#[107,50]⟩ : ByteArray) [.string (⟨#[107,50]⟩ : ByteArray)] from rfl) (Reps.none _ _))))))))))));intro v254 w3 ho4 hb hg_ hnew_;clear hg_ hnew_;(first|rw [← Ny253.out] at ho4|(simp only [Int.reduceToNat] at ho4;rw [← Ny253.out] at ho4));have n0_:=qn.mk (Kd.R_lower ho4 (keep_size (w:=w) (g:=g) (row:=none) (by repeat (first|(with_reducible first|exact HK.out|apply KeepBut.set_|apply keep_drewN|apply keep_drew|apply keep_alloc)|exact HK.out))));have n1_:=qn.mk (IsS140.below (by repeat (first|(with_reducible first|exact HI0.out|apply IsS140.alloc|apply IsS140.drewN|apply IsS140.drew|apply IsS140.set_1|apply IsS140.set_2)|exact HI0.out)) hb);have n2_:=qn.mk (KeepBut.trans (by repeat (first|(with_reducible first|exact HK.out|apply KeepBut.set_|apply keep_drewN|apply keep_drew|apply keep_alloc)|exact HK.out)) (KeepBut.of_below hb g none) (.inl rfl));have n3_:=qn.mk (qm (by repeat (first|(with_reducible first|exact HB.out|apply qf|apply qa|apply qd|refine qg ?_ (IsS140.ge HI0.out))|exact HB.out)) hb);clear HI0;clear HK;clear HB;have HO255:=n0_;have HI0:=n1_;have HK:=n2_;have HB:=n3_;clear n0_ n1_ n2_ n3_;clear hb ho4;obtain ⟨Ao5,co5,eo5⟩:=Kd.R_slice HO255.out;subst eo5)|((with_reducible refine gate_callee (f:=111) rfl ?_);refine goesL_ (some 5) rfl rfl Try.func111 (by kernel_rfl) rfl #[.pointer (some ⟨g,0,none⟩),.slice Ao5 y253.length co5] rfl (by (try simp only [List.map_toArray,List.map_cons,List.map_nil]);first|done|rfl|(simp only [List.length_drop,List.length_take];rfl)) ?_;(with_reducible refine (spec_l01Pick.calls g s0_0 s0_1 s0_2 _ _ y253 t256 t257 t258 w0 _ ?side1 ?side2 ?side3 ?side4 ?side5 A2.out).mono ?_);(case side1=>repeat (first|(with_reducible first|exact HI0.out|apply IsS140.alloc|apply IsS140.drewN|apply IsS140.drew|apply IsS140.set_1|apply IsS140.set_2)|exact HI0.out));(case side2=>repeat (first|(with_reducible first|exact HB.out|apply qf|apply qa|apply qd|refine qg ?_ (IsS140.ge HI0.out))|exact HB.out));(case side3=>repeat (first|exact (Kd.R_reads' HO255.out).2.2|(with_reducible refine Kd.C_alloc ?_ _)|(with_reducible refine Kd.C_drewN ?_ _)|(with_reducible refine Kd.C_drew ?_)));(case side4=>exact (Kd.R_reads' HO255.out).2.1);(case side5=>exact far_slice (IsS140.own_ne HI0.out HO255.out (by decide)));rintro e w6 ⟨rfl,hi,hb,hk⟩;refine ⟨_,rfl,?_⟩;have n0_:=qn.mk (Kd.R_mono (Kd.R_keep (IsS140.apart (show IsS140 w0 _ g s0_0 s0_1 s0_2 from by repeat (first|(with_reducible first|exact HI0.out|apply IsS140.alloc|apply IsS140.drewN|apply IsS140.drew|apply IsS140.set_1|apply IsS140.set_2)|exact HI0.out)) (by (with_reducible repeat (first|apply Kd.R_alloc|apply Kd.R_drewN|apply Kd.R_drew));exact HO255.out) (by decide)) hk (fun _ h=>h.2)) (fun _ h=>h.1));have n1_:=qn.mk (KeepBut.trans (by repeat (first|(with_reducible first|exact HK.out|apply KeepBut.set_|apply keep_drewN|apply keep_drew|apply keep_alloc)|exact HK.out)) hk (.inl rfl));have n2_:=qn.mk (hb);have n3_:=qn.mk (hi);clear HO255;clear HK;clear HB;clear HI0;have HO255:=n0_;have HK:=n1_;have HB:=n2_;have HI0:=n3_;clear n0_ n1_ n2_ n3_;(try clear hb);(try clear hb2);(try clear hk);(try clear hi)))
 go_ret
 exact ⟨by first|rfl|(simp [errW_none,errW_some] <;> rfl)|(simp [*,errW_none,errW_some] <;> rfl),by repeat (first|(with_reducible first|exact HI0.out|apply IsS140.alloc|apply IsS140.drewN|apply IsS140.drew|apply IsS140.set_1|apply IsS140.set_2)|exact HI0.out),by repeat (first|(with_reducible first|exact HB.out|apply qf|apply qa|apply qd|refine qg ?_ (IsS140.ge HI0.out))|exact HB.out),by repeat (first|(with_reducible first|exact HK.out|apply KeepBut.set_|apply keep_drewN|apply keep_drew|apply keep_alloc)|exact HK.out)⟩

end Go.Proofs.Ytfmemcffbfahhaa.QFnPages
