/- Lean functions for the Go functions that the law FnExactReadPage reaches, and that each Go function comes to just its Lean function's answer; by a program of this session. -/
import Derived.Test.YtfmemcffbfahhaaZFnExactReadPagex0
import Derived.Test.YtfmemcffbfahhaaZFnExactReadPagex6
import Derived.Test.YtfmemcffbfahhaaZFnExactReadPagex7
import Derived.Test.YtfmemcffbfahhaaZFnExactReadPagex8
namespace Go.Proofs.Ytfmemcffbfahhaa.QFnExactReadPage
open Go.RowKit Go.Proofs.YtfmemcffbfahhaaW.PrintWords Go.Proofs.YtfmemcffbfahhaaW.PrintLast Go.Proofs.YtfmemcffbfahhaaW.PrintMore
attribute [local go_sem] max2_int min2_int max_two min_two max_three min_three max_four min_four   -- for this text's walks alone
set_option linter.unusedVariables false
set_option linter.unusedSimpArgs false

/-! ### impl_ReadPage: function 26 -/
mutual
def impl_ReadPage.l0 : Nat → ByteArray → Int → ByteArray → Int → Bool → Int → List (S61) → Option (Int × (List (S61)) × Bool)
  | 0,_,_,_,_,_,_,_=>none
  | k + 1,x0,x8,x244000,x244001,x244002,x245000,x245001=>if x8 > 0 then (impl_ReadPage.j1 k x0 x8 (!x244002) x244000 x244001 x244002 x245000 x245001) else (impl_ReadPage.j1 k x0 x8 false x244000 x244001 x244002 x245000 x245001)
def impl_ReadPage.j1 : Nat → ByteArray → Int → Bool → ByteArray → Int → Bool → Int → List (S61) → Option (Int × (List (S61)) × Bool)
  | 0,_,_,_,_,_,_,_,_=>none
  | k + 1,x0,x8,x36,x244000,x244001,x244002,x245000,x245001=>if x36 = true then ((impl_reader_short.f k x244000 x244001 x244002).bind fun bt253=>(if x245000 = 2 then ((impl_reader_num.f k bt253.2.1 bt253.2.2.1 bt253.2.2.2).bind fun bt258=>(if x245001.length < 3518437208883 then (impl_ReadPage.l0 k x0 (wrap64 (x8 - 1)) bt258.2.1 bt258.2.2.1 bt258.2.2.2 x245000 (x245001 ++ [(⟨bt253.1,(⟨#[]⟩ : ByteArray),bt258.1⟩ : S61)])) else (none))) else ((impl_reader_short.f k bt253.2.1 bt253.2.2.1 bt253.2.2.2).bind fun bt265=>(if x245001.length < 3518437208883 then (impl_ReadPage.l0 k x0 (wrap64 (x8 - 1)) bt265.2.1 bt265.2.2.1 bt265.2.2.2 x245000 (x245001 ++ [(⟨bt253.1,bt265.1,0⟩ : S61)])) else (none))))) else ((impl_PageText.f k x245000 x245001).bind fun bt272=>((impl_reader_ends.f x244000 x244001 x244002).bind fun bt274=>(if bt274.1 = true then (if bt272.2 = true then (if bt272.1.toList = x0.toList then (some (x245000,x245001,true)) else (some (0,([] : List (S61)),false))) else (some (0,([] : List (S61)),false))) else (some (0,([] : List (S61)),false)))))
end
def impl_ReadPage.f (k : Nat) (a0 : ByteArray) : Option (Int × (List (S61)) × Bool):=(impl_Unsealed.f k a0).bind fun bt238=>(if bt238.2 = true then ((impl_newReader.f bt238.1).bind fun bt240=>((impl_reader_one.f bt240.1 bt240.2.1 bt240.2.2).bind fun bt245=>((impl_reader_num.f k bt245.2.1 bt245.2.2.1 bt245.2.2.2).bind fun bt249=>(impl_ReadPage.l0 k a0 bt249.1 bt249.2.1 bt249.2.2.1 bt249.2.2.2 bt245.1 ([] : List (S61)))))) else (some (0,([] : List (S61)),false)))
theorem impl_ReadPage.mono_l : ∀ k,(∀ y0 y1 y2 y3 y4 y5 y6,LeO (impl_ReadPage.l0 k y0 y1 y2 y3 y4 y5 y6) (impl_ReadPage.l0 (k + 1) y0 y1 y2 y3 y4 y5 y6)) ∧ (∀ y0 y1 y2 y3 y4 y5 y6 y7,LeO (impl_ReadPage.j1 k y0 y1 y2 y3 y4 y5 y6 y7) (impl_ReadPage.j1 (k + 1) y0 y1 y2 y3 y4 y5 y6 y7))
  | 0=>⟨fun _ _ _ _ _ _ _ r h=>by simp [impl_ReadPage.l0] at h,fun _ _ _ _ _ _ _ _ r h=>by simp [impl_ReadPage.j1] at h⟩
  | k + 1=>by
    obtain ⟨ih0,ih1⟩:=impl_ReadPage.mono_l k
    refine ⟨?_,?_⟩
    · intro y0 y1 y2 y3 y4 y5 y6
      unfold impl_ReadPage.l0
      repeat' first
      | (with_reducible exact ih0 _ _ _ _ _ _ _)
      | (with_reducible exact ih1 _ _ _ _ _ _ _ _)
      | (with_reducible exact impl_PageText.mono _ _ _)
      | (with_reducible exact impl_Unsealed.mono _ _)
      | (with_reducible exact impl_reader_num.mono _ _ _ _)
      | (with_reducible exact impl_reader_short.mono _ _ _ _)
      | (with_reducible exact LeO.refl _)
      | (with_reducible exact LeO.none _)
      | (with_reducible refine LeO.ite ?_ ?_)
      | (with_reducible refine LeO.bind ?_ (fun _=>?_))
      | exact ih0 _ _ _ _ _ _ _
      | exact ih1 _ _ _ _ _ _ _ _
      | exact impl_PageText.mono _ _ _
      | exact impl_Unsealed.mono _ _
      | exact impl_reader_num.mono _ _ _ _
      | exact impl_reader_short.mono _ _ _ _
      | exact LeO.none _
      | refine LeO.ite ?_ ?_
      | refine LeO.bind ?_ (fun _=>?_)
    · intro y0 y1 y2 y3 y4 y5 y6 y7
      unfold impl_ReadPage.j1
      repeat' first
      | (with_reducible exact ih0 _ _ _ _ _ _ _)
      | (with_reducible exact ih1 _ _ _ _ _ _ _ _)
      | (with_reducible exact impl_PageText.mono _ _ _)
      | (with_reducible exact impl_Unsealed.mono _ _)
      | (with_reducible exact impl_reader_num.mono _ _ _ _)
      | (with_reducible exact impl_reader_short.mono _ _ _ _)
      | (with_reducible exact LeO.refl _)
      | (with_reducible exact LeO.none _)
      | (with_reducible refine LeO.ite ?_ ?_)
      | (with_reducible refine LeO.bind ?_ (fun _=>?_))
      | exact ih0 _ _ _ _ _ _ _
      | exact ih1 _ _ _ _ _ _ _ _
      | exact impl_PageText.mono _ _ _
      | exact impl_Unsealed.mono _ _
      | exact impl_reader_num.mono _ _ _ _
      | exact impl_reader_short.mono _ _ _ _
      | exact LeO.none _
      | refine LeO.ite ?_ ?_
      | refine LeO.bind ?_ (fun _=>?_)
theorem impl_ReadPage.mono : ∀ a0 k,LeO (impl_ReadPage.f k a0) (impl_ReadPage.f (k + 1) a0):=by
  intro a0 k
  obtain ⟨ih0,ih1⟩:=impl_ReadPage.mono_l k
  unfold impl_ReadPage.f
  repeat' first
      | (with_reducible exact ih0 _ _ _ _ _ _ _)
      | (with_reducible exact ih1 _ _ _ _ _ _ _ _)
      | (with_reducible exact impl_PageText.mono _ _ _)
      | (with_reducible exact impl_Unsealed.mono _ _)
      | (with_reducible exact impl_reader_num.mono _ _ _ _)
      | (with_reducible exact impl_reader_short.mono _ _ _ _)
      | (with_reducible exact LeO.refl _)
      | (with_reducible exact LeO.none _)
      | (with_reducible refine LeO.ite ?_ ?_)
      | (with_reducible refine LeO.bind ?_ (fun _=>?_))
      | exact ih0 _ _ _ _ _ _ _
      | exact ih1 _ _ _ _ _ _ _ _
      | exact impl_PageText.mono _ _ _
      | exact impl_Unsealed.mono _ _
      | exact impl_reader_num.mono _ _ _ _
      | exact impl_reader_short.mono _ _ _ _
      | exact LeO.none _
      | refine LeO.ite ?_ ?_
      | refine LeO.bind ?_ (fun _=>?_)
set_option maxHeartbeats 8000000 in
set_option maxRecDepth 100000 in
theorem impl_ReadPage.calls (k : Nat) (a0 : ByteArray) (r1 : Int) (r2 : List (S61)) (r3 : Bool) (w : World) (h : impl_ReadPage.f k a0 = some (r1,r2,r3)) :
    Calls Try.prog 26 #[.string a0] w fun e w'=>∃ v1_ : Value,e = .returned (.tuple #[.agg #[.int .i64 r1,v1_],.bool r3]) ∧ Kd.R k61 61 w' w.heap.size (fun _=>True) v1_ r2 ∧ Below w.heap.size w w':=by
  have hu50:=Try.underlying50
  have hu61:=Try.underlying61
  have HB:=qn.mk (Below.refl w.heap.size w)
  have H : ((impl_Unsealed.f k a0).bind fun bt238=>(if bt238.2 = true then ((impl_newReader.f bt238.1).bind fun bt240=>((impl_reader_one.f bt240.1 bt240.2.1 bt240.2.2).bind fun bt245=>((impl_reader_num.f k bt245.2.1 bt245.2.2.1 bt245.2.2.2).bind fun bt249=>(impl_ReadPage.l0 k a0 bt249.1 bt249.2.1 bt249.2.2.1 bt249.2.2.2 bt245.1 ([] : List (S61)))))) else (some (0,([] : List (S61)),false)))) = some (r1,r2,r3):=h
  clear h
  replace H:=Option.bind_eq_some_iff.mp H
  obtain ⟨⟨t238,t239⟩,A20,H⟩:=H
  replace H : (if t239 = true then ((impl_newReader.f t238).bind fun bt240=>((impl_reader_one.f bt240.1 bt240.2.1 bt240.2.2).bind fun bt245=>((impl_reader_num.f k bt245.2.1 bt245.2.2.1 bt245.2.2.2).bind fun bt249=>(impl_ReadPage.l0 k a0 bt249.1 bt249.2.1 bt249.2.2.1 bt249.2.2.2 bt245.1 ([] : List (S61)))))) else (some (0,([] : List (S61)),false))) = some (r1,r2,r3):=H
  have A2:=qn.mk A20
  clear A20
  by_cases c3 : t239 = true
  · subst c3
    have H1 : ((impl_newReader.f t238).bind fun bt240=>((impl_reader_one.f bt240.1 bt240.2.1 bt240.2.2).bind fun bt245=>((impl_reader_num.f k bt245.2.1 bt245.2.2.1 bt245.2.2.2).bind fun bt249=>(impl_ReadPage.l0 k a0 bt249.1 bt249.2.1 bt249.2.2.1 bt249.2.2.2 bt245.1 ([] : List (S61)))))) = some (r1,r2,r3):=by rw [if_pos rfl] at H;exact H
    clear H
    have H:=H1
    clear H1
    replace H:=Option.bind_eq_some_iff.mp H
    obtain ⟨⟨t240,t241,t242⟩,A40,H⟩:=H
    replace H : ((impl_reader_one.f t240 t241 t242).bind fun bt245=>((impl_reader_num.f k bt245.2.1 bt245.2.2.1 bt245.2.2.2).bind fun bt249=>(impl_ReadPage.l0 k a0 bt249.1 bt249.2.1 bt249.2.2.1 bt249.2.2.2 bt245.1 ([] : List (S61))))) = some (r1,r2,r3):=H
    have A4:=qn.mk A40
    clear A40
    replace H:=Option.bind_eq_some_iff.mp H
    obtain ⟨⟨t245,t246,t247,t248⟩,A50,H⟩:=H
    replace H : ((impl_reader_num.f k t246 t247 t248).bind fun bt249=>(impl_ReadPage.l0 k a0 bt249.1 bt249.2.1 bt249.2.2.1 bt249.2.2.2 t245 ([] : List (S61)))) = some (r1,r2,r3):=H
    have A5:=qn.mk A50
    clear A50
    replace H:=Option.bind_eq_some_iff.mp H
    obtain ⟨⟨t249,t250,t251,t252⟩,A60,H⟩:=H
    replace H : (impl_ReadPage.l0 k a0 t249 t250 t251 t252 t245 ([] : List (S61))) = some (r1,r2,r3):=H
    have A6:=qn.mk A60
    clear A60
    have H':=qn.mk H
    clear H
    go_enter Try.func26,Try.ntmps26
    go_wp2_with (first|((with_reducible refine gate_dst (N:=2) rfl ?_);refine box_event ?hg (N:=2) ?hd (cs:=#[.int .i64 0,.slice none 0 0]) (t:=50) ?hr ?_;(case hd=>rfl);(case hg=>rfl);(case hr=>first|(go_simp;done)|(go_simp;rfl));intro gb237 hg w7 hbox hb;have n0_:=hs_ HB hb;have n1_:=qn.mk (hbox);have n2_:=qn.mk ((by rw [hg];exact (qj (by repeat (first|(with_reducible first|exact HB.out|apply qf|apply qa|apply qd)|exact HB.out))) : w.heap.size ≤ gb237));have n3_:=qn.mk ((by rw [hg];exact (qj (by repeat (first|(with_reducible first|exact HB.out|apply qf|apply qa|apply qd)|exact HB.out))) : w.heap.size ≤ gb237));clear HB;have HB:=n0_;have BK237:=n1_;have GW237:=n2_;have GE237:=n3_;clear n0_ n1_ n2_ n3_;clear hb hbox hg)|((with_reducible refine gate_callee (f:=48) rfl ?_);refine goesL_ (some 14) rfl rfl Try.func48 (by kernel_rfl) rfl #[.string a0] rfl (by (try simp only [List.map_toArray,List.map_cons,List.map_nil]);first|done|rfl|(simp only [List.length_drop,List.length_take];rfl)) ?_;(with_reducible refine (impl_Unsealed.calls k a0 t238 true _ A2.out).mono ?_);rintro e w8 ⟨rfl,hb⟩;refine ⟨_,rfl,?_⟩;have n0_:=bb_ BK237 hb;have n1_:=hs_ HB hb;clear BK237;clear HB;have BK237:=n0_;have HB:=n1_;clear n0_ n1_;(try clear hb);(try clear hb2);(try clear hk);(try clear hi))|((with_reducible refine gate_dst (N:=22) rfl ?_);refine box_event ?hg (N:=22) ?hd (cs:=#[.string t238,.int .i64 0,.bool false]) (t:=107) ?hr ?_;(case hd=>rfl);(case hg=>rfl);(case hr=>first|(go_simp;done)|(go_simp;rfl));intro g243 hg w9 hbox hb2;have hge : w.heap.size ≤ g243:=(by rw [hg];exact (qj (by repeat (first|(with_reducible first|exact HB.out|apply qf|apply qa|apply qd|refine qg ?_ GE237.out)|exact HB.out))));have hi : IsS107 w w9 g243 t240 t241 t242:=(by have h_:=A4.out;simp only [impl_newReader.f,Option.some.injEq,Prod.mk.injEq] at h_;obtain ⟨rfl,rfl,rfl⟩:=h_;exact ⟨hbox,hge⟩);have hb : Below w.heap.size w w9:=qm (by repeat (first|(with_reducible first|exact HB.out|apply qf|apply qa|apply qd|refine qg ?_ GE237.out)|exact HB.out)) hb2;clear hbox hg hge;have n0_:=qn.mk (ql (g:=gb237) (o:=.cells #[.int .i64 0,.slice none 0 0] 50 (0,0)) (by (with_reducible repeat (first|refine qb ?_ _|refine qe ?_|refine qc ?_ _));exact BK237.out) hb2);have n1_:=qn.mk (hb);have n2_:=qn.mk (hi);have n3_:=qn.mk (IsS107.ne_blk hi (ql (g:=gb237) (o:=.cells #[.int .i64 0,.slice none 0 0] 50 (0,0)) (by (with_reducible repeat (first|refine qb ?_ _|refine qe ?_|refine qc ?_ _));exact BK237.out) hb2) (by decide));have n4_:=qn.mk (Ne.symm (IsS107.ne_blk hi (ql (g:=gb237) (o:=.cells #[.int .i64 0,.slice none 0 0] 50 (0,0)) (by (with_reducible repeat (first|refine qb ?_ _|refine qe ?_|refine qc ?_ _));exact BK237.out) hb2) (by decide)));clear BK237;clear HB;have BK237:=n0_;have HB:=n1_;have HI243:=n2_;have NB243_237:=n3_;have NB237_243:=n4_;clear n0_ n1_ n2_ n3_ n4_;(try clear hb);(try clear hb2);(try clear hk);(try clear hi))|((with_reducible refine gate_dst (N:=7) rfl ?_);refine box_event ?hg (N:=7) ?hd (cs:=#[.int .i64 0,.slice none 0 0]) (t:=50) ?hr ?_;(case hd=>rfl);(case hg=>rfl);(case hr=>first|(go_simp;done)|(go_simp;rfl));intro gb244 hg w10 hbox hb;have n0_:=bb_ BK237 hb;have n1_:=qn.mk (IsS107.below (by repeat (first|(with_reducible first|exact HI243.out|apply IsS107.alloc|apply IsS107.drewN|apply IsS107.drew|apply IsS107.set_0|apply IsS107.set_1|apply IsS107.set_2|refine IsS107.far ?_ NB243_237.out _)|exact HI243.out)) hb);have n2_:=qn.mk (qm (by repeat (first|(with_reducible first|exact HB.out|apply qf|apply qa|apply qd|refine qg ?_ (IsS107.ge HI243.out)|refine qg ?_ GE237.out)|exact HB.out)) hb);have n3_:=qn.mk (hbox);have n4_:=qn.mk ((by rw [hg];exact (qj (by repeat (first|(with_reducible first|exact HB.out|apply qf|apply qa|apply qd|refine qg ?_ (IsS107.ge HI243.out)|refine qg ?_ GE237.out)|exact HB.out))) : w.heap.size ≤ gb244));have n5_:=qn.mk ((by rw [hg];exact (qj (by repeat (first|(with_reducible first|exact HB.out|apply qf|apply qa|apply qd|refine qg ?_ (IsS107.ge HI243.out)|refine qg ?_ GE237.out)|exact HB.out))) : w.heap.size ≤ gb244));have n6_:=qn.mk ((by rw [hg];exact nl_ BK237 : gb237 ≠ gb244));have n7_:=qn.mk ((by rw [hg];exact ng_ BK237 : gb244 ≠ gb237));have n8_:=qn.mk ((by rw [hg];exact Nat.ne_of_lt (IsS107.lt (show IsS107 w _ g243 t240 t241 t242 from by repeat (first|(with_reducible first|exact HI243.out|apply IsS107.alloc|apply IsS107.drewN|apply IsS107.drew|apply IsS107.set_0|apply IsS107.set_1|apply IsS107.set_2|refine IsS107.far ?_ NB243_237.out _)|exact HI243.out))) : g243 ≠ gb244));have n9_:=qn.mk ((by rw [hg];exact Nat.ne_of_gt (IsS107.lt (show IsS107 w _ g243 t240 t241 t242 from by repeat (first|(with_reducible first|exact HI243.out|apply IsS107.alloc|apply IsS107.drewN|apply IsS107.drew|apply IsS107.set_0|apply IsS107.set_1|apply IsS107.set_2|refine IsS107.far ?_ NB243_237.out _)|exact HI243.out))) : gb244 ≠ g243));clear BK237;clear HI243;clear HB;have BK237:=n0_;have HI243:=n1_;have HB:=n2_;have BK244:=n3_;have GW244:=n4_;have GE244:=n5_;have NB237_244:=n6_;have NB244_237:=n7_;have NB243_244:=n8_;have NB244_243:=n9_;clear n0_ n1_ n2_ n3_ n4_ n5_ n6_ n7_ n8_ n9_;clear hb hbox hg)|((with_reducible refine gate_callee (f:=68) rfl ?_);refine goesL_ (some 24) rfl rfl Try.func68 (by kernel_rfl) rfl #[.pointer (some ⟨g243,0,none⟩)] rfl (by (try simp only [List.map_toArray,List.map_cons,List.map_nil]);first|done|rfl|(simp only [List.length_drop,List.length_take];rfl)) ?_;(with_reducible refine (impl_reader_one.calls g243 t240 t241 t242 t245 t246 t247 t248 w _ ?side1 ?side2 A5.out).mono ?_);(case side1=>repeat (first|(with_reducible first|exact HI243.out|apply IsS107.alloc|apply IsS107.drewN|apply IsS107.drew|apply IsS107.set_0|apply IsS107.set_1|apply IsS107.set_2|refine IsS107.far ?_ NB243_237.out _|refine IsS107.far ?_ NB243_244.out _)|exact HI243.out));(case side2=>repeat (first|(with_reducible first|exact HB.out|apply qf|apply qa|apply qd|refine qg ?_ (IsS107.ge HI243.out)|refine qg ?_ GE237.out|refine qg ?_ GE244.out)|exact HB.out));rintro e w11 ⟨rfl,hi,hb,hk⟩;refine ⟨_,rfl,?_⟩;have n0_:=qn.mk (KeepBut.blk hk (g':=gb237) (o:=.cells #[.int .i64 0,.slice none 0 0] 50 (0,0)) (by (with_reducible repeat (first|refine qb ?_ _|refine qe ?_|refine qc ?_ _));exact BK237.out) NB237_243.out (by simp));have n1_:=qn.mk (KeepBut.blk hk (g':=gb244) (o:=.cells #[.int .i64 0,.slice none 0 0] 50 (0,0)) (by (with_reducible repeat (first|refine qb ?_ _|refine qe ?_|refine qc ?_ _));exact BK244.out) NB244_243.out (by simp));have n2_:=qn.mk (hb);have n3_:=qn.mk (hi);clear BK237;clear BK244;clear HB;clear HI243;have BK237:=n0_;have BK244:=n1_;have HB:=n2_;have HI243:=n3_;clear n0_ n1_ n2_ n3_;(try clear hb);(try clear hb2);(try clear hk);(try clear hi);have hnb12:=NB244_237.out;have hnc12:=NB237_244.out;have hnb13:=NB244_243.out;have hnc13:=NB243_244.out;have hcz14_0 : w11.cell? ⟨gb244,0,none⟩ = some (.int .i64 0):=(qh BK244.out 0).trans rfl;have hcz14_1 : w11.cell? ⟨gb244,1,none⟩ = some (.slice none 0 0):=(qh BK244.out 1).trans rfl;have hfz14_0:=qi BK244.out 0;have hfz14_1:=qi BK244.out 1)|((with_reducible refine gate_callee (f:=69) rfl ?_);refine goesL_ (some 27) rfl rfl Try.func69 (by kernel_rfl) rfl #[.pointer (some ⟨g243,0,none⟩)] rfl (by (try simp only [List.map_toArray,List.map_cons,List.map_nil]);first|done|rfl|(simp only [List.length_drop,List.length_take];rfl)) ?_;(with_reducible refine (impl_reader_num.calls k g243 t246 t247 t248 t249 t250 t251 t252 w _ ?side1 ?side2 A6.out).mono ?_);(case side1=>repeat (first|(with_reducible first|exact HI243.out|apply IsS107.alloc|apply IsS107.drewN|apply IsS107.drew|apply IsS107.set_0|apply IsS107.set_1|apply IsS107.set_2|refine IsS107.far ?_ NB243_237.out _|refine IsS107.far ?_ NB243_244.out _)|exact HI243.out));(case side2=>repeat (first|(with_reducible first|exact HB.out|apply qf|apply qa|apply qd|refine qg ?_ (IsS107.ge HI243.out)|refine qg ?_ GE237.out|refine qg ?_ GE244.out)|exact HB.out));rintro e w15 ⟨rfl,hi,hb,hk⟩;refine ⟨_,rfl,?_⟩;have n0_:=qn.mk (KeepBut.blk hk (g':=gb237) (o:=.cells #[.int .i64 0,.slice none 0 0] 50 (0,0)) (by (with_reducible repeat (first|refine qb ?_ _|refine qe ?_|refine qc ?_ _));refine blk_far ?_ NB237_244.out _;(with_reducible repeat (first|refine qb ?_ _|refine qe ?_|refine qc ?_ _));exact BK237.out) NB237_243.out (by simp));have n1_:=qn.mk (KeepBut.blk hk (g':=gb244) (o:=.cells #[.int .i64 t245,.slice none 0 0] 50 (0,0)) (by (with_reducible repeat (first|refine qb ?_ _|refine qe ?_|refine qc ?_ _));refine blk_put (cs:=#[.int .i64 0,.slice none 0 0]) ?_ 0 _ rfl;(with_reducible repeat (first|refine qb ?_ _|refine qe ?_|refine qc ?_ _));exact BK244.out) NB244_243.out (by simp));have n2_:=qn.mk (hb);have n3_:=qn.mk (hi);clear BK237;clear BK244;clear HB;clear HI243;have BK237:=n0_;have BK244:=n1_;have HB:=n2_;have HI243:=n3_;clear n0_ n1_ n2_ n3_;(try clear hb);(try clear hb2);(try clear hk);(try clear hi)))
    go_loopg [8] k (fun kq v8 w'=>∃ (x8_1 : Int) (x244000_1 : ByteArray) (x244001_1 : Int) (x244002_1 : Bool) (x245001_1 : List (S61)) (u245001 : Value),v8 = .int .i64 x8_1 ∧ qn (impl_ReadPage.l0 kq a0 x8_1 x244000_1 x244001_1 x244002_1 t245 x245001_1 = some (r1,r2,r3)) ∧ qn (kq ≤ k) ∧ qn (Kd.R k61 61 w' w.heap.size (fun _=>True) u245001 x245001_1) ∧ qn (w'.heap[gb237]? = some (.cells #[.int .i64 0,(.slice none 0 0)] 50 (0,0))) ∧ qn (w'.heap[gb244]? = some (.cells #[.int .i64 t245,u245001] 50 (0,0))) ∧ qn (IsS107 w w' g243 x244000_1 x244001_1 x244002_1) ∧ qn (Below w.heap.size w w'))
    case atStart=>exact ⟨(t249),(t250),(t251),(t252),(([] : List (S61))),(.slice none 0 0),(by first|rfl|(simp;done)|(simp [*];done)),H',⟨Nat.le_refl _⟩,⟨by first|exact Kd.R_nil _ _ _ _ _|exact Kd.N_nil _ _ _ _ _|exact Kd.V_nil _ _ _ _ _|exact Kd.Q_nil _ _ _ _ _|exact Kd.S_nil _ _ _ _ _⟩,⟨by (with_reducible repeat (first|refine qb ?_ _|refine qe ?_|refine qc ?_ _));exact BK237.out⟩,⟨by (with_reducible repeat (first|refine qb ?_ _|refine qe ?_|refine qc ?_ _));exact BK244.out⟩,⟨by repeat (first|(with_reducible first|exact HI243.out|apply IsS107.alloc|apply IsS107.drewN|apply IsS107.drew|apply IsS107.set_0|apply IsS107.set_1|apply IsS107.set_2|refine IsS107.far ?_ NB243_237.out _|refine IsS107.far ?_ NB243_244.out _)|exact HI243.out)⟩,⟨by repeat (first|(with_reducible first|exact HB.out|apply qf|apply qa|apply qd|refine qg ?_ (IsS107.ge HI243.out)|refine qg ?_ GE237.out|refine qg ?_ GE244.out)|exact HB.out)⟩⟩
    case round =>
      clear H'
      try clear c1
      try clear c2
      try clear p2
      try clear c3
      try clear c4
      try clear c6
      try clear c12
      try clear c13
      try clear hcz14_0
      try clear hcz14_1
      try clear hfz14_0
      try clear hfz14_1
      obtain ⟨x8_1,x244000_1,x244001_1,x244002_1,x245001_1,u245001,rfl,HA,HK1,HO_245001,BK237,BK244,HI243,HB⟩:=hrel
      cases gk with
      | zero=>exact absurd HA.out (by simp [impl_ReadPage.l0])
      | succ k1 =>
        have H:=HA.out
        clear HA
        simp only [impl_ReadPage.l0] at H
        have HC16:=qn.mk H
        clear H
        go_upto_region 8 with (fail)
        go_cut [36] (fun v36 wc=>∃ (kq : Nat) (x36_15 : Bool),v36 = .bool x36_15 ∧ qn (impl_ReadPage.j1 kq a0 x8_1 x36_15 x244000_1 x244001_1 x244002_1 t245 x245001_1 = some (r1,r2,r3)) ∧ qn (kq ≤ k1) ∧ qn (Kd.R k61 61 wc w.heap.size (fun _=>True) u245001 x245001_1) ∧ qn (wc.heap[gb237]? = some (.cells #[.int .i64 0,(.slice none 0 0)] 50 (0,0))) ∧ qn (wc.heap[gb244]? = some (.cells #[.int .i64 t245,u245001] 50 (0,0))) ∧ qn (IsS107 w wc g243 x244000_1 x244001_1 x244002_1) ∧ qn (Below w.heap.size w wc))
        case first =>
          have H:=HC16.out
          clear HC16
          by_cases c17 : x8_1 > 0
          · rw [if_pos c17] at H
            have c17b0 : decide (0 < x8_1) = true:=decide_eq_true c17
            clear c17
            (first|rw [c17b0]|(simp only [i64_w,i32_w];rw [c17b0])|skip)
            have H':=qn.mk H
            clear H
            obtain ⟨HGz18,hgz18⟩:=HI243.out
            have hcz18_0:=cellS107_0 HGz18
            have hcz18_1:=cellS107_1 HGz18
            have hcz18_2:=cellS107_2 HGz18
            have hfz18_0:=qi HGz18 0
            have hfz18_1:=qi HGz18 1
            have hfz18_2:=qi HGz18 2
            clear HGz18 hgz18
            go_wp2
            go_meet
            case rel=>exact ⟨_,(!x244002_1),(by first|rfl|(simp;done)|(simp [*];done)),H',⟨by have:=HK1.out;first|omega|exact Nat.le_refl _⟩,⟨by (with_reducible repeat (first|apply Kd.R_alloc|apply Kd.R_drewN|apply Kd.R_drew));exact HO_245001.out⟩,⟨by (with_reducible repeat (first|refine qb ?_ _|refine qe ?_|refine qc ?_ _));exact BK237.out⟩,⟨by (with_reducible repeat (first|refine qb ?_ _|refine qe ?_|refine qc ?_ _));exact BK244.out⟩,⟨by repeat (first|(with_reducible first|exact HI243.out|apply IsS107.alloc|apply IsS107.drewN|apply IsS107.drew|apply IsS107.set_0|apply IsS107.set_1|apply IsS107.set_2|refine IsS107.far ?_ NB243_237.out _|refine IsS107.far ?_ NB243_244.out _)|exact HI243.out)⟩,⟨by repeat (first|(with_reducible first|exact HB.out|apply qf|apply qa|apply qd|refine qg ?_ (IsS107.ge HI243.out)|refine qg ?_ GE237.out|refine qg ?_ GE244.out)|exact HB.out)⟩⟩
          · rw [if_neg c17] at H
            have c17b0 : decide (0 < x8_1) = false:=decide_eq_false c17
            clear c17
            (first|rw [c17b0]|(simp only [i64_w,i32_w];rw [c17b0])|skip)
            have H':=qn.mk H
            clear H
            go_wp2
            go_meet
            case rel=>exact ⟨_,(false),(by first|rfl|(simp;done)|(simp [*];done)),H',⟨by have:=HK1.out;first|omega|exact Nat.le_refl _⟩,⟨by (with_reducible repeat (first|apply Kd.R_alloc|apply Kd.R_drewN|apply Kd.R_drew));exact HO_245001.out⟩,⟨by (with_reducible repeat (first|refine qb ?_ _|refine qe ?_|refine qc ?_ _));exact BK237.out⟩,⟨by (with_reducible repeat (first|refine qb ?_ _|refine qe ?_|refine qc ?_ _));exact BK244.out⟩,⟨by repeat (first|(with_reducible first|exact HI243.out|apply IsS107.alloc|apply IsS107.drewN|apply IsS107.drew|apply IsS107.set_0|apply IsS107.set_1|apply IsS107.set_2|refine IsS107.far ?_ NB243_237.out _|refine IsS107.far ?_ NB243_244.out _)|exact HI243.out)⟩,⟨by repeat (first|(with_reducible first|exact HB.out|apply qf|apply qa|apply qd|refine qg ?_ (IsS107.ge HI243.out)|refine qg ?_ GE237.out|refine qg ?_ GE244.out)|exact HB.out)⟩⟩
        case rest =>
          clear HC16
          try clear c1
          try clear c2
          try clear p2
          try clear c3
          try clear c4
          try clear c6
          try clear c12
          try clear c13
          try clear c17
          try clear c17b0
          try clear hcz14_0
          try clear hcz14_1
          try clear hcz18_0
          try clear hcz18_1
          try clear hcz18_2
          try clear hfz14_0
          try clear hfz14_1
          try clear hfz18_0
          try clear hfz18_1
          try clear hfz18_2
          try clear p2
          obtain ⟨kq,x36_15,rfl,HA,HJ15,HO_245001,BK237,BK244,HI243,HB⟩:=hcut
          cases kq with
          | zero=>exact absurd HA.out (by simp [impl_ReadPage.j1])
          | succ kj15 =>
            have H:=HA.out
            clear HA
            simp only [impl_ReadPage.j1] at H
            by_cases c19 : x36_15 = true
            · subst c19
              have H1 : ((impl_reader_short.f kj15 x244000_1 x244001_1 x244002_1).bind fun bt253=>(if t245 = 2 then ((impl_reader_num.f kj15 bt253.2.1 bt253.2.2.1 bt253.2.2.2).bind fun bt258=>(if x245001_1.length < 3518437208883 then (impl_ReadPage.l0 kj15 a0 (wrap64 (x8_1 - 1)) bt258.2.1 bt258.2.2.1 bt258.2.2.2 t245 (x245001_1 ++ [(⟨bt253.1,(⟨#[]⟩ : ByteArray),bt258.1⟩ : S61)])) else (none))) else ((impl_reader_short.f kj15 bt253.2.1 bt253.2.2.1 bt253.2.2.2).bind fun bt265=>(if x245001_1.length < 3518437208883 then (impl_ReadPage.l0 kj15 a0 (wrap64 (x8_1 - 1)) bt265.2.1 bt265.2.2.1 bt265.2.2.2 t245 (x245001_1 ++ [(⟨bt253.1,bt265.1,0⟩ : S61)])) else (none))))) = some (r1,r2,r3):=by rw [if_pos rfl] at H;exact H
              clear H
              have H:=H1
              clear H1
              replace H:=Option.bind_eq_some_iff.mp H
              obtain ⟨⟨t253,t254,t255,t256⟩,A200,H⟩:=H
              replace H : (if t245 = 2 then ((impl_reader_num.f kj15 t254 t255 t256).bind fun bt258=>(if x245001_1.length < 3518437208883 then (impl_ReadPage.l0 kj15 a0 (wrap64 (x8_1 - 1)) bt258.2.1 bt258.2.2.1 bt258.2.2.2 t245 (x245001_1 ++ [(⟨t253,(⟨#[]⟩ : ByteArray),bt258.1⟩ : S61)])) else (none))) else ((impl_reader_short.f kj15 t254 t255 t256).bind fun bt265=>(if x245001_1.length < 3518437208883 then (impl_ReadPage.l0 kj15 a0 (wrap64 (x8_1 - 1)) bt265.2.1 bt265.2.2.1 bt265.2.2.2 t245 (x245001_1 ++ [(⟨t253,bt265.1,0⟩ : S61)])) else (none)))) = some (r1,r2,r3):=H
              have A20:=qn.mk A200
              clear A200
              by_cases c21 : t245 = 2
              · rw [if_pos c21] at H
                have c21b0 : (t245 == 2) = true:=beq_iff_eq.mpr c21
                have c21b1 : (t245 != 2) = false:=bne_eq_false_iff_eq.mpr c21
                clear c21
                replace H:=Option.bind_eq_some_iff.mp H
                obtain ⟨⟨t258,t259,t260,t261⟩,A220,H⟩:=H
                replace H : (if x245001_1.length < 3518437208883 then (impl_ReadPage.l0 kj15 a0 (wrap64 (x8_1 - 1)) t259 t260 t261 t245 (x245001_1 ++ [(⟨t253,(⟨#[]⟩ : ByteArray),t258⟩ : S61)])) else (none)) = some (r1,r2,r3):=H
                have A22:=qn.mk A220
                clear A220
                by_cases c23 : x245001_1.length < 3518437208883
                · rw [if_pos c23] at H
                  have LMc23:=qn.mk c23
                  clear c23
                  obtain ⟨y262,hy262⟩ : ∃ y_ : List (S61),y_ = (x245001_1 ++ [(⟨t253,(⟨#[]⟩ : ByteArray),t258⟩ : S61)]):=⟨_,rfl⟩
                  replace H : (impl_ReadPage.l0 kj15 a0 (wrap64 (x8_1 - 1)) t259 t260 t261 t245 y262) = some (r1,r2,r3):=by first|(rw [hy262];with_reducible exact H)|(have H2_:=(Option.bind_some _ _).symm.trans H;rw [hy262];with_reducible exact H2_)|(have H2_:=(Option.bind_some _ _).symm.trans H;with_reducible exact H2_)|with_reducible exact H|(rw [hy262];exact H)|exact H
                  have Ny262:=qn.mk hy262
                  clear hy262
                  have H':=qn.mk H
                  clear H
                  go_wp2_with (first|((with_reducible refine gate_callee (f:=70) rfl ?_);refine goesL_ (some 40) rfl rfl Try.func70 (by kernel_rfl) rfl #[.pointer (some ⟨g243,0,none⟩)] rfl (by (try simp only [List.map_toArray,List.map_cons,List.map_nil]);first|done|rfl|(simp only [List.length_drop,List.length_take];rfl)) ?_;(with_reducible refine (impl_reader_short.calls kj15 g243 x244000_1 x244001_1 x244002_1 t253 t254 t255 t256 w _ ?side1 ?side2 A20.out).mono ?_);(case side1=>repeat (first|(with_reducible first|exact HI243.out|apply IsS107.alloc|apply IsS107.drewN|apply IsS107.drew|apply IsS107.set_0|apply IsS107.set_1|apply IsS107.set_2|refine IsS107.far ?_ NB243_237.out _|refine IsS107.far ?_ NB243_244.out _)|exact HI243.out));(case side2=>repeat (first|(with_reducible first|exact HB.out|apply qf|apply qa|apply qd|refine qg ?_ (IsS107.ge HI243.out)|refine qg ?_ GE237.out|refine qg ?_ GE244.out)|exact HB.out));rintro e w24 ⟨rfl,hi,hb,hk⟩;refine ⟨_,rfl,?_⟩;have n0_:=qn.mk (Kd.R_mono (Kd.R_keep (IsS107.apart (show IsS107 w _ g243 x244000_1 x244001_1 x244002_1 from by repeat (first|(with_reducible first|exact HI243.out|apply IsS107.alloc|apply IsS107.drewN|apply IsS107.drew|apply IsS107.set_0|apply IsS107.set_1|apply IsS107.set_2|refine IsS107.far ?_ NB243_237.out _|refine IsS107.far ?_ NB243_244.out _)|exact HI243.out)) (by (with_reducible repeat (first|apply Kd.R_alloc|apply Kd.R_drewN|apply Kd.R_drew));exact HO_245001.out) (by decide)) hk (fun _ h=>h.2)) (fun _ h=>h.1));have n1_:=qn.mk (KeepBut.blk hk (g':=gb237) (o:=.cells #[.int .i64 0,.slice none 0 0] 50 (0,0)) (by (with_reducible repeat (first|refine qb ?_ _|refine qe ?_|refine qc ?_ _));exact BK237.out) NB237_243.out (by simp));have n2_:=qn.mk (KeepBut.blk hk (g':=gb244) (o:=.cells #[.int .i64 t245,u245001] 50 (0,0)) (by (with_reducible repeat (first|refine qb ?_ _|refine qe ?_|refine qc ?_ _));exact BK244.out) NB244_243.out (by simp));have n3_:=qn.mk (hb);have n4_:=qn.mk (hi);clear HO_245001;clear BK237;clear BK244;clear HB;clear HI243;have HO_245001:=n0_;have BK237:=n1_;have BK244:=n2_;have HB:=n3_;have HI243:=n4_;clear n0_ n1_ n2_ n3_ n4_;(try clear hb);(try clear hb2);(try clear hk);(try clear hi))|((with_reducible refine gate_dst (N:=9) rfl ?_);refine box_event ?hg (N:=9) ?hd (cs:=#[.string (⟨#[]⟩ : ByteArray),.string (⟨#[]⟩ : ByteArray),.int .i64 0]) (t:=61) ?hr ?_;(case hd=>rfl);(case hg=>rfl);(case hr=>first|(go_simp;done)|(go_simp;rfl));intro gb257 hg w25 hbox hb;have n0_:=qn.mk (Kd.R_below (Kd.R_elderB (by (with_reducible repeat (first|apply Kd.R_alloc|apply Kd.R_drewN|apply Kd.R_drew));exact HO_245001.out) gb257 (Nat.le_of_eq hg.symm)) hb);have n1_:=bb_ BK237 hb;have n2_:=bb_ BK244 hb;have n3_:=qn.mk (IsS107.below (by repeat (first|(with_reducible first|exact HI243.out|apply IsS107.alloc|apply IsS107.drewN|apply IsS107.drew|apply IsS107.set_0|apply IsS107.set_1|apply IsS107.set_2|refine IsS107.far ?_ NB243_237.out _|refine IsS107.far ?_ NB243_244.out _)|exact HI243.out)) hb);have n4_:=qn.mk (qm (by repeat (first|(with_reducible first|exact HB.out|apply qf|apply qa|apply qd|refine qg ?_ (IsS107.ge HI243.out)|refine qg ?_ GE237.out|refine qg ?_ GE244.out)|exact HB.out)) hb);have n5_:=qn.mk (hbox);have n6_:=qn.mk ((by rw [hg];exact (qj (by repeat (first|(with_reducible first|exact HB.out|apply qf|apply qa|apply qd|refine qg ?_ (IsS107.ge HI243.out)|refine qg ?_ GE237.out|refine qg ?_ GE244.out)|exact HB.out))) : w.heap.size ≤ gb257));have n7_:=qn.mk ((by rw [hg];exact (qj (by repeat (first|(with_reducible first|exact HB.out|apply qf|apply qa|apply qd|refine qg ?_ (IsS107.ge HI243.out)|refine qg ?_ GE237.out|refine qg ?_ GE244.out)|exact HB.out))) : w.heap.size ≤ gb257));have n8_:=qn.mk ((by rw [hg];exact nl_ BK237 : gb237 ≠ gb257));have n9_:=qn.mk ((by rw [hg];exact ng_ BK237 : gb257 ≠ gb237));have n10_:=qn.mk ((by rw [hg];exact nl_ BK244 : gb244 ≠ gb257));have n11_:=qn.mk ((by rw [hg];exact ng_ BK244 : gb257 ≠ gb244));have n12_:=qn.mk ((by rw [hg];exact Nat.ne_of_lt (IsS107.lt (show IsS107 w _ g243 t254 t255 t256 from by repeat (first|(with_reducible first|exact HI243.out|apply IsS107.alloc|apply IsS107.drewN|apply IsS107.drew|apply IsS107.set_0|apply IsS107.set_1|apply IsS107.set_2|refine IsS107.far ?_ NB243_237.out _|refine IsS107.far ?_ NB243_244.out _)|exact HI243.out))) : g243 ≠ gb257));have n13_:=qn.mk ((by rw [hg];exact Nat.ne_of_gt (IsS107.lt (show IsS107 w _ g243 t254 t255 t256 from by repeat (first|(with_reducible first|exact HI243.out|apply IsS107.alloc|apply IsS107.drewN|apply IsS107.drew|apply IsS107.set_0|apply IsS107.set_1|apply IsS107.set_2|refine IsS107.far ?_ NB243_237.out _|refine IsS107.far ?_ NB243_244.out _)|exact HI243.out))) : gb257 ≠ g243));clear HO_245001;clear BK237;clear BK244;clear HI243;clear HB;have HO_245001:=n0_;have BK237:=n1_;have BK244:=n2_;have HI243:=n3_;have HB:=n4_;have BK257:=n5_;have GW257:=n6_;have GE257:=n7_;have NB237_257:=n8_;have NB257_237:=n9_;have NB244_257:=n10_;have NB257_244:=n11_;have NB243_257:=n12_;have NB257_243:=n13_;clear n0_ n1_ n2_ n3_ n4_ n5_ n6_ n7_ n8_ n9_ n10_ n11_ n12_ n13_;clear hb hbox hg;have hnb26:=NB257_237.out;have hnc26:=NB237_257.out;have hnb27:=NB257_244.out;have hnc27:=NB244_257.out;have hnb28:=NB257_243.out;have hnc28:=NB243_257.out;have hcz29_0 : w25.cell? ⟨gb257,0,none⟩ = some (.string (⟨#[]⟩ : ByteArray)):=(qh BK257.out 0).trans rfl;have hcz29_1 : w25.cell? ⟨gb257,1,none⟩ = some (.string (⟨#[]⟩ : ByteArray)):=(qh BK257.out 1).trans rfl;have hcz29_2 : w25.cell? ⟨gb257,2,none⟩ = some (.int .i64 0):=(qh BK257.out 2).trans rfl;have hfz29_0:=qi BK257.out 0;have hfz29_1:=qi BK257.out 1;have hfz29_2:=qi BK257.out 2;have hnb30:=NB244_237.out;have hnc30:=NB237_244.out;have hnb31:=NB244_243.out;have hnc31:=NB243_244.out;have hcz32_0 : w25.cell? ⟨gb244,0,none⟩ = some (.int .i64 t245):=(qh BK244.out 0).trans rfl;have hcz32_1 : w25.cell? ⟨gb244,1,none⟩ = some (u245001):=(qh BK244.out 1).trans rfl;have hfz32_0:=qi BK244.out 0;have hfz32_1:=qi BK244.out 1)|((with_reducible refine gate_callee (f:=69) rfl ?_);refine goesL_ (some 46) rfl rfl Try.func69 (by kernel_rfl) rfl #[.pointer (some ⟨g243,0,none⟩)] rfl (by (try simp only [List.map_toArray,List.map_cons,List.map_nil]);first|done|rfl|(simp only [List.length_drop,List.length_take];rfl)) ?_;(with_reducible refine (impl_reader_num.calls kj15 g243 t254 t255 t256 t258 t259 t260 t261 w _ ?side1 ?side2 A22.out).mono ?_);(case side1=>repeat (first|(with_reducible first|exact HI243.out|apply IsS107.alloc|apply IsS107.drewN|apply IsS107.drew|apply IsS107.set_0|apply IsS107.set_1|apply IsS107.set_2|refine IsS107.far ?_ NB243_237.out _|refine IsS107.far ?_ NB243_244.out _|refine IsS107.far ?_ NB243_257.out _)|exact HI243.out));(case side2=>repeat (first|(with_reducible first|exact HB.out|apply qf|apply qa|apply qd|refine qg ?_ (IsS107.ge HI243.out)|refine qg ?_ GE237.out|refine qg ?_ GE244.out|refine qg ?_ GE257.out)|exact HB.out));rintro e w33 ⟨rfl,hi,hb,hk⟩;refine ⟨_,rfl,?_⟩;have n0_:=qn.mk (Kd.R_mono (Kd.R_keep (IsS107.apart (show IsS107 w _ g243 t254 t255 t256 from by repeat (first|(with_reducible first|exact HI243.out|apply IsS107.alloc|apply IsS107.drewN|apply IsS107.drew|apply IsS107.set_0|apply IsS107.set_1|apply IsS107.set_2|refine IsS107.far ?_ NB243_237.out _|refine IsS107.far ?_ NB243_244.out _|refine IsS107.far ?_ NB243_257.out _)|exact HI243.out)) (by (with_reducible repeat (first|apply Kd.R_alloc|apply Kd.R_drewN|apply Kd.R_drew));exact (Kd.R_mono (Kd.R_far (p:=⟨gb257,2,none⟩) (Kd.R_far (p:=⟨gb257,1,none⟩) (Kd.R_far (p:=⟨gb257,0,none⟩) (Kd.R_mono HO_245001.out (fun k_ hk=>(⟨hk,hk.2⟩ : _ ∧ k_ ≠ gb257))) (fun _ hk=>hk.2) (.string t253)) (fun _ hk=>hk.2) (.string (⟨#[]⟩ : ByteArray))) (fun _ hk=>hk.2) (.int .i64 0)) (fun _ h_=>h_.1))) (by decide)) hk (fun _ h=>h.2)) (fun _ h=>h.1));have n1_:=qn.mk (KeepBut.blk hk (g':=gb237) (o:=.cells #[.int .i64 0,.slice none 0 0] 50 (0,0)) (by (with_reducible repeat (first|refine qb ?_ _|refine qe ?_|refine qc ?_ _));refine blk_far ?_ NB237_257.out _;(with_reducible repeat (first|refine qb ?_ _|refine qe ?_|refine qc ?_ _));refine blk_far ?_ NB237_257.out _;(with_reducible repeat (first|refine qb ?_ _|refine qe ?_|refine qc ?_ _));refine blk_far ?_ NB237_257.out _;(with_reducible repeat (first|refine qb ?_ _|refine qe ?_|refine qc ?_ _));exact BK237.out) NB237_243.out (by simp));have n2_:=qn.mk (KeepBut.blk hk (g':=gb244) (o:=.cells #[.int .i64 t245,u245001] 50 (0,0)) (by (with_reducible repeat (first|refine qb ?_ _|refine qe ?_|refine qc ?_ _));refine blk_far ?_ NB244_257.out _;(with_reducible repeat (first|refine qb ?_ _|refine qe ?_|refine qc ?_ _));refine blk_far ?_ NB244_257.out _;(with_reducible repeat (first|refine qb ?_ _|refine qe ?_|refine qc ?_ _));refine blk_far ?_ NB244_257.out _;(with_reducible repeat (first|refine qb ?_ _|refine qe ?_|refine qc ?_ _));exact BK244.out) NB244_243.out (by simp));have n3_:=qn.mk (KeepBut.blk hk (g':=gb257) (o:=.cells #[.string t253,.string (⟨#[]⟩ : ByteArray),.int .i64 0] 61 (0,0)) (by (with_reducible repeat (first|refine qb ?_ _|refine qe ?_|refine qc ?_ _));refine blk_put (cs:=#[.string t253,.string (⟨#[]⟩ : ByteArray),.int .i64 0]) ?_ 2 _ rfl;(with_reducible repeat (first|refine qb ?_ _|refine qe ?_|refine qc ?_ _));refine blk_put (cs:=#[.string t253,.string (⟨#[]⟩ : ByteArray),.int .i64 0]) ?_ 1 _ rfl;(with_reducible repeat (first|refine qb ?_ _|refine qe ?_|refine qc ?_ _));refine blk_put (cs:=#[.string (⟨#[]⟩ : ByteArray),.string (⟨#[]⟩ : ByteArray),.int .i64 0]) ?_ 0 _ rfl;(with_reducible repeat (first|refine qb ?_ _|refine qe ?_|refine qc ?_ _));exact BK257.out) NB257_243.out (by simp));have n4_:=qn.mk (hb);have n5_:=qn.mk (hi);clear HO_245001;clear BK237;clear BK244;clear BK257;clear HB;clear HI243;have HO_245001:=n0_;have BK237:=n1_;have BK244:=n2_;have BK257:=n3_;have HB:=n4_;have HI243:=n5_;clear n0_ n1_ n2_ n3_ n4_ n5_;(try clear hb);(try clear hb2);(try clear hk);(try clear hi);have hcz34_0 : w33.cell? ⟨gb257,0,none⟩ = some (.string t253):=(qh BK257.out 0).trans rfl;have hcz34_1 : w33.cell? ⟨gb257,1,none⟩ = some (.string (⟨#[]⟩ : ByteArray)):=(qh BK257.out 1).trans rfl;have hcz34_2 : w33.cell? ⟨gb257,2,none⟩ = some (.int .i64 0):=(qh BK257.out 2).trans rfl;have hfz34_0:=qi BK257.out 0;have hfz34_1:=qi BK257.out 1;have hfz34_2:=qi BK257.out 2;have hcz35_0 : w33.cell? ⟨gb244,0,none⟩ = some (.int .i64 t245):=(qh BK244.out 0).trans rfl;have hcz35_1 : w33.cell? ⟨gb244,1,none⟩ = some (u245001):=(qh BK244.out 1).trans rfl;have hfz35_0:=qi BK244.out 0;have hfz35_1:=qi BK244.out 1)|((with_reducible refine gate_builtin (b:=.append) (xs:=#[.tmp 52,.tmp 54]) rfl ?_);at_builtin;refine Kd.R_append k61 (w0:=w) w.heap.size rfl (.tmp 52) (.tmp 54) 48 61 (.agg #[(.string ⟨#[]⟩),(.string ⟨#[]⟩),(.int .i64 0)]) 40 rfl Try.underlying48 info61 rfl (by decide) (by omega) u245001 x245001_1 (⟨t253,(⟨#[]⟩ : ByteArray),t258⟩ : S61) [.string t253,.string (⟨#[]⟩ : ByteArray),.int .i64 t258] (fun k_=>k_ ≠ gb257) (fun _=>False) rfl (by first|(go_simp;done)|(go_simp;rfl)) ?aP (fun _ hk=>hk.elim) ?aF ?aO ?aB ?aS ?aL ?_;(case aP=>exact k61_mkM _ _ _ (⟨t253,(⟨#[]⟩ : ByteArray),t258⟩ : S61));(case aB=>exact (by repeat (first|(with_reducible first|exact HB.out|apply qf|apply qa|apply qd|refine qg ?_ (IsS107.ge HI243.out)|refine qg ?_ GE237.out|refine qg ?_ GE244.out|refine qg ?_ GE257.out)|exact HB.out)));(case aF=>exact (fun k_ hk=>Kd.freshB (g:=gb257) (o:=.cells #[.string t253,.string (⟨#[]⟩ : ByteArray),.int .i64 t258] 61 (0,0)) (by (with_reducible repeat (first|refine qb ?_ _|refine qe ?_|refine qc ?_ _));refine blk_put (cs:=#[.string t253,.string (⟨#[]⟩ : ByteArray),.int .i64 0]) ?_ 2 _ rfl;(with_reducible repeat (first|refine qb ?_ _|refine qe ?_|refine qc ?_ _));exact BK257.out) k_ hk));(case aO=>exact (by (with_reducible repeat (first|apply Kd.R_alloc|apply Kd.R_drewN|apply Kd.R_drew));exact Kd.R_mono (Kd.R_far (p:=⟨gb257,2,none⟩) (Kd.R_mono HO_245001.out (fun k_ hk=>(⟨hk,hk.2⟩ : _ ∧ k_ ≠ gb257))) (fun _ hk=>hk.2) (.int .i64 t258)) (fun _ hk=>hk.1.2)));(case aS=>exact (qj (by repeat (first|(with_reducible first|exact HB.out|apply qf|apply qa|apply qd|refine qg ?_ (IsS107.ge HI243.out)|refine qg ?_ GE237.out|refine qg ?_ GE244.out|refine qg ?_ GE257.out)|exact HB.out))));(case aL=>have:=LMc23.out;omega);intro v263 w36 ho hb hg hat;rw [← Ny262.out] at ho;have n0_:=qn.mk (blk_grown (g:=gb237) (o:=.cells #[.int .i64 0,.slice none 0 0] 50 (0,0)) (by (with_reducible repeat (first|refine qb ?_ _|refine qe ?_|refine qc ?_ _));refine blk_far ?_ NB237_257.out _;(with_reducible repeat (first|refine qb ?_ _|refine qe ?_|refine qc ?_ _));exact BK237.out) hg (Kd.R_ne HO_245001.out BK237.out (by decide)));have n1_:=qn.mk (blk_grown (g:=gb244) (o:=.cells #[.int .i64 t245,u245001] 50 (0,0)) (by (with_reducible repeat (first|refine qb ?_ _|refine qe ?_|refine qc ?_ _));refine blk_far ?_ NB244_257.out _;(with_reducible repeat (first|refine qb ?_ _|refine qe ?_|refine qc ?_ _));exact BK244.out) hg (Kd.R_ne HO_245001.out BK244.out (by decide)));have n2_:=qn.mk (IsS107.grown (IsS107.far (p:=⟨gb257,2,none⟩) HI243.out NB243_257.out (.int .i64 t258)) hg (IsS107.own_ne HI243.out HO_245001.out (by decide)));have n3_:=qn.mk (blk_grown (g:=gb257) (o:=.cells #[.string t253,.string (⟨#[]⟩ : ByteArray),.int .i64 t258] 61 (0,0)) (by (with_reducible repeat (first|refine qb ?_ _|refine qe ?_|refine qc ?_ _));refine blk_put (cs:=#[.string t253,.string (⟨#[]⟩ : ByteArray),.int .i64 0]) ?_ 2 _ rfl;(with_reducible repeat (first|refine qb ?_ _|refine qe ?_|refine qc ?_ _));exact BK257.out) hg (Kd.R_away HO_245001.out (fun _ hk=>hk.2)));have n4_:=qn.mk (hb);have n5_:=qn.mk (ho);clear BK237;clear BK244;clear HI243;clear BK257;clear HB;clear HO_245001;have BK237:=n0_;have BK244:=n1_;have HI243:=n2_;have BK257:=n3_;have HB:=n4_;have HO264:=n5_;clear n0_ n1_ n2_ n3_ n4_ n5_;clear ho hb hg hat;obtain ⟨Ao37,co37,eo37⟩:=Kd.R_slice HO264.out;subst eo37;have hcz38_0 : w36.cell? ⟨gb244,0,none⟩ = some (.int .i64 t245):=(qh BK244.out 0).trans rfl;have hcz38_1 : w36.cell? ⟨gb244,1,none⟩ = some (u245001):=(qh BK244.out 1).trans rfl;have hfz38_0:=qi BK244.out 0;have hfz38_1:=qi BK244.out 1))
                  go_roundg kj15
                  case measure=>have:=HK1.out;have:=HJ15.out;omega
                  case rel=>exact ⟨(wrap64 (x8_1 - 1)),(t259),(t260),(t261),(y262),(.slice Ao37 y262.length co37),(by first|rfl|(simp;done)|(simp [*];done)),H',⟨by have:=HK1.out;have:=HJ15.out;omega⟩,⟨by (with_reducible repeat (first|apply Kd.R_alloc|apply Kd.R_drewN|apply Kd.R_drew));exact Kd.R_mono (Kd.R_far (p:=⟨gb244,1,none⟩) (Kd.R_types HO264.out BK244.out (by decide)) (fun _ hk=>hk.2) (.slice Ao37 y262.length co37)) (fun _ hk=>trivial)⟩,⟨by (with_reducible repeat (first|refine qb ?_ _|refine qe ?_|refine qc ?_ _));refine blk_far ?_ NB237_244.out _;(with_reducible repeat (first|refine qb ?_ _|refine qe ?_|refine qc ?_ _));exact BK237.out⟩,⟨by (with_reducible repeat (first|refine qb ?_ _|refine qe ?_|refine qc ?_ _));refine blk_put (cs:=#[.int .i64 t245,u245001]) ?_ 1 _ rfl;(with_reducible repeat (first|refine qb ?_ _|refine qe ?_|refine qc ?_ _));exact BK244.out⟩,⟨by repeat (first|(with_reducible first|exact HI243.out|apply IsS107.alloc|apply IsS107.drewN|apply IsS107.drew|apply IsS107.set_0|apply IsS107.set_1|apply IsS107.set_2|refine IsS107.far ?_ NB243_237.out _|refine IsS107.far ?_ NB243_244.out _|refine IsS107.far ?_ NB243_257.out _)|exact HI243.out)⟩,⟨by repeat (first|(with_reducible first|exact HB.out|apply qf|apply qa|apply qd|refine qg ?_ (IsS107.ge HI243.out)|refine qg ?_ GE237.out|refine qg ?_ GE244.out|refine qg ?_ GE257.out)|exact HB.out)⟩⟩
                · rw [if_neg c23] at H
                  exact absurd H (by simp)
              · rw [if_neg c21] at H
                have c21b0 : (t245 == 2) = false:=beq_eq_false_iff_ne.mpr c21
                have c21b1 : (t245 != 2) = true:=bne_iff_ne.mpr c21
                replace H:=Option.bind_eq_some_iff.mp H
                obtain ⟨⟨t265,t266,t267,t268⟩,A390,H⟩:=H
                replace H : (if x245001_1.length < 3518437208883 then (impl_ReadPage.l0 kj15 a0 (wrap64 (x8_1 - 1)) t266 t267 t268 t245 (x245001_1 ++ [(⟨t253,t265,0⟩ : S61)])) else (none)) = some (r1,r2,r3):=H
                have A39:=qn.mk A390
                clear A390
                by_cases c40 : x245001_1.length < 3518437208883
                · rw [if_pos c40] at H
                  have LMc40:=qn.mk c40
                  clear c40
                  obtain ⟨y269,hy269⟩ : ∃ y_ : List (S61),y_ = (x245001_1 ++ [(⟨t253,t265,0⟩ : S61)]):=⟨_,rfl⟩
                  replace H : (impl_ReadPage.l0 kj15 a0 (wrap64 (x8_1 - 1)) t266 t267 t268 t245 y269) = some (r1,r2,r3):=by first|(rw [hy269];with_reducible exact H)|(have H2_:=(Option.bind_some _ _).symm.trans H;rw [hy269];with_reducible exact H2_)|(have H2_:=(Option.bind_some _ _).symm.trans H;with_reducible exact H2_)|with_reducible exact H|(rw [hy269];exact H)|exact H
                  have Ny269:=qn.mk hy269
                  clear hy269
                  have H':=qn.mk H
                  clear H
                  go_wp2_with (first|((with_reducible refine gate_callee (f:=70) rfl ?_);refine goesL_ (some 40) rfl rfl Try.func70 (by kernel_rfl) rfl #[.pointer (some ⟨g243,0,none⟩)] rfl (by (try simp only [List.map_toArray,List.map_cons,List.map_nil]);first|done|rfl|(simp only [List.length_drop,List.length_take];rfl)) ?_;(with_reducible refine (impl_reader_short.calls kj15 g243 x244000_1 x244001_1 x244002_1 t253 t254 t255 t256 w _ ?side1 ?side2 A20.out).mono ?_);(case side1=>repeat (first|(with_reducible first|exact HI243.out|apply IsS107.alloc|apply IsS107.drewN|apply IsS107.drew|apply IsS107.set_0|apply IsS107.set_1|apply IsS107.set_2|refine IsS107.far ?_ NB243_237.out _|refine IsS107.far ?_ NB243_244.out _)|exact HI243.out));(case side2=>repeat (first|(with_reducible first|exact HB.out|apply qf|apply qa|apply qd|refine qg ?_ (IsS107.ge HI243.out)|refine qg ?_ GE237.out|refine qg ?_ GE244.out)|exact HB.out));rintro e w41 ⟨rfl,hi,hb,hk⟩;refine ⟨_,rfl,?_⟩;have n0_:=qn.mk (Kd.R_mono (Kd.R_keep (IsS107.apart (show IsS107 w _ g243 x244000_1 x244001_1 x244002_1 from by repeat (first|(with_reducible first|exact HI243.out|apply IsS107.alloc|apply IsS107.drewN|apply IsS107.drew|apply IsS107.set_0|apply IsS107.set_1|apply IsS107.set_2|refine IsS107.far ?_ NB243_237.out _|refine IsS107.far ?_ NB243_244.out _)|exact HI243.out)) (by (with_reducible repeat (first|apply Kd.R_alloc|apply Kd.R_drewN|apply Kd.R_drew));exact HO_245001.out) (by decide)) hk (fun _ h=>h.2)) (fun _ h=>h.1));have n1_:=qn.mk (KeepBut.blk hk (g':=gb237) (o:=.cells #[.int .i64 0,.slice none 0 0] 50 (0,0)) (by (with_reducible repeat (first|refine qb ?_ _|refine qe ?_|refine qc ?_ _));exact BK237.out) NB237_243.out (by simp));have n2_:=qn.mk (KeepBut.blk hk (g':=gb244) (o:=.cells #[.int .i64 t245,u245001] 50 (0,0)) (by (with_reducible repeat (first|refine qb ?_ _|refine qe ?_|refine qc ?_ _));exact BK244.out) NB244_243.out (by simp));have n3_:=qn.mk (hb);have n4_:=qn.mk (hi);clear HO_245001;clear BK237;clear BK244;clear HB;clear HI243;have HO_245001:=n0_;have BK237:=n1_;have BK244:=n2_;have HB:=n3_;have HI243:=n4_;clear n0_ n1_ n2_ n3_ n4_;(try clear hb);(try clear hb2);(try clear hk);(try clear hi))|((with_reducible refine gate_dst (N:=9) rfl ?_);refine box_event ?hg (N:=9) ?hd (cs:=#[.string (⟨#[]⟩ : ByteArray),.string (⟨#[]⟩ : ByteArray),.int .i64 0]) (t:=61) ?hr ?_;(case hd=>rfl);(case hg=>rfl);(case hr=>first|(go_simp;done)|(go_simp;rfl));intro gb257 hg w42 hbox hb;have n0_:=qn.mk (Kd.R_below (Kd.R_elderB (by (with_reducible repeat (first|apply Kd.R_alloc|apply Kd.R_drewN|apply Kd.R_drew));exact HO_245001.out) gb257 (Nat.le_of_eq hg.symm)) hb);have n1_:=bb_ BK237 hb;have n2_:=bb_ BK244 hb;have n3_:=qn.mk (IsS107.below (by repeat (first|(with_reducible first|exact HI243.out|apply IsS107.alloc|apply IsS107.drewN|apply IsS107.drew|apply IsS107.set_0|apply IsS107.set_1|apply IsS107.set_2|refine IsS107.far ?_ NB243_237.out _|refine IsS107.far ?_ NB243_244.out _)|exact HI243.out)) hb);have n4_:=qn.mk (qm (by repeat (first|(with_reducible first|exact HB.out|apply qf|apply qa|apply qd|refine qg ?_ (IsS107.ge HI243.out)|refine qg ?_ GE237.out|refine qg ?_ GE244.out)|exact HB.out)) hb);have n5_:=qn.mk (hbox);have n6_:=qn.mk ((by rw [hg];exact (qj (by repeat (first|(with_reducible first|exact HB.out|apply qf|apply qa|apply qd|refine qg ?_ (IsS107.ge HI243.out)|refine qg ?_ GE237.out|refine qg ?_ GE244.out)|exact HB.out))) : w.heap.size ≤ gb257));have n7_:=qn.mk ((by rw [hg];exact (qj (by repeat (first|(with_reducible first|exact HB.out|apply qf|apply qa|apply qd|refine qg ?_ (IsS107.ge HI243.out)|refine qg ?_ GE237.out|refine qg ?_ GE244.out)|exact HB.out))) : w.heap.size ≤ gb257));have n8_:=qn.mk ((by rw [hg];exact nl_ BK237 : gb237 ≠ gb257));have n9_:=qn.mk ((by rw [hg];exact ng_ BK237 : gb257 ≠ gb237));have n10_:=qn.mk ((by rw [hg];exact nl_ BK244 : gb244 ≠ gb257));have n11_:=qn.mk ((by rw [hg];exact ng_ BK244 : gb257 ≠ gb244));have n12_:=qn.mk ((by rw [hg];exact Nat.ne_of_lt (IsS107.lt (show IsS107 w _ g243 t254 t255 t256 from by repeat (first|(with_reducible first|exact HI243.out|apply IsS107.alloc|apply IsS107.drewN|apply IsS107.drew|apply IsS107.set_0|apply IsS107.set_1|apply IsS107.set_2|refine IsS107.far ?_ NB243_237.out _|refine IsS107.far ?_ NB243_244.out _)|exact HI243.out))) : g243 ≠ gb257));have n13_:=qn.mk ((by rw [hg];exact Nat.ne_of_gt (IsS107.lt (show IsS107 w _ g243 t254 t255 t256 from by repeat (first|(with_reducible first|exact HI243.out|apply IsS107.alloc|apply IsS107.drewN|apply IsS107.drew|apply IsS107.set_0|apply IsS107.set_1|apply IsS107.set_2|refine IsS107.far ?_ NB243_237.out _|refine IsS107.far ?_ NB243_244.out _)|exact HI243.out))) : gb257 ≠ g243));clear HO_245001;clear BK237;clear BK244;clear HI243;clear HB;have HO_245001:=n0_;have BK237:=n1_;have BK244:=n2_;have HI243:=n3_;have HB:=n4_;have BK257:=n5_;have GW257:=n6_;have GE257:=n7_;have NB237_257:=n8_;have NB257_237:=n9_;have NB244_257:=n10_;have NB257_244:=n11_;have NB243_257:=n12_;have NB257_243:=n13_;clear n0_ n1_ n2_ n3_ n4_ n5_ n6_ n7_ n8_ n9_ n10_ n11_ n12_ n13_;clear hb hbox hg;have hnb43:=NB257_237.out;have hnc43:=NB237_257.out;have hnb44:=NB257_244.out;have hnc44:=NB244_257.out;have hnb45:=NB257_243.out;have hnc45:=NB243_257.out;have hcz46_0 : w42.cell? ⟨gb257,0,none⟩ = some (.string (⟨#[]⟩ : ByteArray)):=(qh BK257.out 0).trans rfl;have hcz46_1 : w42.cell? ⟨gb257,1,none⟩ = some (.string (⟨#[]⟩ : ByteArray)):=(qh BK257.out 1).trans rfl;have hcz46_2 : w42.cell? ⟨gb257,2,none⟩ = some (.int .i64 0):=(qh BK257.out 2).trans rfl;have hfz46_0:=qi BK257.out 0;have hfz46_1:=qi BK257.out 1;have hfz46_2:=qi BK257.out 2;have hnb47:=NB244_237.out;have hnc47:=NB237_244.out;have hnb48:=NB244_243.out;have hnc48:=NB243_244.out;have hcz49_0 : w42.cell? ⟨gb244,0,none⟩ = some (.int .i64 t245):=(qh BK244.out 0).trans rfl;have hcz49_1 : w42.cell? ⟨gb244,1,none⟩ = some (u245001):=(qh BK244.out 1).trans rfl;have hfz49_0:=qi BK244.out 0;have hfz49_1:=qi BK244.out 1)|((with_reducible refine gate_callee (f:=70) rfl ?_);refine goesL_ (some 49) rfl rfl Try.func70 (by kernel_rfl) rfl #[.pointer (some ⟨g243,0,none⟩)] rfl (by (try simp only [List.map_toArray,List.map_cons,List.map_nil]);first|done|rfl|(simp only [List.length_drop,List.length_take];rfl)) ?_;(with_reducible refine (impl_reader_short.calls kj15 g243 t254 t255 t256 t265 t266 t267 t268 w _ ?side1 ?side2 A39.out).mono ?_);(case side1=>repeat (first|(with_reducible first|exact HI243.out|apply IsS107.alloc|apply IsS107.drewN|apply IsS107.drew|apply IsS107.set_0|apply IsS107.set_1|apply IsS107.set_2|refine IsS107.far ?_ NB243_237.out _|refine IsS107.far ?_ NB243_244.out _|refine IsS107.far ?_ NB243_257.out _)|exact HI243.out));(case side2=>repeat (first|(with_reducible first|exact HB.out|apply qf|apply qa|apply qd|refine qg ?_ (IsS107.ge HI243.out)|refine qg ?_ GE237.out|refine qg ?_ GE244.out|refine qg ?_ GE257.out)|exact HB.out));rintro e w50 ⟨rfl,hi,hb,hk⟩;refine ⟨_,rfl,?_⟩;have n0_:=qn.mk (Kd.R_mono (Kd.R_keep (IsS107.apart (show IsS107 w _ g243 t254 t255 t256 from by repeat (first|(with_reducible first|exact HI243.out|apply IsS107.alloc|apply IsS107.drewN|apply IsS107.drew|apply IsS107.set_0|apply IsS107.set_1|apply IsS107.set_2|refine IsS107.far ?_ NB243_237.out _|refine IsS107.far ?_ NB243_244.out _|refine IsS107.far ?_ NB243_257.out _)|exact HI243.out)) (by (with_reducible repeat (first|apply Kd.R_alloc|apply Kd.R_drewN|apply Kd.R_drew));exact (Kd.R_mono (Kd.R_far (p:=⟨gb257,2,none⟩) (Kd.R_far (p:=⟨gb257,1,none⟩) (Kd.R_far (p:=⟨gb257,0,none⟩) (Kd.R_mono HO_245001.out (fun k_ hk=>(⟨hk,hk.2⟩ : _ ∧ k_ ≠ gb257))) (fun _ hk=>hk.2) (.string t253)) (fun _ hk=>hk.2) (.string (⟨#[]⟩ : ByteArray))) (fun _ hk=>hk.2) (.int .i64 0)) (fun _ h_=>h_.1))) (by decide)) hk (fun _ h=>h.2)) (fun _ h=>h.1));have n1_:=qn.mk (KeepBut.blk hk (g':=gb237) (o:=.cells #[.int .i64 0,.slice none 0 0] 50 (0,0)) (by (with_reducible repeat (first|refine qb ?_ _|refine qe ?_|refine qc ?_ _));refine blk_far ?_ NB237_257.out _;(with_reducible repeat (first|refine qb ?_ _|refine qe ?_|refine qc ?_ _));refine blk_far ?_ NB237_257.out _;(with_reducible repeat (first|refine qb ?_ _|refine qe ?_|refine qc ?_ _));refine blk_far ?_ NB237_257.out _;(with_reducible repeat (first|refine qb ?_ _|refine qe ?_|refine qc ?_ _));exact BK237.out) NB237_243.out (by simp));have n2_:=qn.mk (KeepBut.blk hk (g':=gb244) (o:=.cells #[.int .i64 t245,u245001] 50 (0,0)) (by (with_reducible repeat (first|refine qb ?_ _|refine qe ?_|refine qc ?_ _));refine blk_far ?_ NB244_257.out _;(with_reducible repeat (first|refine qb ?_ _|refine qe ?_|refine qc ?_ _));refine blk_far ?_ NB244_257.out _;(with_reducible repeat (first|refine qb ?_ _|refine qe ?_|refine qc ?_ _));refine blk_far ?_ NB244_257.out _;(with_reducible repeat (first|refine qb ?_ _|refine qe ?_|refine qc ?_ _));exact BK244.out) NB244_243.out (by simp));have n3_:=qn.mk (KeepBut.blk hk (g':=gb257) (o:=.cells #[.string t253,.string (⟨#[]⟩ : ByteArray),.int .i64 0] 61 (0,0)) (by (with_reducible repeat (first|refine qb ?_ _|refine qe ?_|refine qc ?_ _));refine blk_put (cs:=#[.string t253,.string (⟨#[]⟩ : ByteArray),.int .i64 0]) ?_ 2 _ rfl;(with_reducible repeat (first|refine qb ?_ _|refine qe ?_|refine qc ?_ _));refine blk_put (cs:=#[.string t253,.string (⟨#[]⟩ : ByteArray),.int .i64 0]) ?_ 1 _ rfl;(with_reducible repeat (first|refine qb ?_ _|refine qe ?_|refine qc ?_ _));refine blk_put (cs:=#[.string (⟨#[]⟩ : ByteArray),.string (⟨#[]⟩ : ByteArray),.int .i64 0]) ?_ 0 _ rfl;(with_reducible repeat (first|refine qb ?_ _|refine qe ?_|refine qc ?_ _));exact BK257.out) NB257_243.out (by simp));have n4_:=qn.mk (hb);have n5_:=qn.mk (hi);clear HO_245001;clear BK237;clear BK244;clear BK257;clear HB;clear HI243;have HO_245001:=n0_;have BK237:=n1_;have BK244:=n2_;have BK257:=n3_;have HB:=n4_;have HI243:=n5_;clear n0_ n1_ n2_ n3_ n4_ n5_;(try clear hb);(try clear hb2);(try clear hk);(try clear hi);have hcz51_0 : w50.cell? ⟨gb257,0,none⟩ = some (.string t253):=(qh BK257.out 0).trans rfl;have hcz51_1 : w50.cell? ⟨gb257,1,none⟩ = some (.string (⟨#[]⟩ : ByteArray)):=(qh BK257.out 1).trans rfl;have hcz51_2 : w50.cell? ⟨gb257,2,none⟩ = some (.int .i64 0):=(qh BK257.out 2).trans rfl;have hfz51_0:=qi BK257.out 0;have hfz51_1:=qi BK257.out 1;have hfz51_2:=qi BK257.out 2;have hcz52_0 : w50.cell? ⟨gb244,0,none⟩ = some (.int .i64 t245):=(qh BK244.out 0).trans rfl;have hcz52_1 : w50.cell? ⟨gb244,1,none⟩ = some (u245001):=(qh BK244.out 1).trans rfl;have hfz52_0:=qi BK244.out 0;have hfz52_1:=qi BK244.out 1)|((with_reducible refine gate_builtin (b:=.append) (xs:=#[.tmp 52,.tmp 54]) rfl ?_);at_builtin;refine Kd.R_append k61 (w0:=w) w.heap.size rfl (.tmp 52) (.tmp 54) 48 61 (.agg #[(.string ⟨#[]⟩),(.string ⟨#[]⟩),(.int .i64 0)]) 40 rfl Try.underlying48 info61 rfl (by decide) (by omega) u245001 x245001_1 (⟨t253,t265,0⟩ : S61) [.string t253,.string t265,.int .i64 0] (fun k_=>k_ ≠ gb257) (fun _=>False) rfl (by first|(go_simp;done)|(go_simp;rfl)) ?aP (fun _ hk=>hk.elim) ?aF ?aO ?aB ?aS ?aL ?_;(case aP=>exact k61_mkM _ _ _ (⟨t253,t265,0⟩ : S61));(case aB=>exact (by repeat (first|(with_reducible first|exact HB.out|apply qf|apply qa|apply qd|refine qg ?_ (IsS107.ge HI243.out)|refine qg ?_ GE237.out|refine qg ?_ GE244.out|refine qg ?_ GE257.out)|exact HB.out)));(case aF=>exact (fun k_ hk=>Kd.freshB (g:=gb257) (o:=.cells #[.string t253,.string t265,.int .i64 0] 61 (0,0)) (by (with_reducible repeat (first|refine qb ?_ _|refine qe ?_|refine qc ?_ _));refine blk_put (cs:=#[.string t253,.string (⟨#[]⟩ : ByteArray),.int .i64 0]) ?_ 1 _ rfl;(with_reducible repeat (first|refine qb ?_ _|refine qe ?_|refine qc ?_ _));exact BK257.out) k_ hk));(case aO=>exact (by (with_reducible repeat (first|apply Kd.R_alloc|apply Kd.R_drewN|apply Kd.R_drew));exact Kd.R_mono (Kd.R_far (p:=⟨gb257,1,none⟩) (Kd.R_mono HO_245001.out (fun k_ hk=>(⟨hk,hk.2⟩ : _ ∧ k_ ≠ gb257))) (fun _ hk=>hk.2) (.string t265)) (fun _ hk=>hk.1.2)));(case aS=>exact (qj (by repeat (first|(with_reducible first|exact HB.out|apply qf|apply qa|apply qd|refine qg ?_ (IsS107.ge HI243.out)|refine qg ?_ GE237.out|refine qg ?_ GE244.out|refine qg ?_ GE257.out)|exact HB.out))));(case aL=>have:=LMc40.out;omega);intro v270 w53 ho hb hg hat;rw [← Ny269.out] at ho;have n0_:=qn.mk (blk_grown (g:=gb237) (o:=.cells #[.int .i64 0,.slice none 0 0] 50 (0,0)) (by (with_reducible repeat (first|refine qb ?_ _|refine qe ?_|refine qc ?_ _));refine blk_far ?_ NB237_257.out _;(with_reducible repeat (first|refine qb ?_ _|refine qe ?_|refine qc ?_ _));exact BK237.out) hg (Kd.R_ne HO_245001.out BK237.out (by decide)));have n1_:=qn.mk (blk_grown (g:=gb244) (o:=.cells #[.int .i64 t245,u245001] 50 (0,0)) (by (with_reducible repeat (first|refine qb ?_ _|refine qe ?_|refine qc ?_ _));refine blk_far ?_ NB244_257.out _;(with_reducible repeat (first|refine qb ?_ _|refine qe ?_|refine qc ?_ _));exact BK244.out) hg (Kd.R_ne HO_245001.out BK244.out (by decide)));have n2_:=qn.mk (IsS107.grown (IsS107.far (p:=⟨gb257,1,none⟩) HI243.out NB243_257.out (.string t265)) hg (IsS107.own_ne HI243.out HO_245001.out (by decide)));have n3_:=qn.mk (blk_grown (g:=gb257) (o:=.cells #[.string t253,.string t265,.int .i64 0] 61 (0,0)) (by (with_reducible repeat (first|refine qb ?_ _|refine qe ?_|refine qc ?_ _));refine blk_put (cs:=#[.string t253,.string (⟨#[]⟩ : ByteArray),.int .i64 0]) ?_ 1 _ rfl;(with_reducible repeat (first|refine qb ?_ _|refine qe ?_|refine qc ?_ _));exact BK257.out) hg (Kd.R_away HO_245001.out (fun _ hk=>hk.2)));have n4_:=qn.mk (hb);have n5_:=qn.mk (ho);clear BK237;clear BK244;clear HI243;clear BK257;clear HB;clear HO_245001;have BK237:=n0_;have BK244:=n1_;have HI243:=n2_;have BK257:=n3_;have HB:=n4_;have HO271:=n5_;clear n0_ n1_ n2_ n3_ n4_ n5_;clear ho hb hg hat;obtain ⟨Ao54,co54,eo54⟩:=Kd.R_slice HO271.out;subst eo54;have hcz55_0 : w53.cell? ⟨gb244,0,none⟩ = some (.int .i64 t245):=(qh BK244.out 0).trans rfl;have hcz55_1 : w53.cell? ⟨gb244,1,none⟩ = some (u245001):=(qh BK244.out 1).trans rfl;have hfz55_0:=qi BK244.out 0;have hfz55_1:=qi BK244.out 1))
                  go_roundg kj15
                  case measure=>have:=HK1.out;have:=HJ15.out;omega
                  case rel=>exact ⟨(wrap64 (x8_1 - 1)),(t266),(t267),(t268),(y269),(.slice Ao54 y269.length co54),(by first|rfl|(simp;done)|(simp [*];done)),H',⟨by have:=HK1.out;have:=HJ15.out;omega⟩,⟨by (with_reducible repeat (first|apply Kd.R_alloc|apply Kd.R_drewN|apply Kd.R_drew));exact Kd.R_mono (Kd.R_far (p:=⟨gb244,1,none⟩) (Kd.R_types HO271.out BK244.out (by decide)) (fun _ hk=>hk.2) (.slice Ao54 y269.length co54)) (fun _ hk=>trivial)⟩,⟨by (with_reducible repeat (first|refine qb ?_ _|refine qe ?_|refine qc ?_ _));refine blk_far ?_ NB237_244.out _;(with_reducible repeat (first|refine qb ?_ _|refine qe ?_|refine qc ?_ _));exact BK237.out⟩,⟨by (with_reducible repeat (first|refine qb ?_ _|refine qe ?_|refine qc ?_ _));refine blk_put (cs:=#[.int .i64 t245,u245001]) ?_ 1 _ rfl;(with_reducible repeat (first|refine qb ?_ _|refine qe ?_|refine qc ?_ _));exact BK244.out⟩,⟨by repeat (first|(with_reducible first|exact HI243.out|apply IsS107.alloc|apply IsS107.drewN|apply IsS107.drew|apply IsS107.set_0|apply IsS107.set_1|apply IsS107.set_2|refine IsS107.far ?_ NB243_237.out _|refine IsS107.far ?_ NB243_244.out _|refine IsS107.far ?_ NB243_257.out _)|exact HI243.out)⟩,⟨by repeat (first|(with_reducible first|exact HB.out|apply qf|apply qa|apply qd|refine qg ?_ (IsS107.ge HI243.out)|refine qg ?_ GE237.out|refine qg ?_ GE244.out|refine qg ?_ GE257.out)|exact HB.out)⟩⟩
                · rw [if_neg c40] at H
                  exact absurd H (by simp)
            · replace c19:=Bool.eq_false_iff.mpr c19
              subst c19
              have H1 : ((impl_PageText.f kj15 t245 x245001_1).bind fun bt272=>((impl_reader_ends.f x244000_1 x244001_1 x244002_1).bind fun bt274=>(if bt274.1 = true then (if bt272.2 = true then (if bt272.1.toList = a0.toList then (some (t245,x245001_1,true)) else (some (0,([] : List (S61)),false))) else (some (0,([] : List (S61)),false))) else (some (0,([] : List (S61)),false))))) = some (r1,r2,r3):=by rw [if_neg (show ¬ (false = true) by decide)] at H;exact H
              clear H
              have H:=H1
              clear H1
              replace H:=Option.bind_eq_some_iff.mp H
              obtain ⟨⟨t272,t273⟩,A560,H⟩:=H
              replace H : ((impl_reader_ends.f x244000_1 x244001_1 x244002_1).bind fun bt274=>(if bt274.1 = true then (if t273 = true then (if t272.toList = a0.toList then (some (t245,x245001_1,true)) else (some (0,([] : List (S61)),false))) else (some (0,([] : List (S61)),false))) else (some (0,([] : List (S61)),false)))) = some (r1,r2,r3):=H
              have A56:=qn.mk A560
              clear A560
              replace H:=Option.bind_eq_some_iff.mp H
              obtain ⟨⟨t274,t275,t276,t277⟩,A570,H⟩:=H
              replace H : (if t274 = true then (if t273 = true then (if t272.toList = a0.toList then (some (t245,x245001_1,true)) else (some (0,([] : List (S61)),false))) else (some (0,([] : List (S61)),false))) else (some (0,([] : List (S61)),false))) = some (r1,r2,r3):=H
              have A57:=qn.mk A570
              clear A570
              by_cases c58 : t274 = true
              · subst c58
                have H1 : (if t273 = true then (if t272.toList = a0.toList then (some (t245,x245001_1,true)) else (some (0,([] : List (S61)),false))) else (some (0,([] : List (S61)),false))) = some (r1,r2,r3):=by rw [if_pos rfl] at H;exact H
                clear H
                have H:=H1
                clear H1
                by_cases c59 : t273 = true
                · subst c59
                  have H1 : (if t272.toList = a0.toList then (some (t245,x245001_1,true)) else (some (0,([] : List (S61)),false))) = some (r1,r2,r3):=by rw [if_pos rfl] at H;exact H
                  clear H
                  have H:=H1
                  clear H1
                  by_cases c60 : t272.toList = a0.toList
                  · rw [if_pos c60] at H
                    have c60b0 : (t272.toList == a0.toList) = true:=beq_iff_eq.mpr c60
                    have c60b1 : (t272.toList != a0.toList) = false:=bne_eq_false_iff_eq.mpr c60
                    clear c60
                    simp only [Option.some.injEq,Prod.mk.injEq] at H
                    obtain ⟨rfl,rfl,rfl⟩:=H
                    have hnb61:=NB244_237.out
                    have hnc61:=NB237_244.out
                    have hnb62:=NB244_243.out
                    have hnc62:=NB243_244.out
                    have hcz63_0 : wc.cell? ⟨gb244,0,none⟩ = some (.int .i64 t245):=(qh BK244.out 0).trans rfl
                    have hcz63_1 : wc.cell? ⟨gb244,1,none⟩ = some (u245001):=(qh BK244.out 1).trans rfl
                    have hfz63_0:=qi BK244.out 0
                    have hfz63_1:=qi BK244.out 1
                    obtain ⟨Ao64,co64,eo64⟩:=Kd.R_slice HO_245001.out
                    subst eo64
                    go_wp2_with (first|((with_reducible refine gate_callee (f:=52) rfl ?_);refine goesL_ (some 59) rfl rfl Try.func52 (by kernel_rfl) rfl #[.agg #[.int .i64 t245,.slice Ao64 x245001_1.length co64]] rfl (by (try simp only [List.map_toArray,List.map_cons,List.map_nil]);first|done|rfl|(simp only [List.length_drop,List.length_take];rfl)) ?_;(with_reducible refine (impl_PageText.calls kj15 t245 _ _ x245001_1 t272 true _ ?side1 ?side2 A56.out).mono ?_);(case side1=>repeat (first|exact (Kd.R_reads' HO_245001.out).2.2|(with_reducible refine Kd.C_alloc ?_ _)|(with_reducible refine Kd.C_drewN ?_ _)|(with_reducible refine Kd.C_drew ?_)));(case side2=>exact (Kd.R_reads' HO_245001.out).2.1);rintro e w65 ⟨rfl,hb⟩;refine ⟨_,rfl,?_⟩;have n0_:=rb_ HO_245001 hb;have n1_:=bb_ BK237 hb;have n2_:=bb_ BK244 hb;have n3_:=qn.mk (IsS107.below (by repeat (first|(with_reducible first|exact HI243.out|apply IsS107.alloc|apply IsS107.drewN|apply IsS107.drew|apply IsS107.set_0|apply IsS107.set_1|apply IsS107.set_2|refine IsS107.far ?_ NB243_237.out _|refine IsS107.far ?_ NB243_244.out _)|exact HI243.out)) hb);have n4_:=qn.mk (qm (by repeat (first|(with_reducible first|exact HB.out|apply qf|apply qa|apply qd|refine qg ?_ (IsS107.ge HI243.out)|refine qg ?_ GE237.out|refine qg ?_ GE244.out)|exact HB.out)) hb);clear HO_245001;clear BK237;clear BK244;clear HI243;clear HB;have HO_245001:=n0_;have BK237:=n1_;have BK244:=n2_;have HI243:=n3_;have HB:=n4_;clear n0_ n1_ n2_ n3_ n4_;(try clear hb);(try clear hb2);(try clear hk);(try clear hi))|((with_reducible refine gate_callee (f:=71) rfl ?_);refine goesL_ (some 63) rfl rfl Try.func71 (by kernel_rfl) rfl #[.pointer (some ⟨g243,0,none⟩)] rfl (by (try simp only [List.map_toArray,List.map_cons,List.map_nil]);first|done|rfl|(simp only [List.length_drop,List.length_take];rfl)) ?_;(with_reducible refine (impl_reader_ends.calls g243 x244000_1 x244001_1 x244002_1 true t275 t276 t277 w _ ?side1 ?side2 A57.out).mono ?_);(case side1=>repeat (first|(with_reducible first|exact HI243.out|apply IsS107.alloc|apply IsS107.drewN|apply IsS107.drew|apply IsS107.set_0|apply IsS107.set_1|apply IsS107.set_2|refine IsS107.far ?_ NB243_237.out _|refine IsS107.far ?_ NB243_244.out _)|exact HI243.out));(case side2=>repeat (first|(with_reducible first|exact HB.out|apply qf|apply qa|apply qd|refine qg ?_ (IsS107.ge HI243.out)|refine qg ?_ GE237.out|refine qg ?_ GE244.out)|exact HB.out));rintro e w66 ⟨rfl,hi,hb,hk⟩;refine ⟨_,rfl,?_⟩;have n0_:=qn.mk (Kd.R_mono (Kd.R_keep (IsS107.apart (show IsS107 w _ g243 x244000_1 x244001_1 x244002_1 from by repeat (first|(with_reducible first|exact HI243.out|apply IsS107.alloc|apply IsS107.drewN|apply IsS107.drew|apply IsS107.set_0|apply IsS107.set_1|apply IsS107.set_2|refine IsS107.far ?_ NB243_237.out _|refine IsS107.far ?_ NB243_244.out _)|exact HI243.out)) (by (with_reducible repeat (first|apply Kd.R_alloc|apply Kd.R_drewN|apply Kd.R_drew));exact HO_245001.out) (by decide)) hk (fun _ h=>h.2)) (fun _ h=>h.1));have n1_:=qn.mk (KeepBut.blk hk (g':=gb237) (o:=.cells #[.int .i64 0,.slice none 0 0] 50 (0,0)) (by (with_reducible repeat (first|refine qb ?_ _|refine qe ?_|refine qc ?_ _));exact BK237.out) NB237_243.out (by simp));have n2_:=qn.mk (KeepBut.blk hk (g':=gb244) (o:=.cells #[.int .i64 t245,.slice Ao64 x245001_1.length co64] 50 (0,0)) (by (with_reducible repeat (first|refine qb ?_ _|refine qe ?_|refine qc ?_ _));exact BK244.out) NB244_243.out (by simp));have n3_:=qn.mk (hb);have n4_:=qn.mk (hi);clear HO_245001;clear BK237;clear BK244;clear HB;clear HI243;have HO_245001:=n0_;have BK237:=n1_;have BK244:=n2_;have HB:=n3_;have HI243:=n4_;clear n0_ n1_ n2_ n3_ n4_;(try clear hb);(try clear hb2);(try clear hk);(try clear hi);have hcz67_0 : w66.cell? ⟨gb244,0,none⟩ = some (.int .i64 t245):=(qh BK244.out 0).trans rfl;have hcz67_1 : w66.cell? ⟨gb244,1,none⟩ = some (.slice Ao64 x245001_1.length co64):=(qh BK244.out 1).trans rfl;have hfz67_0:=qi BK244.out 0;have hfz67_1:=qi BK244.out 1;have hnb68:=NB237_243.out;have hnc68:=NB243_237.out;have hcz69_0 : w66.cell? ⟨gb237,0,none⟩ = some (.int .i64 0):=(qh BK237.out 0).trans rfl;have hcz69_1 : w66.cell? ⟨gb237,1,none⟩ = some (.slice none 0 0):=(qh BK237.out 1).trans rfl;have hfz69_0:=qi BK237.out 0;have hfz69_1:=qi BK237.out 1))
                    refine bodyPost_ret (results_ct rfl _ _ gb237 50 #[.int .i64 t245,.slice Ao64 x245001_1.length co64] (0,0) _ rfl (by (with_reducible repeat (first|refine qb ?_ _|refine qe ?_|refine qc ?_ _));refine blk_put (cs:=#[.int .i64 t245,.slice none 0 0]) ?_ 1 _ rfl;(with_reducible repeat (first|refine qb ?_ _|refine qe ?_|refine qc ?_ _));refine blk_put (cs:=#[.int .i64 0,.slice none 0 0]) ?_ 0 _ rfl;(with_reducible repeat (first|refine qb ?_ _|refine qe ?_|refine qc ?_ _));exact BK237.out) Try.underlying50 rfl (by kernel_rfl)) rfl ?_
                    exact ⟨_,by first|rfl|(simp [errW_none,errW_some] <;> rfl)|(simp [*,errW_none,errW_some] <;> rfl),by (with_reducible repeat (first|apply Kd.R_alloc|apply Kd.R_drewN|apply Kd.R_drew));exact Kd.R_mono (Kd.R_far (p:=⟨gb237,1,none⟩) (Kd.R_far (p:=⟨gb237,0,none⟩) (Kd.R_types HO_245001.out BK237.out (by decide)) (fun _ hk=>hk.2) (.int .i64 t245)) (fun _ hk=>hk.2) (.slice Ao64 x245001_1.length co64)) (fun _ hk=>trivial),by repeat (first|(with_reducible first|exact HB.out|apply qf|apply qa|apply qd|refine qg ?_ (IsS107.ge HI243.out)|refine qg ?_ GE237.out|refine qg ?_ GE244.out)|exact HB.out)⟩
                  · rw [if_neg c60] at H
                    have c60b0 : (t272.toList == a0.toList) = false:=beq_eq_false_iff_ne.mpr c60
                    have c60b1 : (t272.toList != a0.toList) = true:=bne_iff_ne.mpr c60
                    simp only [Option.some.injEq,Prod.mk.injEq] at H
                    obtain ⟨rfl,rfl,rfl⟩:=H
                    have hnb70:=NB244_237.out
                    have hnc70:=NB237_244.out
                    have hnb71:=NB244_243.out
                    have hnc71:=NB243_244.out
                    have hcz72_0 : wc.cell? ⟨gb244,0,none⟩ = some (.int .i64 t245):=(qh BK244.out 0).trans rfl
                    have hcz72_1 : wc.cell? ⟨gb244,1,none⟩ = some (u245001):=(qh BK244.out 1).trans rfl
                    have hfz72_0:=qi BK244.out 0
                    have hfz72_1:=qi BK244.out 1
                    obtain ⟨Ao73,co73,eo73⟩:=Kd.R_slice HO_245001.out
                    subst eo73
                    go_wp2_with (first|((with_reducible refine gate_callee (f:=52) rfl ?_);refine goesL_ (some 59) rfl rfl Try.func52 (by kernel_rfl) rfl #[.agg #[.int .i64 t245,.slice Ao73 x245001_1.length co73]] rfl (by (try simp only [List.map_toArray,List.map_cons,List.map_nil]);first|done|rfl|(simp only [List.length_drop,List.length_take];rfl)) ?_;(with_reducible refine (impl_PageText.calls kj15 t245 _ _ x245001_1 t272 true _ ?side1 ?side2 A56.out).mono ?_);(case side1=>repeat (first|exact (Kd.R_reads' HO_245001.out).2.2|(with_reducible refine Kd.C_alloc ?_ _)|(with_reducible refine Kd.C_drewN ?_ _)|(with_reducible refine Kd.C_drew ?_)));(case side2=>exact (Kd.R_reads' HO_245001.out).2.1);rintro e w74 ⟨rfl,hb⟩;refine ⟨_,rfl,?_⟩;have n0_:=rb_ HO_245001 hb;have n1_:=bb_ BK237 hb;have n2_:=bb_ BK244 hb;have n3_:=qn.mk (IsS107.below (by repeat (first|(with_reducible first|exact HI243.out|apply IsS107.alloc|apply IsS107.drewN|apply IsS107.drew|apply IsS107.set_0|apply IsS107.set_1|apply IsS107.set_2|refine IsS107.far ?_ NB243_237.out _|refine IsS107.far ?_ NB243_244.out _)|exact HI243.out)) hb);have n4_:=qn.mk (qm (by repeat (first|(with_reducible first|exact HB.out|apply qf|apply qa|apply qd|refine qg ?_ (IsS107.ge HI243.out)|refine qg ?_ GE237.out|refine qg ?_ GE244.out)|exact HB.out)) hb);clear HO_245001;clear BK237;clear BK244;clear HI243;clear HB;have HO_245001:=n0_;have BK237:=n1_;have BK244:=n2_;have HI243:=n3_;have HB:=n4_;clear n0_ n1_ n2_ n3_ n4_;(try clear hb);(try clear hb2);(try clear hk);(try clear hi))|((with_reducible refine gate_callee (f:=71) rfl ?_);refine goesL_ (some 63) rfl rfl Try.func71 (by kernel_rfl) rfl #[.pointer (some ⟨g243,0,none⟩)] rfl (by (try simp only [List.map_toArray,List.map_cons,List.map_nil]);first|done|rfl|(simp only [List.length_drop,List.length_take];rfl)) ?_;(with_reducible refine (impl_reader_ends.calls g243 x244000_1 x244001_1 x244002_1 true t275 t276 t277 w _ ?side1 ?side2 A57.out).mono ?_);(case side1=>repeat (first|(with_reducible first|exact HI243.out|apply IsS107.alloc|apply IsS107.drewN|apply IsS107.drew|apply IsS107.set_0|apply IsS107.set_1|apply IsS107.set_2|refine IsS107.far ?_ NB243_237.out _|refine IsS107.far ?_ NB243_244.out _)|exact HI243.out));(case side2=>repeat (first|(with_reducible first|exact HB.out|apply qf|apply qa|apply qd|refine qg ?_ (IsS107.ge HI243.out)|refine qg ?_ GE237.out|refine qg ?_ GE244.out)|exact HB.out));rintro e w75 ⟨rfl,hi,hb,hk⟩;refine ⟨_,rfl,?_⟩;have n0_:=qn.mk (Kd.R_mono (Kd.R_keep (IsS107.apart (show IsS107 w _ g243 x244000_1 x244001_1 x244002_1 from by repeat (first|(with_reducible first|exact HI243.out|apply IsS107.alloc|apply IsS107.drewN|apply IsS107.drew|apply IsS107.set_0|apply IsS107.set_1|apply IsS107.set_2|refine IsS107.far ?_ NB243_237.out _|refine IsS107.far ?_ NB243_244.out _)|exact HI243.out)) (by (with_reducible repeat (first|apply Kd.R_alloc|apply Kd.R_drewN|apply Kd.R_drew));exact HO_245001.out) (by decide)) hk (fun _ h=>h.2)) (fun _ h=>h.1));have n1_:=qn.mk (KeepBut.blk hk (g':=gb237) (o:=.cells #[.int .i64 0,.slice none 0 0] 50 (0,0)) (by (with_reducible repeat (first|refine qb ?_ _|refine qe ?_|refine qc ?_ _));exact BK237.out) NB237_243.out (by simp));have n2_:=qn.mk (KeepBut.blk hk (g':=gb244) (o:=.cells #[.int .i64 t245,.slice Ao73 x245001_1.length co73] 50 (0,0)) (by (with_reducible repeat (first|refine qb ?_ _|refine qe ?_|refine qc ?_ _));exact BK244.out) NB244_243.out (by simp));have n3_:=qn.mk (hb);have n4_:=qn.mk (hi);clear HO_245001;clear BK237;clear BK244;clear HB;clear HI243;have HO_245001:=n0_;have BK237:=n1_;have BK244:=n2_;have HB:=n3_;have HI243:=n4_;clear n0_ n1_ n2_ n3_ n4_;(try clear hb);(try clear hb2);(try clear hk);(try clear hi);have hnb76:=NB237_243.out;have hnc76:=NB243_237.out;have hcz77_0 : w75.cell? ⟨gb237,0,none⟩ = some (.int .i64 0):=(qh BK237.out 0).trans rfl;have hcz77_1 : w75.cell? ⟨gb237,1,none⟩ = some (.slice none 0 0):=(qh BK237.out 1).trans rfl;have hfz77_0:=qi BK237.out 0;have hfz77_1:=qi BK237.out 1))
                    refine bodyPost_ret (results_ct rfl _ _ gb237 50 #[.int .i64 0,.slice none 0 0] (0,0) _ rfl (by (with_reducible repeat (first|refine qb ?_ _|refine qe ?_|refine qc ?_ _));refine blk_put (cs:=#[.int .i64 0,.slice none 0 0]) ?_ 1 _ rfl;(with_reducible repeat (first|refine qb ?_ _|refine qe ?_|refine qc ?_ _));refine blk_put (cs:=#[.int .i64 0,.slice none 0 0]) ?_ 0 _ rfl;(with_reducible repeat (first|refine qb ?_ _|refine qe ?_|refine qc ?_ _));exact BK237.out) Try.underlying50 rfl (by kernel_rfl)) rfl ?_
                    exact ⟨_,by first|rfl|(simp [errW_none,errW_some] <;> rfl)|(simp [*,errW_none,errW_some] <;> rfl),by first|exact Kd.R_nil _ _ _ _ _|exact Kd.N_nil _ _ _ _ _|exact Kd.V_nil _ _ _ _ _|exact Kd.Q_nil _ _ _ _ _|exact Kd.S_nil _ _ _ _ _,by repeat (first|(with_reducible first|exact HB.out|apply qf|apply qa|apply qd|refine qg ?_ (IsS107.ge HI243.out)|refine qg ?_ GE237.out|refine qg ?_ GE244.out)|exact HB.out)⟩
                · replace c59:=Bool.eq_false_iff.mpr c59
                  subst c59
                  have H1 : (some (0,([] : List (S61)),false)) = some (r1,r2,r3):=by rw [if_neg (show ¬ (false = true) by decide)] at H;exact H
                  clear H
                  have H:=H1
                  clear H1
                  simp only [Option.some.injEq,Prod.mk.injEq] at H
                  obtain ⟨rfl,rfl,rfl⟩:=H
                  have hnb78:=NB244_237.out
                  have hnc78:=NB237_244.out
                  have hnb79:=NB244_243.out
                  have hnc79:=NB243_244.out
                  have hcz80_0 : wc.cell? ⟨gb244,0,none⟩ = some (.int .i64 t245):=(qh BK244.out 0).trans rfl
                  have hcz80_1 : wc.cell? ⟨gb244,1,none⟩ = some (u245001):=(qh BK244.out 1).trans rfl
                  have hfz80_0:=qi BK244.out 0
                  have hfz80_1:=qi BK244.out 1
                  obtain ⟨Ao81,co81,eo81⟩:=Kd.R_slice HO_245001.out
                  subst eo81
                  go_wp2_with (first|((with_reducible refine gate_callee (f:=52) rfl ?_);refine goesL_ (some 59) rfl rfl Try.func52 (by kernel_rfl) rfl #[.agg #[.int .i64 t245,.slice Ao81 x245001_1.length co81]] rfl (by (try simp only [List.map_toArray,List.map_cons,List.map_nil]);first|done|rfl|(simp only [List.length_drop,List.length_take];rfl)) ?_;(with_reducible refine (impl_PageText.calls kj15 t245 _ _ x245001_1 t272 false _ ?side1 ?side2 A56.out).mono ?_);(case side1=>repeat (first|exact (Kd.R_reads' HO_245001.out).2.2|(with_reducible refine Kd.C_alloc ?_ _)|(with_reducible refine Kd.C_drewN ?_ _)|(with_reducible refine Kd.C_drew ?_)));(case side2=>exact (Kd.R_reads' HO_245001.out).2.1);rintro e w82 ⟨rfl,hb⟩;refine ⟨_,rfl,?_⟩;have n0_:=rb_ HO_245001 hb;have n1_:=bb_ BK237 hb;have n2_:=bb_ BK244 hb;have n3_:=qn.mk (IsS107.below (by repeat (first|(with_reducible first|exact HI243.out|apply IsS107.alloc|apply IsS107.drewN|apply IsS107.drew|apply IsS107.set_0|apply IsS107.set_1|apply IsS107.set_2|refine IsS107.far ?_ NB243_237.out _|refine IsS107.far ?_ NB243_244.out _)|exact HI243.out)) hb);have n4_:=qn.mk (qm (by repeat (first|(with_reducible first|exact HB.out|apply qf|apply qa|apply qd|refine qg ?_ (IsS107.ge HI243.out)|refine qg ?_ GE237.out|refine qg ?_ GE244.out)|exact HB.out)) hb);clear HO_245001;clear BK237;clear BK244;clear HI243;clear HB;have HO_245001:=n0_;have BK237:=n1_;have BK244:=n2_;have HI243:=n3_;have HB:=n4_;clear n0_ n1_ n2_ n3_ n4_;(try clear hb);(try clear hb2);(try clear hk);(try clear hi))|((with_reducible refine gate_callee (f:=71) rfl ?_);refine goesL_ (some 63) rfl rfl Try.func71 (by kernel_rfl) rfl #[.pointer (some ⟨g243,0,none⟩)] rfl (by (try simp only [List.map_toArray,List.map_cons,List.map_nil]);first|done|rfl|(simp only [List.length_drop,List.length_take];rfl)) ?_;(with_reducible refine (impl_reader_ends.calls g243 x244000_1 x244001_1 x244002_1 true t275 t276 t277 w _ ?side1 ?side2 A57.out).mono ?_);(case side1=>repeat (first|(with_reducible first|exact HI243.out|apply IsS107.alloc|apply IsS107.drewN|apply IsS107.drew|apply IsS107.set_0|apply IsS107.set_1|apply IsS107.set_2|refine IsS107.far ?_ NB243_237.out _|refine IsS107.far ?_ NB243_244.out _)|exact HI243.out));(case side2=>repeat (first|(with_reducible first|exact HB.out|apply qf|apply qa|apply qd|refine qg ?_ (IsS107.ge HI243.out)|refine qg ?_ GE237.out|refine qg ?_ GE244.out)|exact HB.out));rintro e w83 ⟨rfl,hi,hb,hk⟩;refine ⟨_,rfl,?_⟩;have n0_:=qn.mk (Kd.R_mono (Kd.R_keep (IsS107.apart (show IsS107 w _ g243 x244000_1 x244001_1 x244002_1 from by repeat (first|(with_reducible first|exact HI243.out|apply IsS107.alloc|apply IsS107.drewN|apply IsS107.drew|apply IsS107.set_0|apply IsS107.set_1|apply IsS107.set_2|refine IsS107.far ?_ NB243_237.out _|refine IsS107.far ?_ NB243_244.out _)|exact HI243.out)) (by (with_reducible repeat (first|apply Kd.R_alloc|apply Kd.R_drewN|apply Kd.R_drew));exact HO_245001.out) (by decide)) hk (fun _ h=>h.2)) (fun _ h=>h.1));have n1_:=qn.mk (KeepBut.blk hk (g':=gb237) (o:=.cells #[.int .i64 0,.slice none 0 0] 50 (0,0)) (by (with_reducible repeat (first|refine qb ?_ _|refine qe ?_|refine qc ?_ _));exact BK237.out) NB237_243.out (by simp));have n2_:=qn.mk (KeepBut.blk hk (g':=gb244) (o:=.cells #[.int .i64 t245,.slice Ao81 x245001_1.length co81] 50 (0,0)) (by (with_reducible repeat (first|refine qb ?_ _|refine qe ?_|refine qc ?_ _));exact BK244.out) NB244_243.out (by simp));have n3_:=qn.mk (hb);have n4_:=qn.mk (hi);clear HO_245001;clear BK237;clear BK244;clear HB;clear HI243;have HO_245001:=n0_;have BK237:=n1_;have BK244:=n2_;have HB:=n3_;have HI243:=n4_;clear n0_ n1_ n2_ n3_ n4_;(try clear hb);(try clear hb2);(try clear hk);(try clear hi);have hnb84:=NB237_243.out;have hnc84:=NB243_237.out;have hcz85_0 : w83.cell? ⟨gb237,0,none⟩ = some (.int .i64 0):=(qh BK237.out 0).trans rfl;have hcz85_1 : w83.cell? ⟨gb237,1,none⟩ = some (.slice none 0 0):=(qh BK237.out 1).trans rfl;have hfz85_0:=qi BK237.out 0;have hfz85_1:=qi BK237.out 1))
                  refine bodyPost_ret (results_ct rfl _ _ gb237 50 #[.int .i64 0,.slice none 0 0] (0,0) _ rfl (by (with_reducible repeat (first|refine qb ?_ _|refine qe ?_|refine qc ?_ _));refine blk_put (cs:=#[.int .i64 0,.slice none 0 0]) ?_ 1 _ rfl;(with_reducible repeat (first|refine qb ?_ _|refine qe ?_|refine qc ?_ _));refine blk_put (cs:=#[.int .i64 0,.slice none 0 0]) ?_ 0 _ rfl;(with_reducible repeat (first|refine qb ?_ _|refine qe ?_|refine qc ?_ _));exact BK237.out) Try.underlying50 rfl (by kernel_rfl)) rfl ?_
                  exact ⟨_,by first|rfl|(simp [errW_none,errW_some] <;> rfl)|(simp [*,errW_none,errW_some] <;> rfl),by first|exact Kd.R_nil _ _ _ _ _|exact Kd.N_nil _ _ _ _ _|exact Kd.V_nil _ _ _ _ _|exact Kd.Q_nil _ _ _ _ _|exact Kd.S_nil _ _ _ _ _,by repeat (first|(with_reducible first|exact HB.out|apply qf|apply qa|apply qd|refine qg ?_ (IsS107.ge HI243.out)|refine qg ?_ GE237.out|refine qg ?_ GE244.out)|exact HB.out)⟩
              · replace c58:=Bool.eq_false_iff.mpr c58
                subst c58
                have H1 : (some (0,([] : List (S61)),false)) = some (r1,r2,r3):=by rw [if_neg (show ¬ (false = true) by decide)] at H;exact H
                clear H
                have H:=H1
                clear H1
                simp only [Option.some.injEq,Prod.mk.injEq] at H
                obtain ⟨rfl,rfl,rfl⟩:=H
                have hnb86:=NB244_237.out
                have hnc86:=NB237_244.out
                have hnb87:=NB244_243.out
                have hnc87:=NB243_244.out
                have hcz88_0 : wc.cell? ⟨gb244,0,none⟩ = some (.int .i64 t245):=(qh BK244.out 0).trans rfl
                have hcz88_1 : wc.cell? ⟨gb244,1,none⟩ = some (u245001):=(qh BK244.out 1).trans rfl
                have hfz88_0:=qi BK244.out 0
                have hfz88_1:=qi BK244.out 1
                obtain ⟨Ao89,co89,eo89⟩:=Kd.R_slice HO_245001.out
                subst eo89
                go_wp2_with (first|((with_reducible refine gate_callee (f:=52) rfl ?_);refine goesL_ (some 59) rfl rfl Try.func52 (by kernel_rfl) rfl #[.agg #[.int .i64 t245,.slice Ao89 x245001_1.length co89]] rfl (by (try simp only [List.map_toArray,List.map_cons,List.map_nil]);first|done|rfl|(simp only [List.length_drop,List.length_take];rfl)) ?_;(with_reducible refine (impl_PageText.calls kj15 t245 _ _ x245001_1 t272 t273 _ ?side1 ?side2 A56.out).mono ?_);(case side1=>repeat (first|exact (Kd.R_reads' HO_245001.out).2.2|(with_reducible refine Kd.C_alloc ?_ _)|(with_reducible refine Kd.C_drewN ?_ _)|(with_reducible refine Kd.C_drew ?_)));(case side2=>exact (Kd.R_reads' HO_245001.out).2.1);rintro e w90 ⟨rfl,hb⟩;refine ⟨_,rfl,?_⟩;have n0_:=rb_ HO_245001 hb;have n1_:=bb_ BK237 hb;have n2_:=bb_ BK244 hb;have n3_:=qn.mk (IsS107.below (by repeat (first|(with_reducible first|exact HI243.out|apply IsS107.alloc|apply IsS107.drewN|apply IsS107.drew|apply IsS107.set_0|apply IsS107.set_1|apply IsS107.set_2|refine IsS107.far ?_ NB243_237.out _|refine IsS107.far ?_ NB243_244.out _)|exact HI243.out)) hb);have n4_:=qn.mk (qm (by repeat (first|(with_reducible first|exact HB.out|apply qf|apply qa|apply qd|refine qg ?_ (IsS107.ge HI243.out)|refine qg ?_ GE237.out|refine qg ?_ GE244.out)|exact HB.out)) hb);clear HO_245001;clear BK237;clear BK244;clear HI243;clear HB;have HO_245001:=n0_;have BK237:=n1_;have BK244:=n2_;have HI243:=n3_;have HB:=n4_;clear n0_ n1_ n2_ n3_ n4_;(try clear hb);(try clear hb2);(try clear hk);(try clear hi))|((with_reducible refine gate_callee (f:=71) rfl ?_);refine goesL_ (some 63) rfl rfl Try.func71 (by kernel_rfl) rfl #[.pointer (some ⟨g243,0,none⟩)] rfl (by (try simp only [List.map_toArray,List.map_cons,List.map_nil]);first|done|rfl|(simp only [List.length_drop,List.length_take];rfl)) ?_;(with_reducible refine (impl_reader_ends.calls g243 x244000_1 x244001_1 x244002_1 false t275 t276 t277 w _ ?side1 ?side2 A57.out).mono ?_);(case side1=>repeat (first|(with_reducible first|exact HI243.out|apply IsS107.alloc|apply IsS107.drewN|apply IsS107.drew|apply IsS107.set_0|apply IsS107.set_1|apply IsS107.set_2|refine IsS107.far ?_ NB243_237.out _|refine IsS107.far ?_ NB243_244.out _)|exact HI243.out));(case side2=>repeat (first|(with_reducible first|exact HB.out|apply qf|apply qa|apply qd|refine qg ?_ (IsS107.ge HI243.out)|refine qg ?_ GE237.out|refine qg ?_ GE244.out)|exact HB.out));rintro e w91 ⟨rfl,hi,hb,hk⟩;refine ⟨_,rfl,?_⟩;have n0_:=qn.mk (Kd.R_mono (Kd.R_keep (IsS107.apart (show IsS107 w _ g243 x244000_1 x244001_1 x244002_1 from by repeat (first|(with_reducible first|exact HI243.out|apply IsS107.alloc|apply IsS107.drewN|apply IsS107.drew|apply IsS107.set_0|apply IsS107.set_1|apply IsS107.set_2|refine IsS107.far ?_ NB243_237.out _|refine IsS107.far ?_ NB243_244.out _)|exact HI243.out)) (by (with_reducible repeat (first|apply Kd.R_alloc|apply Kd.R_drewN|apply Kd.R_drew));exact HO_245001.out) (by decide)) hk (fun _ h=>h.2)) (fun _ h=>h.1));have n1_:=qn.mk (KeepBut.blk hk (g':=gb237) (o:=.cells #[.int .i64 0,.slice none 0 0] 50 (0,0)) (by (with_reducible repeat (first|refine qb ?_ _|refine qe ?_|refine qc ?_ _));exact BK237.out) NB237_243.out (by simp));have n2_:=qn.mk (KeepBut.blk hk (g':=gb244) (o:=.cells #[.int .i64 t245,.slice Ao89 x245001_1.length co89] 50 (0,0)) (by (with_reducible repeat (first|refine qb ?_ _|refine qe ?_|refine qc ?_ _));exact BK244.out) NB244_243.out (by simp));have n3_:=qn.mk (hb);have n4_:=qn.mk (hi);clear HO_245001;clear BK237;clear BK244;clear HB;clear HI243;have HO_245001:=n0_;have BK237:=n1_;have BK244:=n2_;have HB:=n3_;have HI243:=n4_;clear n0_ n1_ n2_ n3_ n4_;(try clear hb);(try clear hb2);(try clear hk);(try clear hi);have hnb92:=NB237_243.out;have hnc92:=NB243_237.out;have hcz93_0 : w91.cell? ⟨gb237,0,none⟩ = some (.int .i64 0):=(qh BK237.out 0).trans rfl;have hcz93_1 : w91.cell? ⟨gb237,1,none⟩ = some (.slice none 0 0):=(qh BK237.out 1).trans rfl;have hfz93_0:=qi BK237.out 0;have hfz93_1:=qi BK237.out 1))
                refine bodyPost_ret (results_ct rfl _ _ gb237 50 #[.int .i64 0,.slice none 0 0] (0,0) _ rfl (by (with_reducible repeat (first|refine qb ?_ _|refine qe ?_|refine qc ?_ _));refine blk_put (cs:=#[.int .i64 0,.slice none 0 0]) ?_ 1 _ rfl;(with_reducible repeat (first|refine qb ?_ _|refine qe ?_|refine qc ?_ _));refine blk_put (cs:=#[.int .i64 0,.slice none 0 0]) ?_ 0 _ rfl;(with_reducible repeat (first|refine qb ?_ _|refine qe ?_|refine qc ?_ _));exact BK237.out) Try.underlying50 rfl (by kernel_rfl)) rfl ?_
                exact ⟨_,by first|rfl|(simp [errW_none,errW_some] <;> rfl)|(simp [*,errW_none,errW_some] <;> rfl),by first|exact Kd.R_nil _ _ _ _ _|exact Kd.N_nil _ _ _ _ _|exact Kd.V_nil _ _ _ _ _|exact Kd.Q_nil _ _ _ _ _|exact Kd.S_nil _ _ _ _ _,by repeat (first|(with_reducible first|exact HB.out|apply qf|apply qa|apply qd|refine qg ?_ (IsS107.ge HI243.out)|refine qg ?_ GE237.out|refine qg ?_ GE244.out)|exact HB.out)⟩
  · replace c3:=Bool.eq_false_iff.mpr c3
    subst c3
    have H1 : (some (0,([] : List (S61)),false)) = some (r1,r2,r3):=by rw [if_neg (show ¬ (false = true) by decide)] at H;exact H
    clear H
    have H:=H1
    clear H1
    simp only [Option.some.injEq,Prod.mk.injEq] at H
    obtain ⟨rfl,rfl,rfl⟩:=H
    go_enter Try.func26,Try.ntmps26
    go_wp2_with (first|((with_reducible refine gate_dst (N:=2) rfl ?_);refine box_event ?hg (N:=2) ?hd (cs:=#[.int .i64 0,.slice none 0 0]) (t:=50) ?hr ?_;(case hd=>rfl);(case hg=>rfl);(case hr=>first|(go_simp;done)|(go_simp;rfl));intro gb237 hg w94 hbox hb;have n0_:=hs_ HB hb;have n1_:=qn.mk (hbox);have n2_:=qn.mk ((by rw [hg];exact (qj (by repeat (first|(with_reducible first|exact HB.out|apply qf|apply qa|apply qd)|exact HB.out))) : w.heap.size ≤ gb237));have n3_:=qn.mk ((by rw [hg];exact (qj (by repeat (first|(with_reducible first|exact HB.out|apply qf|apply qa|apply qd)|exact HB.out))) : w.heap.size ≤ gb237));clear HB;have HB:=n0_;have BK237:=n1_;have GW237:=n2_;have GE237:=n3_;clear n0_ n1_ n2_ n3_;clear hb hbox hg)|((with_reducible refine gate_callee (f:=48) rfl ?_);refine goesL_ (some 14) rfl rfl Try.func48 (by kernel_rfl) rfl #[.string a0] rfl (by (try simp only [List.map_toArray,List.map_cons,List.map_nil]);first|done|rfl|(simp only [List.length_drop,List.length_take];rfl)) ?_;(with_reducible refine (impl_Unsealed.calls k a0 t238 false _ A2.out).mono ?_);rintro e w95 ⟨rfl,hb⟩;refine ⟨_,rfl,?_⟩;have n0_:=bb_ BK237 hb;have n1_:=hs_ HB hb;clear BK237;clear HB;have BK237:=n0_;have HB:=n1_;clear n0_ n1_;(try clear hb);(try clear hb2);(try clear hk);(try clear hi);have hcz96_0 : w95.cell? ⟨gb237,0,none⟩ = some (.int .i64 0):=(qh BK237.out 0).trans rfl;have hcz96_1 : w95.cell? ⟨gb237,1,none⟩ = some (.slice none 0 0):=(qh BK237.out 1).trans rfl;have hfz96_0:=qi BK237.out 0;have hfz96_1:=qi BK237.out 1))
    refine bodyPost_ret (results_ct rfl _ _ gb237 50 #[.int .i64 0,.slice none 0 0] (0,0) _ rfl (by (with_reducible repeat (first|refine qb ?_ _|refine qe ?_|refine qc ?_ _));refine blk_put (cs:=#[.int .i64 0,.slice none 0 0]) ?_ 1 _ rfl;(with_reducible repeat (first|refine qb ?_ _|refine qe ?_|refine qc ?_ _));refine blk_put (cs:=#[.int .i64 0,.slice none 0 0]) ?_ 0 _ rfl;(with_reducible repeat (first|refine qb ?_ _|refine qe ?_|refine qc ?_ _));exact BK237.out) Try.underlying50 rfl (by kernel_rfl)) rfl ?_
    exact ⟨_,by first|rfl|(simp [errW_none,errW_some] <;> rfl)|(simp [*,errW_none,errW_some] <;> rfl),by first|exact Kd.R_nil _ _ _ _ _|exact Kd.N_nil _ _ _ _ _|exact Kd.V_nil _ _ _ _ _|exact Kd.Q_nil _ _ _ _ _|exact Kd.S_nil _ _ _ _ _,by repeat (first|(with_reducible first|exact HB.out|apply qf|apply qa|apply qd|refine qg ?_ GE237.out)|exact HB.out)⟩

/-! ### laws_eqItem: function 107 -/
def laws_eqItem.f (a0_0 : ByteArray) (a0_1 : ByteArray) (a0_2 : Int) (a1_0 : ByteArray) (a1_1 : ByteArray) (a1_2 : Int) : Option (Bool):=if a0_0.toList = a1_0.toList then (if a0_1.toList = a1_1.toList then (if a0_2 = a1_2 then (some true) else (some false)) else (some false)) else (some false)
set_option maxHeartbeats 8000000 in
set_option maxRecDepth 100000 in
theorem laws_eqItem.calls (a0_0 : ByteArray) (a0_1 : ByteArray) (a0_2 : Int) (a1_0 : ByteArray) (a1_1 : ByteArray) (a1_2 : Int) (r : Bool) (w : World) (h : laws_eqItem.f a0_0 a0_1 a0_2 a1_0 a1_1 a1_2 = some r) :
    Calls Try.prog 107 #[.agg #[.string a0_0,.string a0_1,.int .i64 a0_2],.agg #[.string a1_0,.string a1_1,.int .i64 a1_2]] w fun e w'=>e = .returned (.bool r) ∧ Below w.heap.size w w':=by
  have hu61:=Try.underlying61
  have HB:=qn.mk (Below.refl w.heap.size w)
  have H : (if a0_0.toList = a1_0.toList then (if a0_1.toList = a1_1.toList then (if a0_2 = a1_2 then (some true) else (some false)) else (some false)) else (some false)) = some r:=h
  clear h
  by_cases c3 : a0_0.toList = a1_0.toList
  · rw [if_pos c3] at H
    have c3b0 : (a0_0.toList == a1_0.toList) = true:=beq_iff_eq.mpr c3
    have c3b1 : (a0_0.toList != a1_0.toList) = false:=bne_eq_false_iff_eq.mpr c3
    clear c3
    by_cases c4 : a0_1.toList = a1_1.toList
    · rw [if_pos c4] at H
      have c4b0 : (a0_1.toList == a1_1.toList) = true:=beq_iff_eq.mpr c4
      have c4b1 : (a0_1.toList != a1_1.toList) = false:=bne_eq_false_iff_eq.mpr c4
      clear c4
      by_cases c5 : a0_2 = a1_2
      · rw [if_pos c5] at H
        have c5b0 : (a0_2 == a1_2) = true:=beq_iff_eq.mpr c5
        have c5b1 : (a0_2 != a1_2) = false:=bne_eq_false_iff_eq.mpr c5
        clear c5
        obtain rfl:=Option.some.inj H
        go_enter Try.func107,Try.ntmps107
        go_wp2_with (first|((with_reducible refine gate_dst (N:=2) rfl ?_);refine box_event ?hg (N:=2) ?hd (cs:=#[.string a0_0,.string a0_1,.int .i64 a0_2]) (t:=61) ?hr ?_;(case hd=>rfl);(case hg=>rfl);(case hr=>first|(go_simp;done)|(go_simp;rfl));intro gb278 hg w6 hbox hb;have n0_:=hs_ HB hb;have n1_:=qn.mk (hbox);have n2_:=qn.mk ((by rw [hg];exact (qj (by repeat (first|(with_reducible first|exact HB.out|apply qf|apply qa|apply qd)|exact HB.out))) : w.heap.size ≤ gb278));have n3_:=qn.mk ((by rw [hg];exact (qj (by repeat (first|(with_reducible first|exact HB.out|apply qf|apply qa|apply qd)|exact HB.out))) : w.heap.size ≤ gb278));clear HB;have HB:=n0_;have BK278:=n1_;have GW278:=n2_;have GE278:=n3_;clear n0_ n1_ n2_ n3_;clear hb hbox hg)|((with_reducible refine gate_dst (N:=3) rfl ?_);refine box_event ?hg (N:=3) ?hd (cs:=#[.string a1_0,.string a1_1,.int .i64 a1_2]) (t:=61) ?hr ?_;(case hd=>rfl);(case hg=>rfl);(case hr=>first|(go_simp;done)|(go_simp;rfl));intro gb279 hg w7 hbox hb;have n0_:=bb_ BK278 hb;have n1_:=hs_ HB hb;have n2_:=qn.mk (hbox);have n3_:=qn.mk ((by rw [hg];exact (qj (by repeat (first|(with_reducible first|exact HB.out|apply qf|apply qa|apply qd|refine qg ?_ GE278.out)|exact HB.out))) : w.heap.size ≤ gb279));have n4_:=qn.mk ((by rw [hg];exact (qj (by repeat (first|(with_reducible first|exact HB.out|apply qf|apply qa|apply qd|refine qg ?_ GE278.out)|exact HB.out))) : w.heap.size ≤ gb279));have n5_:=qn.mk ((by rw [hg];exact nl_ BK278 : gb278 ≠ gb279));have n6_:=qn.mk ((by rw [hg];exact ng_ BK278 : gb279 ≠ gb278));clear BK278;clear HB;have BK278:=n0_;have HB:=n1_;have BK279:=n2_;have GW279:=n3_;have GE279:=n4_;have NB278_279:=n5_;have NB279_278:=n6_;clear n0_ n1_ n2_ n3_ n4_ n5_ n6_;clear hb hbox hg;have hnb8:=NB278_279.out;have hnc8:=NB279_278.out;have hcz9_0 : w7.cell? ⟨gb278,0,none⟩ = some (.string a0_0):=(qh BK278.out 0).trans rfl;have hcz9_1 : w7.cell? ⟨gb278,1,none⟩ = some (.string a0_1):=(qh BK278.out 1).trans rfl;have hcz9_2 : w7.cell? ⟨gb278,2,none⟩ = some (.int .i64 a0_2):=(qh BK278.out 2).trans rfl;have hfz9_0:=qi BK278.out 0;have hfz9_1:=qi BK278.out 1;have hfz9_2:=qi BK278.out 2;have hcz10_0 : w7.cell? ⟨gb279,0,none⟩ = some (.string a1_0):=(qh BK279.out 0).trans rfl;have hcz10_1 : w7.cell? ⟨gb279,1,none⟩ = some (.string a1_1):=(qh BK279.out 1).trans rfl;have hcz10_2 : w7.cell? ⟨gb279,2,none⟩ = some (.int .i64 a1_2):=(qh BK279.out 2).trans rfl;have hfz10_0:=qi BK279.out 0;have hfz10_1:=qi BK279.out 1;have hfz10_2:=qi BK279.out 2))
        go_ret
        exact ⟨by first|rfl|(simp [errW_none,errW_some] <;> rfl)|(simp [*,errW_none,errW_some] <;> rfl),by repeat (first|(with_reducible first|exact HB.out|apply qf|apply qa|apply qd|refine qg ?_ GE278.out|refine qg ?_ GE279.out)|exact HB.out)⟩
      · rw [if_neg c5] at H
        have c5b0 : (a0_2 == a1_2) = false:=beq_eq_false_iff_ne.mpr c5
        have c5b1 : (a0_2 != a1_2) = true:=bne_iff_ne.mpr c5
        obtain rfl:=Option.some.inj H
        go_enter Try.func107,Try.ntmps107
        go_wp2_with (first|((with_reducible refine gate_dst (N:=2) rfl ?_);refine box_event ?hg (N:=2) ?hd (cs:=#[.string a0_0,.string a0_1,.int .i64 a0_2]) (t:=61) ?hr ?_;(case hd=>rfl);(case hg=>rfl);(case hr=>first|(go_simp;done)|(go_simp;rfl));intro gb278 hg w11 hbox hb;have n0_:=hs_ HB hb;have n1_:=qn.mk (hbox);have n2_:=qn.mk ((by rw [hg];exact (qj (by repeat (first|(with_reducible first|exact HB.out|apply qf|apply qa|apply qd)|exact HB.out))) : w.heap.size ≤ gb278));have n3_:=qn.mk ((by rw [hg];exact (qj (by repeat (first|(with_reducible first|exact HB.out|apply qf|apply qa|apply qd)|exact HB.out))) : w.heap.size ≤ gb278));clear HB;have HB:=n0_;have BK278:=n1_;have GW278:=n2_;have GE278:=n3_;clear n0_ n1_ n2_ n3_;clear hb hbox hg)|((with_reducible refine gate_dst (N:=3) rfl ?_);refine box_event ?hg (N:=3) ?hd (cs:=#[.string a1_0,.string a1_1,.int .i64 a1_2]) (t:=61) ?hr ?_;(case hd=>rfl);(case hg=>rfl);(case hr=>first|(go_simp;done)|(go_simp;rfl));intro gb279 hg w12 hbox hb;have n0_:=bb_ BK278 hb;have n1_:=hs_ HB hb;have n2_:=qn.mk (hbox);have n3_:=qn.mk ((by rw [hg];exact (qj (by repeat (first|(with_reducible first|exact HB.out|apply qf|apply qa|apply qd|refine qg ?_ GE278.out)|exact HB.out))) : w.heap.size ≤ gb279));have n4_:=qn.mk ((by rw [hg];exact (qj (by repeat (first|(with_reducible first|exact HB.out|apply qf|apply qa|apply qd|refine qg ?_ GE278.out)|exact HB.out))) : w.heap.size ≤ gb279));have n5_:=qn.mk ((by rw [hg];exact nl_ BK278 : gb278 ≠ gb279));have n6_:=qn.mk ((by rw [hg];exact ng_ BK278 : gb279 ≠ gb278));clear BK278;clear HB;have BK278:=n0_;have HB:=n1_;have BK279:=n2_;have GW279:=n3_;have GE279:=n4_;have NB278_279:=n5_;have NB279_278:=n6_;clear n0_ n1_ n2_ n3_ n4_ n5_ n6_;clear hb hbox hg;have hnb13:=NB278_279.out;have hnc13:=NB279_278.out;have hcz14_0 : w12.cell? ⟨gb278,0,none⟩ = some (.string a0_0):=(qh BK278.out 0).trans rfl;have hcz14_1 : w12.cell? ⟨gb278,1,none⟩ = some (.string a0_1):=(qh BK278.out 1).trans rfl;have hcz14_2 : w12.cell? ⟨gb278,2,none⟩ = some (.int .i64 a0_2):=(qh BK278.out 2).trans rfl;have hfz14_0:=qi BK278.out 0;have hfz14_1:=qi BK278.out 1;have hfz14_2:=qi BK278.out 2;have hcz15_0 : w12.cell? ⟨gb279,0,none⟩ = some (.string a1_0):=(qh BK279.out 0).trans rfl;have hcz15_1 : w12.cell? ⟨gb279,1,none⟩ = some (.string a1_1):=(qh BK279.out 1).trans rfl;have hcz15_2 : w12.cell? ⟨gb279,2,none⟩ = some (.int .i64 a1_2):=(qh BK279.out 2).trans rfl;have hfz15_0:=qi BK279.out 0;have hfz15_1:=qi BK279.out 1;have hfz15_2:=qi BK279.out 2))
        go_ret
        exact ⟨by first|rfl|(simp [errW_none,errW_some] <;> rfl)|(simp [*,errW_none,errW_some] <;> rfl),by repeat (first|(with_reducible first|exact HB.out|apply qf|apply qa|apply qd|refine qg ?_ GE278.out|refine qg ?_ GE279.out)|exact HB.out)⟩
    · rw [if_neg c4] at H
      have c4b0 : (a0_1.toList == a1_1.toList) = false:=beq_eq_false_iff_ne.mpr c4
      have c4b1 : (a0_1.toList != a1_1.toList) = true:=bne_iff_ne.mpr c4
      obtain rfl:=Option.some.inj H
      go_enter Try.func107,Try.ntmps107
      go_wp2_with (first|((with_reducible refine gate_dst (N:=2) rfl ?_);refine box_event ?hg (N:=2) ?hd (cs:=#[.string a0_0,.string a0_1,.int .i64 a0_2]) (t:=61) ?hr ?_;(case hd=>rfl);(case hg=>rfl);(case hr=>first|(go_simp;done)|(go_simp;rfl));intro gb278 hg w16 hbox hb;have n0_:=hs_ HB hb;have n1_:=qn.mk (hbox);have n2_:=qn.mk ((by rw [hg];exact (qj (by repeat (first|(with_reducible first|exact HB.out|apply qf|apply qa|apply qd)|exact HB.out))) : w.heap.size ≤ gb278));have n3_:=qn.mk ((by rw [hg];exact (qj (by repeat (first|(with_reducible first|exact HB.out|apply qf|apply qa|apply qd)|exact HB.out))) : w.heap.size ≤ gb278));clear HB;have HB:=n0_;have BK278:=n1_;have GW278:=n2_;have GE278:=n3_;clear n0_ n1_ n2_ n3_;clear hb hbox hg)|((with_reducible refine gate_dst (N:=3) rfl ?_);refine box_event ?hg (N:=3) ?hd (cs:=#[.string a1_0,.string a1_1,.int .i64 a1_2]) (t:=61) ?hr ?_;(case hd=>rfl);(case hg=>rfl);(case hr=>first|(go_simp;done)|(go_simp;rfl));intro gb279 hg w17 hbox hb;have n0_:=bb_ BK278 hb;have n1_:=hs_ HB hb;have n2_:=qn.mk (hbox);have n3_:=qn.mk ((by rw [hg];exact (qj (by repeat (first|(with_reducible first|exact HB.out|apply qf|apply qa|apply qd|refine qg ?_ GE278.out)|exact HB.out))) : w.heap.size ≤ gb279));have n4_:=qn.mk ((by rw [hg];exact (qj (by repeat (first|(with_reducible first|exact HB.out|apply qf|apply qa|apply qd|refine qg ?_ GE278.out)|exact HB.out))) : w.heap.size ≤ gb279));have n5_:=qn.mk ((by rw [hg];exact nl_ BK278 : gb278 ≠ gb279));have n6_:=qn.mk ((by rw [hg];exact ng_ BK278 : gb279 ≠ gb278));clear BK278;clear HB;have BK278:=n0_;have HB:=n1_;have BK279:=n2_;have GW279:=n3_;have GE279:=n4_;have NB278_279:=n5_;have NB279_278:=n6_;clear n0_ n1_ n2_ n3_ n4_ n5_ n6_;clear hb hbox hg;have hnb18:=NB278_279.out;have hnc18:=NB279_278.out;have hcz19_0 : w17.cell? ⟨gb278,0,none⟩ = some (.string a0_0):=(qh BK278.out 0).trans rfl;have hcz19_1 : w17.cell? ⟨gb278,1,none⟩ = some (.string a0_1):=(qh BK278.out 1).trans rfl;have hcz19_2 : w17.cell? ⟨gb278,2,none⟩ = some (.int .i64 a0_2):=(qh BK278.out 2).trans rfl;have hfz19_0:=qi BK278.out 0;have hfz19_1:=qi BK278.out 1;have hfz19_2:=qi BK278.out 2;have hcz20_0 : w17.cell? ⟨gb279,0,none⟩ = some (.string a1_0):=(qh BK279.out 0).trans rfl;have hcz20_1 : w17.cell? ⟨gb279,1,none⟩ = some (.string a1_1):=(qh BK279.out 1).trans rfl;have hcz20_2 : w17.cell? ⟨gb279,2,none⟩ = some (.int .i64 a1_2):=(qh BK279.out 2).trans rfl;have hfz20_0:=qi BK279.out 0;have hfz20_1:=qi BK279.out 1;have hfz20_2:=qi BK279.out 2))
      go_ret
      exact ⟨by first|rfl|(simp [errW_none,errW_some] <;> rfl)|(simp [*,errW_none,errW_some] <;> rfl),by repeat (first|(with_reducible first|exact HB.out|apply qf|apply qa|apply qd|refine qg ?_ GE278.out|refine qg ?_ GE279.out)|exact HB.out)⟩
  · rw [if_neg c3] at H
    have c3b0 : (a0_0.toList == a1_0.toList) = false:=beq_eq_false_iff_ne.mpr c3
    have c3b1 : (a0_0.toList != a1_0.toList) = true:=bne_iff_ne.mpr c3
    obtain rfl:=Option.some.inj H
    go_enter Try.func107,Try.ntmps107
    go_wp2_with (first|((with_reducible refine gate_dst (N:=2) rfl ?_);refine box_event ?hg (N:=2) ?hd (cs:=#[.string a0_0,.string a0_1,.int .i64 a0_2]) (t:=61) ?hr ?_;(case hd=>rfl);(case hg=>rfl);(case hr=>first|(go_simp;done)|(go_simp;rfl));intro gb278 hg w21 hbox hb;have n0_:=hs_ HB hb;have n1_:=qn.mk (hbox);have n2_:=qn.mk ((by rw [hg];exact (qj (by repeat (first|(with_reducible first|exact HB.out|apply qf|apply qa|apply qd)|exact HB.out))) : w.heap.size ≤ gb278));have n3_:=qn.mk ((by rw [hg];exact (qj (by repeat (first|(with_reducible first|exact HB.out|apply qf|apply qa|apply qd)|exact HB.out))) : w.heap.size ≤ gb278));clear HB;have HB:=n0_;have BK278:=n1_;have GW278:=n2_;have GE278:=n3_;clear n0_ n1_ n2_ n3_;clear hb hbox hg)|((with_reducible refine gate_dst (N:=3) rfl ?_);refine box_event ?hg (N:=3) ?hd (cs:=#[.string a1_0,.string a1_1,.int .i64 a1_2]) (t:=61) ?hr ?_;(case hd=>rfl);(case hg=>rfl);(case hr=>first|(go_simp;done)|(go_simp;rfl));intro gb279 hg w22 hbox hb;have n0_:=bb_ BK278 hb;have n1_:=hs_ HB hb;have n2_:=qn.mk (hbox);have n3_:=qn.mk ((by rw [hg];exact (qj (by repeat (first|(with_reducible first|exact HB.out|apply qf|apply qa|apply qd|refine qg ?_ GE278.out)|exact HB.out))) : w.heap.size ≤ gb279));have n4_:=qn.mk ((by rw [hg];exact (qj (by repeat (first|(with_reducible first|exact HB.out|apply qf|apply qa|apply qd|refine qg ?_ GE278.out)|exact HB.out))) : w.heap.size ≤ gb279));have n5_:=qn.mk ((by rw [hg];exact nl_ BK278 : gb278 ≠ gb279));have n6_:=qn.mk ((by rw [hg];exact ng_ BK278 : gb279 ≠ gb278));clear BK278;clear HB;have BK278:=n0_;have HB:=n1_;have BK279:=n2_;have GW279:=n3_;have GE279:=n4_;have NB278_279:=n5_;have NB279_278:=n6_;clear n0_ n1_ n2_ n3_ n4_ n5_ n6_;clear hb hbox hg;have hnb23:=NB278_279.out;have hnc23:=NB279_278.out;have hcz24_0 : w22.cell? ⟨gb278,0,none⟩ = some (.string a0_0):=(qh BK278.out 0).trans rfl;have hcz24_1 : w22.cell? ⟨gb278,1,none⟩ = some (.string a0_1):=(qh BK278.out 1).trans rfl;have hcz24_2 : w22.cell? ⟨gb278,2,none⟩ = some (.int .i64 a0_2):=(qh BK278.out 2).trans rfl;have hfz24_0:=qi BK278.out 0;have hfz24_1:=qi BK278.out 1;have hfz24_2:=qi BK278.out 2;have hcz25_0 : w22.cell? ⟨gb279,0,none⟩ = some (.string a1_0):=(qh BK279.out 0).trans rfl;have hcz25_1 : w22.cell? ⟨gb279,1,none⟩ = some (.string a1_1):=(qh BK279.out 1).trans rfl;have hcz25_2 : w22.cell? ⟨gb279,2,none⟩ = some (.int .i64 a1_2):=(qh BK279.out 2).trans rfl;have hfz25_0:=qi BK279.out 0;have hfz25_1:=qi BK279.out 1;have hfz25_2:=qi BK279.out 2))
    go_ret
    exact ⟨by first|rfl|(simp [errW_none,errW_some] <;> rfl)|(simp [*,errW_none,errW_some] <;> rfl),by repeat (first|(with_reducible first|exact HB.out|apply qf|apply qa|apply qd|refine qg ?_ GE278.out|refine qg ?_ GE279.out)|exact HB.out)⟩

/-! ### laws_eqItemS: function 72 -/
def laws_eqItemS.l0 : Nat → List (S61) → List (S61) → Int → Option (Bool)
  | 0,_,_,_=>none
  | k + 1,x0,x1,x5=>if x5 < (x0.length : Int) then (if 0 ≤ x5 then (if x5 < (x1.length : Int) then ((laws_eqItem.f ((rd_T61 x0 x5).f0) ((rd_T61 x0 x5).f1) ((rd_T61 x0 x5).f2) ((rd_T61 x1 x5).f0) ((rd_T61 x1 x5).f1) ((rd_T61 x1 x5).f2)).bind fun t282=>(if t282 = true then (laws_eqItemS.l0 k x0 x1 (wrap64 (x5 + 1))) else (some false))) else (none)) else (none)) else (some true)
def laws_eqItemS.f (k : Nat) (l0 : List (S61)) (l1 : List (S61)) : Option (Bool):=if (l0.length : Int) = (l1.length : Int) then (laws_eqItemS.l0 k l0 l1 0) else (some false)
theorem laws_eqItemS.mono_l : ∀ k,(∀ y0 y1 y2,LeO (laws_eqItemS.l0 k y0 y1 y2) (laws_eqItemS.l0 (k + 1) y0 y1 y2))
  | 0=>fun _ _ _ r h=>by simp [laws_eqItemS.l0] at h
  | k + 1=>by
    have ih0:=laws_eqItemS.mono_l k
    · intro y0 y1 y2
      unfold laws_eqItemS.l0
      repeat' first
      | (with_reducible exact ih0 _ _ _)
      | (with_reducible exact LeO.refl _)
      | (with_reducible exact LeO.none _)
      | (with_reducible refine LeO.ite ?_ ?_)
      | (with_reducible refine LeO.bind ?_ (fun _=>?_))
      | exact ih0 _ _ _
      | exact LeO.none _
      | refine LeO.ite ?_ ?_
      | refine LeO.bind ?_ (fun _=>?_)
theorem laws_eqItemS.mono : ∀ a0 a1 k,LeO (laws_eqItemS.f k a0 a1) (laws_eqItemS.f (k + 1) a0 a1):=by
  intro a0 a1 k
  have ih0:=laws_eqItemS.mono_l k
  unfold laws_eqItemS.f
  repeat' first
      | (with_reducible exact ih0 _ _ _)
      | (with_reducible exact LeO.refl _)
      | (with_reducible exact LeO.none _)
      | (with_reducible refine LeO.ite ?_ ?_)
      | (with_reducible refine LeO.bind ?_ (fun _=>?_))
      | exact ih0 _ _ _
      | exact LeO.none _
      | refine LeO.ite ?_ ?_
      | refine LeO.bind ?_ (fun _=>?_)
def laws_eqItemS.T6 : Bool × List (List Nat × List Nat):=(true,[([],[]),([],[]),([0,1],[0,1]),([2],[2]),([],[]),([],[]),([4,5],[4,5]),([6],[6]),([3,7],[3,7]),([8],[8])])
def laws_eqItemS.B6 : List Nat:=[0,0,3,7,0,0,48,112,255,511]
theorem laws_eqItemS.tab6 : rtab .any (opsOf Try.f72 6) = laws_eqItemS.T6:=by kernel_rfl
theorem laws_eqItemS.bits6 : waitsOk laws_eqItemS.T6.2 laws_eqItemS.B6 = true:=by kernel_rfl
set_option maxHeartbeats 8000000 in
set_option maxRecDepth 100000 in
theorem laws_eqItemS.calls (k : Nat) (A0 : Option Addr) (c0 : Nat) (l0 : List (S61)) (A1 : Option Addr) (c1 : Nat) (l1 : List (S61)) (r : Bool) (w : World) (hr0 : Kd.C k61 w A0 l0.length l0) (hc0 : l0.length ≤ c0) (hr1 : Kd.C k61 w A1 l1.length l1) (hc1 : l1.length ≤ c1) (h : laws_eqItemS.f k l0 l1 = some r) :
    Calls Try.prog 72 #[.slice A0 l0.length c0,.slice A1 l1.length c1] w fun e w'=>e = .returned (.bool r) ∧ Below w.heap.size w w':=by
  have hu61:=Try.underlying61
  have HR0:=qn.mk hr0
  have HC0:=qn.mk hc0
  clear hr0 hc0
  have HR1:=qn.mk hr1
  have HC1:=qn.mk hc1
  clear hr1 hc1
  have HB:=qn.mk (Below.refl w.heap.size w)
  have H : (if (l0.length : Int) = (l1.length : Int) then (laws_eqItemS.l0 k l0 l1 0) else (some false)) = some r:=h
  clear h
  by_cases c3 : (l0.length : Int) = (l1.length : Int)
  · rw [if_pos c3] at H
    have c3b0 : ((l0.length : Int) == (l1.length : Int)) = true:=beq_iff_eq.mpr c3
    have c3b1 : ((l0.length : Int) != (l1.length : Int)) = false:=bne_eq_false_iff_eq.mpr c3
    have c3b2 : (l0.length == l1.length) = true:=by first|simpa using c3|(simp at c3 ⊢;omega)
    clear c3
    have H':=qn.mk H
    clear H
    go_enter Try.func72,Try.ntmps72
    go_wp2
    go_loopg [5] k (fun kq v5 w'=>∃ (x5_1 : Int),v5 = .int .i64 x5_1 ∧ qn (laws_eqItemS.l0 kq l0 l1 x5_1 = some r) ∧ qn (kq ≤ k) ∧ qn (Below w.heap.size w w'))
    case atStart=>exact ⟨(0),(by first|rfl|(simp;done)|(simp [*];done)),H',⟨Nat.le_refl _⟩,⟨by repeat (first|(with_reducible first|exact HB.out|apply qf|apply qa|apply qd)|exact HB.out)⟩⟩
    case round =>
      clear H'
      try clear c1
      try clear p2
      try clear c3
      try clear c3b0
      try clear c3b1
      try clear c3b2
      obtain ⟨x5_1,rfl,HA,HK1,HB⟩:=hrel
      cases gk with
      | zero=>exact absurd HA.out (by simp [laws_eqItemS.l0])
      | succ k1 =>
        have H:=HA.out
        clear HA
        simp only [laws_eqItemS.l0] at H
        by_cases c4 : x5_1 < (l0.length : Int)
        · rw [if_pos c4] at H
          have c4b0 : decide (x5_1 < (l0.length : Int)) = true:=decide_eq_true c4
          clear c4
          by_cases c5 : 0 ≤ x5_1
          · rw [if_pos c5] at H
            have c5b0 : decide (0 ≤ x5_1) = true:=decide_eq_true c5
            clear c5
            by_cases c6 : x5_1 < (l1.length : Int)
            · rw [if_pos c6] at H
              have c6b0 : decide (x5_1 < (l1.length : Int)) = true:=decide_eq_true c6
              clear c6
              replace H:=Option.bind_eq_some_iff.mp H
              obtain ⟨t282,A70,H⟩:=H
              replace H : (if t282 = true then (laws_eqItemS.l0 k1 l0 l1 (wrap64 (x5_1 + 1))) else (some false)) = some r:=H
              have A7:=qn.mk A70
              clear A70
              by_cases c8 : t282 = true
              · subst c8
                have H1 : (laws_eqItemS.l0 k1 l0 l1 (wrap64 (x5_1 + 1))) = some r:=by rw [if_pos rfl] at H;exact H
                clear H
                have H:=H1
                clear H1
                have H':=qn.mk H
                clear H
                try go_wp2
                have n0_:=qn.mk (qd HB.out)
                clear HB
                have HB:=n0_
                clear n0_
                have p280 : 0 ≤ (x5_1 : Int):=of_decide_eq_true (by first|(with_reducible assumption)|assumption)
                have q280 : x5_1 < (l0.length : Int):=of_decide_eq_true (by first|(with_reducible assumption)|assumption)
                obtain ⟨ad280,e280,hx280_0,hx280_1,hx280_2⟩:=at_T61 HR0.out x5_1 p280 q280
                have hw280_2:=hx280_2
                have hw280_1:=hx280_1
                have hw280_0:=hx280_0
                cases e280
                replace hx280_0:=cb_ HB hx280_0
                replace hx280_1:=cb_ HB hx280_1
                replace hx280_2:=cb_ HB hx280_2
                replace p280:=eq_true p280
                replace q280:=eq_true q280
                have p281 : 0 ≤ (x5_1 : Int):=of_decide_eq_true (by first|(with_reducible assumption)|assumption)
                have q281 : x5_1 < (l1.length : Int):=of_decide_eq_true (by first|(with_reducible assumption)|assumption)
                obtain ⟨ad281,e281,hx281_0,hx281_1,hx281_2⟩:=at_T61 HR1.out x5_1 p281 q281
                have hw281_2:=hx281_2
                have hw281_1:=hx281_1
                have hw281_0:=hx281_0
                cases e281
                replace hx281_0:=cb_ HB hx281_0
                replace hx281_1:=cb_ HB hx281_1
                replace hx281_2:=cb_ HB hx281_2
                replace p281:=eq_true p281
                replace q281:=eq_true q281
                refine start_ (n:=10) (S:=fun w'=>w'.cell? (ad280.add ((x5_1).toNat * 3)) = some (.string ((rd_T61 l0 x5_1).f0)) ∧ w'.cell? ⟨(ad280.add ((x5_1).toNat * 3)).block,(ad280.add ((x5_1).toNat * 3)).off + 1,none⟩ = some (.string ((rd_T61 l0 x5_1).f1)) ∧ w'.cell? ⟨(ad280.add ((x5_1).toNat * 3)).block,(ad280.add ((x5_1).toNat * 3)).off + 2,none⟩ = some (.int .i64 ((rd_T61 l0 x5_1).f2)) ∧ w'.cell? (ad281.add ((x5_1).toNat * 3)) = some (.string ((rd_T61 l1 x5_1).f0)) ∧ w'.cell? ⟨(ad281.add ((x5_1).toNat * 3)).block,(ad281.add ((x5_1).toNat * 3)).off + 1,none⟩ = some (.string ((rd_T61 l1 x5_1).f1)) ∧ w'.cell? ⟨(ad281.add ((x5_1).toNat * 3)).block,(ad281.add ((x5_1).toNat * 3)).off + 2,none⟩ = some (.int .i64 ((rd_T61 l1 x5_1).f2))) (ds:=[]) #[false,false,false,false,false,false,false,false,false,false] (by kernel_rfl) rfl rfl ⟨(cb_ HB hw280_0:),(cb_ HB hw280_1:),(cb_ HB hw280_2:),(cb_ HB hw281_0:),(cb_ HB hw281_1:),(cb_ HB hw281_2:)⟩ (fun hHeld=>?_);refine with_tabW laws_eqItemS.tab6 laws_eqItemS.bits6 (fun HT_ HW_=>?_)
                generalize wr.drew = w9 at HB hx280_0 hx280_1 hx280_2 hx281_0 hx281_1 hx281_2 hHeld ⊢
                refine pure_ (i:=0) (N:=some 17) (v:=?_) (a':=?_) #[true,false,false,false,false,false,false,false,false,false] rfl rfl (any_of HT_.out (by kernel_rfl)) (fun _ _ _ h=>h) (Or.inl ⟨by rfl,?_⟩) ?_ ?_
                rotate_left
                · intro w'
                  go_simp
                  with_reducible rfl
                rotate_left
                · simp only [Act.put,List.setIfInBounds_toArray,List.set_cons_zero,List.set_cons_succ,i64_w,i32_w]
                  rfl
                refine pure_ (i:=1) (N:=some 18) (v:=?_) (a':=?_) #[true,true,false,false,false,false,false,false,false,false] rfl rfl (any_of HT_.out (by kernel_rfl)) (fun _ _ _ h=>h) (Or.inl ⟨by rfl,?_⟩) ?_ ?_
                rotate_left
                · intro w'
                  go_simp
                  with_reducible rfl
                rotate_left
                · simp only [Act.put,List.setIfInBounds_toArray,List.set_cons_zero,List.set_cons_succ,i64_w,i32_w]
                  rfl
                refine pure_ (i:=2) (N:=some 19) (v:=?_) (a':=?_) #[true,true,true,false,false,false,false,false,false,false] rfl rfl (any_of HT_.out (by kernel_rfl)) (fun _ _ _ h=>h) (Or.inl ⟨by rfl,?_⟩) ?_ ?_
                rotate_left
                · intro w'
                  go_simp
                  with_reducible rfl
                rotate_left
                · simp only [Act.put,List.setIfInBounds_toArray,List.set_cons_zero,List.set_cons_succ,i64_w,i32_w]
                  rfl
                refine pure_ (i:=4) (N:=some 21) (v:=?_) (a':=?_) #[true,true,true,false,true,false,false,false,false,false] rfl rfl (any_of HT_.out (by kernel_rfl)) (fun _ _ _ h=>h) (Or.inl ⟨by rfl,?_⟩) ?_ ?_
                rotate_left
                · intro w'
                  go_simp
                  with_reducible rfl
                rotate_left
                · simp only [Act.put,List.setIfInBounds_toArray,List.set_cons_zero,List.set_cons_succ,i64_w,i32_w]
                  rfl
                refine pure_ (i:=5) (N:=some 22) (v:=?_) (a':=?_) #[true,true,true,false,true,true,false,false,false,false] rfl rfl (any_of HT_.out (by kernel_rfl)) (fun _ _ _ h=>h) (Or.inl ⟨by rfl,?_⟩) ?_ ?_
                rotate_left
                · intro w'
                  go_simp
                  with_reducible rfl
                rotate_left
                · simp only [Act.put,List.setIfInBounds_toArray,List.set_cons_zero,List.set_cons_succ,i64_w,i32_w]
                  rfl
                refine pure_ (i:=6) (N:=some 23) (v:=?_) (a':=?_) #[true,true,true,false,true,true,true,false,false,false] rfl rfl (any_of HT_.out (by kernel_rfl)) (fun _ _ _ h=>h) (Or.inl ⟨by rfl,?_⟩) ?_ ?_
                rotate_left
                · intro w'
                  go_simp
                  with_reducible rfl
                rotate_left
                · simp only [Act.put,List.setIfInBounds_toArray,List.set_cons_zero,List.set_cons_succ,i64_w,i32_w]
                  rfl
                refine take_ (i:=3) (N:=some 20) (v:=?_) (a':=?_) #[true,true,true,true,true,true,true,false,false,false] rfl rfl (take_ofW HT_.out HW_.out (by kernel_rfl)) (fun _ _ _ h=>h) (Or.inl ⟨by rfl,?_⟩) hHeld ?_ ?_
                rotate_left
                · rintro w' ⟨s0,s1,s2,s3,s4,s5⟩
                  go_simp
                  with_reducible rfl
                rotate_left
                · simp only [Act.put,List.setIfInBounds_toArray,List.set_cons_zero,List.set_cons_succ,i64_w,i32_w]
                  rfl
                refine take_ (i:=7) (N:=some 24) (v:=?_) (a':=?_) #[true,true,true,true,true,true,true,true,false,false] rfl rfl (take_ofW HT_.out HW_.out (by kernel_rfl)) (fun _ _ _ h=>h) (Or.inl ⟨by rfl,?_⟩) hHeld ?_ ?_
                rotate_left
                · rintro w' ⟨s0,s1,s2,s3,s4,s5⟩
                  go_simp
                  with_reducible rfl
                rotate_left
                · simp only [Act.put,List.setIfInBounds_toArray,List.set_cons_zero,List.set_cons_succ,i64_w,i32_w]
                  rfl
                refine one_ (i:=8) (N:=some 25) #[true,true,true,true,true,true,true,true,true,false] rfl rfl (one_of HT_.out (by kernel_rfl)) (by decide) (fun K hK=>?_)
                refine goes_ Try.func107 (by kernel_rfl) rfl #[.agg #[.string ((rd_T61 l0 x5_1).f0),.string ((rd_T61 l0 x5_1).f1),.int .i64 ((rd_T61 l0 x5_1).f2)],.agg #[.string ((rd_T61 l1 x5_1).f0),.string ((rd_T61 l1 x5_1).f1),.int .i64 ((rd_T61 l1 x5_1).f2)]] (by rfl) rfl rfl (by (try simp only [List.map_toArray,List.map_cons,List.map_nil]);first|done|rfl|(simp only [List.length_drop,List.length_take];rfl)) ?_
                with_reducible refine (laws_eqItem.calls ((rd_T61 l0 x5_1).f0) ((rd_T61 l0 x5_1).f1) ((rd_T61 l0 x5_1).f2) ((rd_T61 l1 x5_1).f0) ((rd_T61 l1 x5_1).f1) ((rd_T61 l1 x5_1).f2) true _ A7.out).mono ?_
                rintro e w10 ⟨rfl,hb⟩
                refine ⟨_,rfl,?_⟩
                have n0_:=hs_ HB hb
                clear HB
                have HB:=n0_
                clear n0_
                (try clear hb)
                (try clear hb2)
                (try clear hk)
                (try clear hi)
                refine hK.out _ _ ⟨(cb_ HB hw280_0:),(cb_ HB hw280_1:),(cb_ HB hw280_2:),(cb_ HB hw281_0:),(cb_ HB hw281_1:),(cb_ HB hw281_2:)⟩ (fun hHeld=>?_)
                clear hK K
                refine norm_ (a':=?_) ?_ ?_
                rotate_left
                · show Act.put _ (some 25) _ = _
                  simp only [Act.put,List.setIfInBounds_toArray,List.set_cons_zero,List.set_cons_succ,i64_w,i32_w]
                  rfl
                refine pure_ (i:=9) (N:=some 26) (v:=?_) (a':=?_) #[true,true,true,true,true,true,true,true,true,true] rfl rfl (any_of HT_.out (by kernel_rfl)) (fun _ _ _ h=>h) (Or.inl ⟨by rfl,?_⟩) ?_ ?_
                rotate_left
                · intro w'
                  go_simp
                  with_reducible rfl
                rotate_left
                · simp only [Act.put,List.setIfInBounds_toArray,List.set_cons_zero,List.set_cons_succ,i64_w,i32_w]
                  rfl
                refine done_ (done_of HT_.out (by kernel_rfl)) ?_
                try go_wp2
                go_roundg k1
                case measure=>have:=HK1.out;omega
                case rel=>exact ⟨(wrap64 (x5_1 + 1)),(by first|rfl|(simp;done)|(simp [*];done)),H',⟨by have:=HK1.out;omega⟩,⟨by repeat (first|(with_reducible first|exact HB.out|apply qf|apply qa|apply qd)|exact HB.out)⟩⟩
              · replace c8:=Bool.eq_false_iff.mpr c8
                subst c8
                have H1 : (some false) = some r:=by rw [if_neg (show ¬ (false = true) by decide)] at H;exact H
                clear H
                have H:=H1
                clear H1
                obtain rfl:=Option.some.inj H
                try go_wp2
                have n0_:=qn.mk (qd HB.out)
                clear HB
                have HB:=n0_
                clear n0_
                have p280 : 0 ≤ (x5_1 : Int):=of_decide_eq_true (by first|(with_reducible assumption)|assumption)
                have q280 : x5_1 < (l0.length : Int):=of_decide_eq_true (by first|(with_reducible assumption)|assumption)
                obtain ⟨ad280,e280,hx280_0,hx280_1,hx280_2⟩:=at_T61 HR0.out x5_1 p280 q280
                have hw280_2:=hx280_2
                have hw280_1:=hx280_1
                have hw280_0:=hx280_0
                cases e280
                replace hx280_0:=cb_ HB hx280_0
                replace hx280_1:=cb_ HB hx280_1
                replace hx280_2:=cb_ HB hx280_2
                replace p280:=eq_true p280
                replace q280:=eq_true q280
                have p281 : 0 ≤ (x5_1 : Int):=of_decide_eq_true (by first|(with_reducible assumption)|assumption)
                have q281 : x5_1 < (l1.length : Int):=of_decide_eq_true (by first|(with_reducible assumption)|assumption)
                obtain ⟨ad281,e281,hx281_0,hx281_1,hx281_2⟩:=at_T61 HR1.out x5_1 p281 q281
                have hw281_2:=hx281_2
                have hw281_1:=hx281_1
                have hw281_0:=hx281_0
                cases e281
                replace hx281_0:=cb_ HB hx281_0
                replace hx281_1:=cb_ HB hx281_1
                replace hx281_2:=cb_ HB hx281_2
                replace p281:=eq_true p281
                replace q281:=eq_true q281
                refine start_ (n:=10) (S:=fun w'=>w'.cell? (ad280.add ((x5_1).toNat * 3)) = some (.string ((rd_T61 l0 x5_1).f0)) ∧ w'.cell? ⟨(ad280.add ((x5_1).toNat * 3)).block,(ad280.add ((x5_1).toNat * 3)).off + 1,none⟩ = some (.string ((rd_T61 l0 x5_1).f1)) ∧ w'.cell? ⟨(ad280.add ((x5_1).toNat * 3)).block,(ad280.add ((x5_1).toNat * 3)).off + 2,none⟩ = some (.int .i64 ((rd_T61 l0 x5_1).f2)) ∧ w'.cell? (ad281.add ((x5_1).toNat * 3)) = some (.string ((rd_T61 l1 x5_1).f0)) ∧ w'.cell? ⟨(ad281.add ((x5_1).toNat * 3)).block,(ad281.add ((x5_1).toNat * 3)).off + 1,none⟩ = some (.string ((rd_T61 l1 x5_1).f1)) ∧ w'.cell? ⟨(ad281.add ((x5_1).toNat * 3)).block,(ad281.add ((x5_1).toNat * 3)).off + 2,none⟩ = some (.int .i64 ((rd_T61 l1 x5_1).f2))) (ds:=[]) #[false,false,false,false,false,false,false,false,false,false] (by kernel_rfl) rfl rfl ⟨(cb_ HB hw280_0:),(cb_ HB hw280_1:),(cb_ HB hw280_2:),(cb_ HB hw281_0:),(cb_ HB hw281_1:),(cb_ HB hw281_2:)⟩ (fun hHeld=>?_);refine with_tabW laws_eqItemS.tab6 laws_eqItemS.bits6 (fun HT_ HW_=>?_)
                generalize wr.drew = w11 at HB hx280_0 hx280_1 hx280_2 hx281_0 hx281_1 hx281_2 hHeld ⊢
                refine pure_ (i:=0) (N:=some 17) (v:=?_) (a':=?_) #[true,false,false,false,false,false,false,false,false,false] rfl rfl (any_of HT_.out (by kernel_rfl)) (fun _ _ _ h=>h) (Or.inl ⟨by rfl,?_⟩) ?_ ?_
                rotate_left
                · intro w'
                  go_simp
                  with_reducible rfl
                rotate_left
                · simp only [Act.put,List.setIfInBounds_toArray,List.set_cons_zero,List.set_cons_succ,i64_w,i32_w]
                  rfl
                refine pure_ (i:=1) (N:=some 18) (v:=?_) (a':=?_) #[true,true,false,false,false,false,false,false,false,false] rfl rfl (any_of HT_.out (by kernel_rfl)) (fun _ _ _ h=>h) (Or.inl ⟨by rfl,?_⟩) ?_ ?_
                rotate_left
                · intro w'
                  go_simp
                  with_reducible rfl
                rotate_left
                · simp only [Act.put,List.setIfInBounds_toArray,List.set_cons_zero,List.set_cons_succ,i64_w,i32_w]
                  rfl
                refine pure_ (i:=2) (N:=some 19) (v:=?_) (a':=?_) #[true,true,true,false,false,false,false,false,false,false] rfl rfl (any_of HT_.out (by kernel_rfl)) (fun _ _ _ h=>h) (Or.inl ⟨by rfl,?_⟩) ?_ ?_
                rotate_left
                · intro w'
                  go_simp
                  with_reducible rfl
                rotate_left
                · simp only [Act.put,List.setIfInBounds_toArray,List.set_cons_zero,List.set_cons_succ,i64_w,i32_w]
                  rfl
                refine pure_ (i:=4) (N:=some 21) (v:=?_) (a':=?_) #[true,true,true,false,true,false,false,false,false,false] rfl rfl (any_of HT_.out (by kernel_rfl)) (fun _ _ _ h=>h) (Or.inl ⟨by rfl,?_⟩) ?_ ?_
                rotate_left
                · intro w'
                  go_simp
                  with_reducible rfl
                rotate_left
                · simp only [Act.put,List.setIfInBounds_toArray,List.set_cons_zero,List.set_cons_succ,i64_w,i32_w]
                  rfl
                refine pure_ (i:=5) (N:=some 22) (v:=?_) (a':=?_) #[true,true,true,false,true,true,false,false,false,false] rfl rfl (any_of HT_.out (by kernel_rfl)) (fun _ _ _ h=>h) (Or.inl ⟨by rfl,?_⟩) ?_ ?_
                rotate_left
                · intro w'
                  go_simp
                  with_reducible rfl
                rotate_left
                · simp only [Act.put,List.setIfInBounds_toArray,List.set_cons_zero,List.set_cons_succ,i64_w,i32_w]
                  rfl
                refine pure_ (i:=6) (N:=some 23) (v:=?_) (a':=?_) #[true,true,true,false,true,true,true,false,false,false] rfl rfl (any_of HT_.out (by kernel_rfl)) (fun _ _ _ h=>h) (Or.inl ⟨by rfl,?_⟩) ?_ ?_
                rotate_left
                · intro w'
                  go_simp
                  with_reducible rfl
                rotate_left
                · simp only [Act.put,List.setIfInBounds_toArray,List.set_cons_zero,List.set_cons_succ,i64_w,i32_w]
                  rfl
                refine take_ (i:=3) (N:=some 20) (v:=?_) (a':=?_) #[true,true,true,true,true,true,true,false,false,false] rfl rfl (take_ofW HT_.out HW_.out (by kernel_rfl)) (fun _ _ _ h=>h) (Or.inl ⟨by rfl,?_⟩) hHeld ?_ ?_
                rotate_left
                · rintro w' ⟨s0,s1,s2,s3,s4,s5⟩
                  go_simp
                  with_reducible rfl
                rotate_left
                · simp only [Act.put,List.setIfInBounds_toArray,List.set_cons_zero,List.set_cons_succ,i64_w,i32_w]
                  rfl
                refine take_ (i:=7) (N:=some 24) (v:=?_) (a':=?_) #[true,true,true,true,true,true,true,true,false,false] rfl rfl (take_ofW HT_.out HW_.out (by kernel_rfl)) (fun _ _ _ h=>h) (Or.inl ⟨by rfl,?_⟩) hHeld ?_ ?_
                rotate_left
                · rintro w' ⟨s0,s1,s2,s3,s4,s5⟩
                  go_simp
                  with_reducible rfl
                rotate_left
                · simp only [Act.put,List.setIfInBounds_toArray,List.set_cons_zero,List.set_cons_succ,i64_w,i32_w]
                  rfl
                refine one_ (i:=8) (N:=some 25) #[true,true,true,true,true,true,true,true,true,false] rfl rfl (one_of HT_.out (by kernel_rfl)) (by decide) (fun K hK=>?_)
                refine goes_ Try.func107 (by kernel_rfl) rfl #[.agg #[.string ((rd_T61 l0 x5_1).f0),.string ((rd_T61 l0 x5_1).f1),.int .i64 ((rd_T61 l0 x5_1).f2)],.agg #[.string ((rd_T61 l1 x5_1).f0),.string ((rd_T61 l1 x5_1).f1),.int .i64 ((rd_T61 l1 x5_1).f2)]] (by rfl) rfl rfl (by (try simp only [List.map_toArray,List.map_cons,List.map_nil]);first|done|rfl|(simp only [List.length_drop,List.length_take];rfl)) ?_
                with_reducible refine (laws_eqItem.calls ((rd_T61 l0 x5_1).f0) ((rd_T61 l0 x5_1).f1) ((rd_T61 l0 x5_1).f2) ((rd_T61 l1 x5_1).f0) ((rd_T61 l1 x5_1).f1) ((rd_T61 l1 x5_1).f2) false _ A7.out).mono ?_
                rintro e w12 ⟨rfl,hb⟩
                refine ⟨_,rfl,?_⟩
                have n0_:=hs_ HB hb
                clear HB
                have HB:=n0_
                clear n0_
                (try clear hb)
                (try clear hb2)
                (try clear hk)
                (try clear hi)
                refine hK.out _ _ ⟨(cb_ HB hw280_0:),(cb_ HB hw280_1:),(cb_ HB hw280_2:),(cb_ HB hw281_0:),(cb_ HB hw281_1:),(cb_ HB hw281_2:)⟩ (fun hHeld=>?_)
                clear hK K
                refine norm_ (a':=?_) ?_ ?_
                rotate_left
                · show Act.put _ (some 25) _ = _
                  simp only [Act.put,List.setIfInBounds_toArray,List.set_cons_zero,List.set_cons_succ,i64_w,i32_w]
                  rfl
                refine pure_ (i:=9) (N:=some 26) (v:=?_) (a':=?_) #[true,true,true,true,true,true,true,true,true,true] rfl rfl (any_of HT_.out (by kernel_rfl)) (fun _ _ _ h=>h) (Or.inl ⟨by rfl,?_⟩) ?_ ?_
                rotate_left
                · intro w'
                  go_simp
                  with_reducible rfl
                rotate_left
                · simp only [Act.put,List.setIfInBounds_toArray,List.set_cons_zero,List.set_cons_succ,i64_w,i32_w]
                  rfl
                refine done_ (done_of HT_.out (by kernel_rfl)) ?_
                try go_wp2
                go_ret
                exact ⟨by first|rfl|(simp [errW_none,errW_some] <;> rfl)|(simp [*,errW_none,errW_some] <;> rfl),by repeat (first|(with_reducible first|exact HB.out|apply qf|apply qa|apply qd)|exact HB.out)⟩
            · rw [if_neg c6] at H
              exact absurd H (by simp)
          · rw [if_neg c5] at H
            exact absurd H (by simp)
        · rw [if_neg c4] at H
          have c4b0 : decide (x5_1 < (l0.length : Int)) = false:=decide_eq_false c4
          clear c4
          obtain rfl:=Option.some.inj H
          go_wp2
          go_ret
          exact ⟨by first|rfl|(simp [errW_none,errW_some] <;> rfl)|(simp [*,errW_none,errW_some] <;> rfl),by repeat (first|(with_reducible first|exact HB.out|apply qf|apply qa|apply qd)|exact HB.out)⟩
  · rw [if_neg c3] at H
    have c3b0 : ((l0.length : Int) == (l1.length : Int)) = false:=beq_eq_false_iff_ne.mpr c3
    have c3b1 : ((l0.length : Int) != (l1.length : Int)) = true:=bne_iff_ne.mpr c3
    have c3b2 : (l0.length == l1.length) = false:=by first|simpa using c3|(simp at c3 ⊢;omega)
    obtain rfl:=Option.some.inj H
    go_enter Try.func72,Try.ntmps72
    go_wp2
    go_ret
    exact ⟨by first|rfl|(simp [errW_none,errW_some] <;> rfl)|(simp [*,errW_none,errW_some] <;> rfl),by repeat (first|(with_reducible first|exact HB.out|apply qf|apply qa|apply qd)|exact HB.out)⟩

/-! ### laws_eqPage: function 27 -/
def laws_eqPage.f (k : Nat) (a0_0 : Int) (l0_1 : List (S61)) (a1_0 : Int) (l1_1 : List (S61)) : Option (Bool):=if a0_0 = a1_0 then ((laws_eqItemS.f k l0_1 l1_1).bind fun t285=>(if t285 = true then (some true) else (some false))) else (some false)
theorem laws_eqPage.mono : ∀ a0 a1 a2 a3 k,LeO (laws_eqPage.f k a0 a1 a2 a3) (laws_eqPage.f (k + 1) a0 a1 a2 a3):=by
  intro a0 a1 a2 a3 k
  unfold laws_eqPage.f
  repeat' first
      | (with_reducible exact laws_eqItemS.mono _ _ _)
      | (with_reducible exact LeO.refl _)
      | (with_reducible exact LeO.none _)
      | (with_reducible refine LeO.ite ?_ ?_)
      | (with_reducible refine LeO.bind ?_ (fun _=>?_))
      | exact laws_eqItemS.mono _ _ _
      | exact LeO.none _
      | refine LeO.ite ?_ ?_
      | refine LeO.bind ?_ (fun _=>?_)
set_option maxHeartbeats 8000000 in
set_option maxRecDepth 100000 in
theorem laws_eqPage.calls (k : Nat) (a0_0 : Int) (A0_1 : Option Addr) (c0_1 : Nat) (l0_1 : List (S61)) (a1_0 : Int) (A1_1 : Option Addr) (c1_1 : Nat) (l1_1 : List (S61)) (r : Bool) (w : World) (hr0_1 : Kd.C k61 w A0_1 l0_1.length l0_1) (hc0_1 : l0_1.length ≤ c0_1) (hr1_1 : Kd.C k61 w A1_1 l1_1.length l1_1) (hc1_1 : l1_1.length ≤ c1_1) (h : laws_eqPage.f k a0_0 l0_1 a1_0 l1_1 = some r) :
    Calls Try.prog 27 #[.agg #[.int .i64 a0_0,.slice A0_1 l0_1.length c0_1],.agg #[.int .i64 a1_0,.slice A1_1 l1_1.length c1_1]] w fun e w'=>e = .returned (.bool r) ∧ Below w.heap.size w w':=by
  have hu50:=Try.underlying50
  have HR0_1:=qn.mk hr0_1
  have HC0_1:=qn.mk hc0_1
  clear hr0_1 hc0_1
  have HR1_1:=qn.mk hr1_1
  have HC1_1:=qn.mk hc1_1
  clear hr1_1 hc1_1
  have HB:=qn.mk (Below.refl w.heap.size w)
  have H : (if a0_0 = a1_0 then ((laws_eqItemS.f k l0_1 l1_1).bind fun t285=>(if t285 = true then (some true) else (some false))) else (some false)) = some r:=h
  clear h
  by_cases c3 : a0_0 = a1_0
  · rw [if_pos c3] at H
    have c3b0 : (a0_0 == a1_0) = true:=beq_iff_eq.mpr c3
    have c3b1 : (a0_0 != a1_0) = false:=bne_eq_false_iff_eq.mpr c3
    clear c3
    replace H:=Option.bind_eq_some_iff.mp H
    obtain ⟨t285,A40,H⟩:=H
    replace H : (if t285 = true then (some true) else (some false)) = some r:=H
    have A4:=qn.mk A40
    clear A40
    by_cases c5 : t285 = true
    · subst c5
      have H1 : (some true) = some r:=by rw [if_pos rfl] at H;exact H
      clear H
      have H:=H1
      clear H1
      obtain rfl:=Option.some.inj H
      go_enter Try.func27,Try.ntmps27
      go_wp2_with (first|((with_reducible refine gate_dst (N:=2) rfl ?_);refine box_event ?hg (N:=2) ?hd (cs:=#[.int .i64 a0_0,.slice A0_1 l0_1.length c0_1]) (t:=50) ?hr ?_;(case hd=>rfl);(case hg=>rfl);(case hr=>first|(go_simp;done)|(go_simp;rfl));intro gb283 hg w6 hbox hb;have n0_:=hs_ HB hb;have n1_:=qn.mk (hbox);have n2_:=qn.mk ((by rw [hg];exact (qj (by repeat (first|(with_reducible first|exact HB.out|apply qf|apply qa|apply qd)|exact HB.out))) : w.heap.size ≤ gb283));have n3_:=qn.mk ((by rw [hg];exact (qj (by repeat (first|(with_reducible first|exact HB.out|apply qf|apply qa|apply qd)|exact HB.out))) : w.heap.size ≤ gb283));clear HB;have HB:=n0_;have BK283:=n1_;have GW283:=n2_;have GE283:=n3_;clear n0_ n1_ n2_ n3_;clear hb hbox hg)|((with_reducible refine gate_dst (N:=3) rfl ?_);refine box_event ?hg (N:=3) ?hd (cs:=#[.int .i64 a1_0,.slice A1_1 l1_1.length c1_1]) (t:=50) ?hr ?_;(case hd=>rfl);(case hg=>rfl);(case hr=>first|(go_simp;done)|(go_simp;rfl));intro gb284 hg w7 hbox hb;have n0_:=bb_ BK283 hb;have n1_:=hs_ HB hb;have n2_:=qn.mk (hbox);have n3_:=qn.mk ((by rw [hg];exact (qj (by repeat (first|(with_reducible first|exact HB.out|apply qf|apply qa|apply qd|refine qg ?_ GE283.out)|exact HB.out))) : w.heap.size ≤ gb284));have n4_:=qn.mk ((by rw [hg];exact (qj (by repeat (first|(with_reducible first|exact HB.out|apply qf|apply qa|apply qd|refine qg ?_ GE283.out)|exact HB.out))) : w.heap.size ≤ gb284));have n5_:=qn.mk ((by rw [hg];exact nl_ BK283 : gb283 ≠ gb284));have n6_:=qn.mk ((by rw [hg];exact ng_ BK283 : gb284 ≠ gb283));clear BK283;clear HB;have BK283:=n0_;have HB:=n1_;have BK284:=n2_;have GW284:=n3_;have GE284:=n4_;have NB283_284:=n5_;have NB284_283:=n6_;clear n0_ n1_ n2_ n3_ n4_ n5_ n6_;clear hb hbox hg;have hnb8:=NB283_284.out;have hnc8:=NB284_283.out;have hcz9_0 : w7.cell? ⟨gb283,0,none⟩ = some (.int .i64 a0_0):=(qh BK283.out 0).trans rfl;have hcz9_1 : w7.cell? ⟨gb283,1,none⟩ = some (.slice A0_1 l0_1.length c0_1):=(qh BK283.out 1).trans rfl;have hfz9_0:=qi BK283.out 0;have hfz9_1:=qi BK283.out 1;have hcz10_0 : w7.cell? ⟨gb284,0,none⟩ = some (.int .i64 a1_0):=(qh BK284.out 0).trans rfl;have hcz10_1 : w7.cell? ⟨gb284,1,none⟩ = some (.slice A1_1 l1_1.length c1_1):=(qh BK284.out 1).trans rfl;have hfz10_0:=qi BK284.out 0;have hfz10_1:=qi BK284.out 1)|((with_reducible refine gate_callee (f:=72) rfl ?_);refine goesL_ (some 14) rfl rfl Try.func72 (by kernel_rfl) rfl #[.slice A0_1 l0_1.length c0_1,.slice A1_1 l1_1.length c1_1] rfl (by (try simp only [List.map_toArray,List.map_cons,List.map_nil]);first|done|rfl|(simp only [List.length_drop,List.length_take];rfl)) ?_;(with_reducible refine (laws_eqItemS.calls k _ _ l0_1 _ _ l1_1 true _ ?side1 ?side2 ?side3 ?side4 A4.out).mono ?_);(case side1=>repeat (first|exact (Kd.C_below HR0_1.out HB.out)|(with_reducible refine Kd.C_alloc ?_ _)|(with_reducible refine Kd.C_drewN ?_ _)|(with_reducible refine Kd.C_drew ?_)));(case side2=>exact HC0_1.out);(case side3=>repeat (first|exact (Kd.C_below HR1_1.out HB.out)|(with_reducible refine Kd.C_alloc ?_ _)|(with_reducible refine Kd.C_drewN ?_ _)|(with_reducible refine Kd.C_drew ?_)));(case side4=>exact HC1_1.out);rintro e w11 ⟨rfl,hb⟩;refine ⟨_,rfl,?_⟩;have n0_:=bb_ BK283 hb;have n1_:=bb_ BK284 hb;have n2_:=hs_ HB hb;clear BK283;clear BK284;clear HB;have BK283:=n0_;have BK284:=n1_;have HB:=n2_;clear n0_ n1_ n2_;(try clear hb);(try clear hb2);(try clear hk);(try clear hi)))
      go_ret
      exact ⟨by first|rfl|(simp [errW_none,errW_some] <;> rfl)|(simp [*,errW_none,errW_some] <;> rfl),by repeat (first|(with_reducible first|exact HB.out|apply qf|apply qa|apply qd|refine qg ?_ GE283.out|refine qg ?_ GE284.out)|exact HB.out)⟩
    · replace c5:=Bool.eq_false_iff.mpr c5
      subst c5
      have H1 : (some false) = some r:=by rw [if_neg (show ¬ (false = true) by decide)] at H;exact H
      clear H
      have H:=H1
      clear H1
      obtain rfl:=Option.some.inj H
      go_enter Try.func27,Try.ntmps27
      go_wp2_with (first|((with_reducible refine gate_dst (N:=2) rfl ?_);refine box_event ?hg (N:=2) ?hd (cs:=#[.int .i64 a0_0,.slice A0_1 l0_1.length c0_1]) (t:=50) ?hr ?_;(case hd=>rfl);(case hg=>rfl);(case hr=>first|(go_simp;done)|(go_simp;rfl));intro gb283 hg w12 hbox hb;have n0_:=hs_ HB hb;have n1_:=qn.mk (hbox);have n2_:=qn.mk ((by rw [hg];exact (qj (by repeat (first|(with_reducible first|exact HB.out|apply qf|apply qa|apply qd)|exact HB.out))) : w.heap.size ≤ gb283));have n3_:=qn.mk ((by rw [hg];exact (qj (by repeat (first|(with_reducible first|exact HB.out|apply qf|apply qa|apply qd)|exact HB.out))) : w.heap.size ≤ gb283));clear HB;have HB:=n0_;have BK283:=n1_;have GW283:=n2_;have GE283:=n3_;clear n0_ n1_ n2_ n3_;clear hb hbox hg)|((with_reducible refine gate_dst (N:=3) rfl ?_);refine box_event ?hg (N:=3) ?hd (cs:=#[.int .i64 a1_0,.slice A1_1 l1_1.length c1_1]) (t:=50) ?hr ?_;(case hd=>rfl);(case hg=>rfl);(case hr=>first|(go_simp;done)|(go_simp;rfl));intro gb284 hg w13 hbox hb;have n0_:=bb_ BK283 hb;have n1_:=hs_ HB hb;have n2_:=qn.mk (hbox);have n3_:=qn.mk ((by rw [hg];exact (qj (by repeat (first|(with_reducible first|exact HB.out|apply qf|apply qa|apply qd|refine qg ?_ GE283.out)|exact HB.out))) : w.heap.size ≤ gb284));have n4_:=qn.mk ((by rw [hg];exact (qj (by repeat (first|(with_reducible first|exact HB.out|apply qf|apply qa|apply qd|refine qg ?_ GE283.out)|exact HB.out))) : w.heap.size ≤ gb284));have n5_:=qn.mk ((by rw [hg];exact nl_ BK283 : gb283 ≠ gb284));have n6_:=qn.mk ((by rw [hg];exact ng_ BK283 : gb284 ≠ gb283));clear BK283;clear HB;have BK283:=n0_;have HB:=n1_;have BK284:=n2_;have GW284:=n3_;have GE284:=n4_;have NB283_284:=n5_;have NB284_283:=n6_;clear n0_ n1_ n2_ n3_ n4_ n5_ n6_;clear hb hbox hg;have hnb14:=NB283_284.out;have hnc14:=NB284_283.out;have hcz15_0 : w13.cell? ⟨gb283,0,none⟩ = some (.int .i64 a0_0):=(qh BK283.out 0).trans rfl;have hcz15_1 : w13.cell? ⟨gb283,1,none⟩ = some (.slice A0_1 l0_1.length c0_1):=(qh BK283.out 1).trans rfl;have hfz15_0:=qi BK283.out 0;have hfz15_1:=qi BK283.out 1;have hcz16_0 : w13.cell? ⟨gb284,0,none⟩ = some (.int .i64 a1_0):=(qh BK284.out 0).trans rfl;have hcz16_1 : w13.cell? ⟨gb284,1,none⟩ = some (.slice A1_1 l1_1.length c1_1):=(qh BK284.out 1).trans rfl;have hfz16_0:=qi BK284.out 0;have hfz16_1:=qi BK284.out 1)|((with_reducible refine gate_callee (f:=72) rfl ?_);refine goesL_ (some 14) rfl rfl Try.func72 (by kernel_rfl) rfl #[.slice A0_1 l0_1.length c0_1,.slice A1_1 l1_1.length c1_1] rfl (by (try simp only [List.map_toArray,List.map_cons,List.map_nil]);first|done|rfl|(simp only [List.length_drop,List.length_take];rfl)) ?_;(with_reducible refine (laws_eqItemS.calls k _ _ l0_1 _ _ l1_1 false _ ?side1 ?side2 ?side3 ?side4 A4.out).mono ?_);(case side1=>repeat (first|exact (Kd.C_below HR0_1.out HB.out)|(with_reducible refine Kd.C_alloc ?_ _)|(with_reducible refine Kd.C_drewN ?_ _)|(with_reducible refine Kd.C_drew ?_)));(case side2=>exact HC0_1.out);(case side3=>repeat (first|exact (Kd.C_below HR1_1.out HB.out)|(with_reducible refine Kd.C_alloc ?_ _)|(with_reducible refine Kd.C_drewN ?_ _)|(with_reducible refine Kd.C_drew ?_)));(case side4=>exact HC1_1.out);rintro e w17 ⟨rfl,hb⟩;refine ⟨_,rfl,?_⟩;have n0_:=bb_ BK283 hb;have n1_:=bb_ BK284 hb;have n2_:=hs_ HB hb;clear BK283;clear BK284;clear HB;have BK283:=n0_;have BK284:=n1_;have HB:=n2_;clear n0_ n1_ n2_;(try clear hb);(try clear hb2);(try clear hk);(try clear hi)))
      go_ret
      exact ⟨by first|rfl|(simp [errW_none,errW_some] <;> rfl)|(simp [*,errW_none,errW_some] <;> rfl),by repeat (first|(with_reducible first|exact HB.out|apply qf|apply qa|apply qd|refine qg ?_ GE283.out|refine qg ?_ GE284.out)|exact HB.out)⟩
  · rw [if_neg c3] at H
    have c3b0 : (a0_0 == a1_0) = false:=beq_eq_false_iff_ne.mpr c3
    have c3b1 : (a0_0 != a1_0) = true:=bne_iff_ne.mpr c3
    obtain rfl:=Option.some.inj H
    go_enter Try.func27,Try.ntmps27
    go_wp2_with (first|((with_reducible refine gate_dst (N:=2) rfl ?_);refine box_event ?hg (N:=2) ?hd (cs:=#[.int .i64 a0_0,.slice A0_1 l0_1.length c0_1]) (t:=50) ?hr ?_;(case hd=>rfl);(case hg=>rfl);(case hr=>first|(go_simp;done)|(go_simp;rfl));intro gb283 hg w18 hbox hb;have n0_:=hs_ HB hb;have n1_:=qn.mk (hbox);have n2_:=qn.mk ((by rw [hg];exact (qj (by repeat (first|(with_reducible first|exact HB.out|apply qf|apply qa|apply qd)|exact HB.out))) : w.heap.size ≤ gb283));have n3_:=qn.mk ((by rw [hg];exact (qj (by repeat (first|(with_reducible first|exact HB.out|apply qf|apply qa|apply qd)|exact HB.out))) : w.heap.size ≤ gb283));clear HB;have HB:=n0_;have BK283:=n1_;have GW283:=n2_;have GE283:=n3_;clear n0_ n1_ n2_ n3_;clear hb hbox hg)|((with_reducible refine gate_dst (N:=3) rfl ?_);refine box_event ?hg (N:=3) ?hd (cs:=#[.int .i64 a1_0,.slice A1_1 l1_1.length c1_1]) (t:=50) ?hr ?_;(case hd=>rfl);(case hg=>rfl);(case hr=>first|(go_simp;done)|(go_simp;rfl));intro gb284 hg w19 hbox hb;have n0_:=bb_ BK283 hb;have n1_:=hs_ HB hb;have n2_:=qn.mk (hbox);have n3_:=qn.mk ((by rw [hg];exact (qj (by repeat (first|(with_reducible first|exact HB.out|apply qf|apply qa|apply qd|refine qg ?_ GE283.out)|exact HB.out))) : w.heap.size ≤ gb284));have n4_:=qn.mk ((by rw [hg];exact (qj (by repeat (first|(with_reducible first|exact HB.out|apply qf|apply qa|apply qd|refine qg ?_ GE283.out)|exact HB.out))) : w.heap.size ≤ gb284));have n5_:=qn.mk ((by rw [hg];exact nl_ BK283 : gb283 ≠ gb284));have n6_:=qn.mk ((by rw [hg];exact ng_ BK283 : gb284 ≠ gb283));clear BK283;clear HB;have BK283:=n0_;have HB:=n1_;have BK284:=n2_;have GW284:=n3_;have GE284:=n4_;have NB283_284:=n5_;have NB284_283:=n6_;clear n0_ n1_ n2_ n3_ n4_ n5_ n6_;clear hb hbox hg;have hnb20:=NB283_284.out;have hnc20:=NB284_283.out;have hcz21_0 : w19.cell? ⟨gb283,0,none⟩ = some (.int .i64 a0_0):=(qh BK283.out 0).trans rfl;have hcz21_1 : w19.cell? ⟨gb283,1,none⟩ = some (.slice A0_1 l0_1.length c0_1):=(qh BK283.out 1).trans rfl;have hfz21_0:=qi BK283.out 0;have hfz21_1:=qi BK283.out 1;have hcz22_0 : w19.cell? ⟨gb284,0,none⟩ = some (.int .i64 a1_0):=(qh BK284.out 0).trans rfl;have hcz22_1 : w19.cell? ⟨gb284,1,none⟩ = some (.slice A1_1 l1_1.length c1_1):=(qh BK284.out 1).trans rfl;have hfz22_0:=qi BK284.out 0;have hfz22_1:=qi BK284.out 1))
    go_ret
    exact ⟨by first|rfl|(simp [errW_none,errW_some] <;> rfl)|(simp [*,errW_none,errW_some] <;> rfl),by repeat (first|(with_reducible first|exact HB.out|apply qf|apply qa|apply qd|refine qg ?_ GE283.out|refine qg ?_ GE284.out)|exact HB.out)⟩

end Go.Proofs.Ytfmemcffbfahhaa.QFnExactReadPage
