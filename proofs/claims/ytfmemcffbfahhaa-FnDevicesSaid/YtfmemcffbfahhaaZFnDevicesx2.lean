/- Lean functions for the Go functions that the law FnDevices reaches, and that each Go function comes to just its Lean function's answer; by a program of this session. -/
import Derived.Test.YtfmemcffbfahhaaZFnDevicesx0
import Derived.Test.YtfmemcffbfahhaaZFnDevicesx1
namespace Go.Proofs.Ytfmemcffbfahhaa.QFnDevices
open Go.RowKit Go.Proofs.YtfmemcffbfahhaaW.PrintWords Go.Proofs.YtfmemcffbfahhaaW.PrintLast Go.Proofs.YtfmemcffbfahhaaW.PrintMore
attribute [local go_sem] max2_int min2_int max_two min_two max_three min_three max_four min_four   -- for this text's walks alone
set_option linter.unusedVariables false
set_option linter.unusedSimpArgs false

/-! ### spec_DrawRightDevice: function 20 -/
mutual
def spec_DrawRightDevice.l0 : Nat → Int → List Int → Int → Int → List ByteArray → List (S98) → Option (List ByteArray × (List (S98)))
  | 0,_,_,_,_,_,_=>none
  | k + 1,x6,x155000,x155001,x155002,x166000,x166001=>if x6 < (x166000.length : Int) then ((spec_l01Below.f x155000 x155001 x155002 6).bind fun bt166=>((spec_l01Text.f k x155000 bt166.2.1 bt166.2.2 bt166.1).bind fun bt169=>(if 0 ≤ x6 then (spec_DrawRightDevice.l0 k (wrap64 (x6 + 1)) x155000 bt169.2.1 bt169.2.2 (x166000.set (x6 : Int).toNat bt169.1) x166001) else (none)))) else (spec_DrawRightDevice.l1 k 0 x155000 x155001 x155002 x166000 x166001)
def spec_DrawRightDevice.l1 : Nat → Int → List Int → Int → Int → List ByteArray → List (S98) → Option (List ByteArray × (List (S98)))
  | 0,_,_,_,_,_,_=>none
  | k + 1,x7,x155000,x155001,x155002,x166000,x166001=>(spec_l01Below.f x155000 x155001 x155002 7).bind fun bt173=>(if x7 < bt173.1 then ((spec_l01Below.f x155000 bt173.2.1 bt173.2.2 (x166000.length : Int)).bind fun bt176=>((spec_l01Below.f x155000 bt176.2.1 bt176.2.2 6).bind fun bt179=>((spec_l01Text.f k x155000 bt179.2.1 bt179.2.2 bt179.1).bind fun bt182=>(if x166001.length < 5864062014805 then (spec_DrawRightDevice.l1 k (wrap64 (x7 + 1)) x155000 bt182.2.1 bt182.2.2 x166000 (x166001 ++ [(⟨bt176.1,bt182.1⟩ : S98)])) else (none))))) else (some (x166000,x166001)))
end
def spec_DrawRightDevice.f (k : Nat) (l0 : List Int) : Option (List ByteArray × (List (S98))):=(spec_l01New.f k l0).bind fun bt151=>((spec_l01Below.f bt151.1 bt151.2.1 bt151.2.2 8).bind fun bt155=>((spec_DeviceNew.f (wrap64 (1 + bt155.1))).bind fun bt158=>(spec_DrawRightDevice.l0 k 0 bt151.1 bt155.2.1 bt155.2.2 bt158.1 bt158.2.1)))
theorem spec_DrawRightDevice.mono_l : ∀ k,(∀ y0 y1 y2 y3 y4 y5,LeO (spec_DrawRightDevice.l0 k y0 y1 y2 y3 y4 y5) (spec_DrawRightDevice.l0 (k + 1) y0 y1 y2 y3 y4 y5)) ∧ (∀ y0 y1 y2 y3 y4 y5,LeO (spec_DrawRightDevice.l1 k y0 y1 y2 y3 y4 y5) (spec_DrawRightDevice.l1 (k + 1) y0 y1 y2 y3 y4 y5))
  | 0=>⟨fun _ _ _ _ _ _ r h=>by simp [spec_DrawRightDevice.l0] at h,fun _ _ _ _ _ _ r h=>by simp [spec_DrawRightDevice.l1] at h⟩
  | k + 1=>by
    obtain ⟨ih0,ih1⟩:=spec_DrawRightDevice.mono_l k
    refine ⟨?_,?_⟩
    · intro y0 y1 y2 y3 y4 y5
      unfold spec_DrawRightDevice.l0
      repeat' first
      | (with_reducible exact ih0 _ _ _ _ _ _)
      | (with_reducible exact ih1 _ _ _ _ _ _)
      | (with_reducible exact spec_l01New.mono _ _)
      | (with_reducible exact spec_l01Text.mono _ _ _ _ _)
      | (with_reducible exact LeO.refl _)
      | (with_reducible exact LeO.none _)
      | (with_reducible refine LeO.ite ?_ ?_)
      | (with_reducible refine LeO.bind ?_ (fun _=>?_))
      | exact ih0 _ _ _ _ _ _
      | exact ih1 _ _ _ _ _ _
      | exact spec_l01New.mono _ _
      | exact spec_l01Text.mono _ _ _ _ _
      | exact LeO.none _
      | refine LeO.ite ?_ ?_
      | refine LeO.bind ?_ (fun _=>?_)
    · intro y0 y1 y2 y3 y4 y5
      unfold spec_DrawRightDevice.l1
      repeat' first
      | (with_reducible exact ih0 _ _ _ _ _ _)
      | (with_reducible exact ih1 _ _ _ _ _ _)
      | (with_reducible exact spec_l01New.mono _ _)
      | (with_reducible exact spec_l01Text.mono _ _ _ _ _)
      | (with_reducible exact LeO.refl _)
      | (with_reducible exact LeO.none _)
      | (with_reducible refine LeO.ite ?_ ?_)
      | (with_reducible refine LeO.bind ?_ (fun _=>?_))
      | exact ih0 _ _ _ _ _ _
      | exact ih1 _ _ _ _ _ _
      | exact spec_l01New.mono _ _
      | exact spec_l01Text.mono _ _ _ _ _
      | exact LeO.none _
      | refine LeO.ite ?_ ?_
      | refine LeO.bind ?_ (fun _=>?_)
theorem spec_DrawRightDevice.mono : ∀ a0 k,LeO (spec_DrawRightDevice.f k a0) (spec_DrawRightDevice.f (k + 1) a0):=by
  intro a0 k
  obtain ⟨ih0,ih1⟩:=spec_DrawRightDevice.mono_l k
  unfold spec_DrawRightDevice.f
  repeat' first
      | (with_reducible exact ih0 _ _ _ _ _ _)
      | (with_reducible exact ih1 _ _ _ _ _ _)
      | (with_reducible exact spec_l01New.mono _ _)
      | (with_reducible exact spec_l01Text.mono _ _ _ _ _)
      | (with_reducible exact LeO.refl _)
      | (with_reducible exact LeO.none _)
      | (with_reducible refine LeO.ite ?_ ?_)
      | (with_reducible refine LeO.bind ?_ (fun _=>?_))
      | exact ih0 _ _ _ _ _ _
      | exact ih1 _ _ _ _ _ _
      | exact spec_l01New.mono _ _
      | exact spec_l01Text.mono _ _ _ _ _
      | exact LeO.none _
      | refine LeO.ite ?_ ?_
      | refine LeO.bind ?_ (fun _=>?_)
def spec_DrawRightDevice.T6 : Bool × List (List Nat × List Nat):=(true,[([],[]),([0],[0]),([],[]),([],[]),([],[]),([4],[4]),([3,5,5],[3,5]),([1,2,0,1,2,3,4,5,6],[1,2]),([7,6,6,0,1,2,3,4,5,6],[6,7])])
def spec_DrawRightDevice.B6 : List Nat:=[0,1,0,0,0,16,56,127,255]
theorem spec_DrawRightDevice.tab6 : rtab .any (opsOf Try.f20 6) = spec_DrawRightDevice.T6:=by kernel_rfl
theorem spec_DrawRightDevice.bits6 : waitsOk spec_DrawRightDevice.T6.2 spec_DrawRightDevice.B6 = true:=by kernel_rfl
def spec_DrawRightDevice.T10 : Bool × List (List Nat × List Nat):=(true,[([],[]),([0],[0]),([],[]),([],[]),([3],[3]),([4],[4]),([2,5],[2,5]),([],[]),([],[]),([8,6],[8]),([7,9,9],[7,9]),([6,10],[6,10]),([11],[11]),([1,12,10],[1,12]),([0,1,2,3,4,5,6,7,8,9,10,11,12,13],[]),([14,13,13,0,1,2,3,4,5,6,7,8,9,10,11,12,13],[13,14])])
def spec_DrawRightDevice.B10 : List Nat:=[0,1,0,0,8,24,60,0,0,380,1020,2044,4092,8191,16383,32767]
theorem spec_DrawRightDevice.tab10 : rtab .any (opsOf Try.f20 10) = spec_DrawRightDevice.T10:=by kernel_rfl
theorem spec_DrawRightDevice.bits10 : waitsOk spec_DrawRightDevice.T10.2 spec_DrawRightDevice.B10 = true:=by kernel_rfl
set_option maxHeartbeats 8000000 in
set_option maxRecDepth 100000 in
theorem spec_DrawRightDevice.calls (k : Nat) (A0 : Option Addr) (c0 : Nat) (l0 : List Int) (r1 : List ByteArray) (r2 : List (S98)) (w : World) (hr0 : Kd.C (Kd.int .u8) w A0 l0.length l0) (hc0 : l0.length ≤ c0) (h : spec_DrawRightDevice.f k l0 = some (r1,r2)) :
    Calls Try.prog 20 #[.slice A0 l0.length c0] w fun e w'=>∃ v0_ v1_ : Value,e = .returned (.agg #[v0_,v1_]) ∧ Kd.R Kd.string 9 w' w.heap.size (fun _=>True) v0_ r1 ∧ Kd.R k98 98 w' w.heap.size (fun _=>True) v1_ r2 ∧ Below w.heap.size w w':=by
  have hu40:=Try.underlying40
  have hu98:=Try.underlying98
  have HR0:=qn.mk hr0
  have HC0:=qn.mk hc0
  clear hr0 hc0
  have HB:=qn.mk (Below.refl w.heap.size w)
  have H : ((spec_l01New.f k l0).bind fun bt151=>((spec_l01Below.f bt151.1 bt151.2.1 bt151.2.2 8).bind fun bt155=>((spec_DeviceNew.f (wrap64 (1 + bt155.1))).bind fun bt158=>(spec_DrawRightDevice.l0 k 0 bt151.1 bt155.2.1 bt155.2.2 bt158.1 bt158.2.1)))) = some (r1,r2):=h
  clear h
  replace H:=Option.bind_eq_some_iff.mp H
  obtain ⟨⟨t151,t152,t153⟩,A20,H⟩:=H
  replace H : ((spec_l01Below.f t151 t152 t153 8).bind fun bt155=>((spec_DeviceNew.f (wrap64 (1 + bt155.1))).bind fun bt158=>(spec_DrawRightDevice.l0 k 0 t151 bt155.2.1 bt155.2.2 bt158.1 bt158.2.1))) = some (r1,r2):=H
  have A2:=qn.mk A20
  clear A20
  replace H:=Option.bind_eq_some_iff.mp H
  obtain ⟨⟨t155,t156,t157⟩,A30,H⟩:=H
  replace H : ((spec_DeviceNew.f (wrap64 (1 + t155))).bind fun bt158=>(spec_DrawRightDevice.l0 k 0 t151 t156 t157 bt158.1 bt158.2.1)) = some (r1,r2):=H
  have A3:=qn.mk A30
  clear A30
  replace H:=Option.bind_eq_some_iff.mp H
  obtain ⟨⟨t158,t161,t164⟩,A40,H⟩:=H
  replace H : (spec_DrawRightDevice.l0 k 0 t151 t156 t157 t158 t161) = some (r1,r2):=H
  have A4:=qn.mk A40
  clear A40
  have H':=qn.mk H
  clear H
  go_enter Try.func20,Try.ntmps20
  go_wp2_with (first|((with_reducible refine gate_dst (N:=2) rfl ?_);refine box_event ?hg (N:=2) ?hd (cs:=#[.slice none 0 0,.slice none 0 0]) (t:=40) ?hr ?_;(case hd=>rfl);(case hg=>rfl);(case hr=>first|(go_simp;done)|(go_simp;rfl));intro gb150 hg w5 hbox hb;have n0_:=hs_ HB hb;have n1_:=qn.mk (hbox);have n2_:=qn.mk ((by rw [hg];exact (qj (by repeat (first|(with_reducible first|exact HB.out|apply qf|apply qa|apply qd)|exact HB.out))) : w.heap.size ≤ gb150));have n3_:=qn.mk ((by rw [hg];exact (qj (by repeat (first|(with_reducible first|exact HB.out|apply qf|apply qa|apply qd)|exact HB.out))) : w.heap.size ≤ gb150));clear HB;have HB:=n0_;have BK150:=n1_;have GW150:=n2_;have GE150:=n3_;clear n0_ n1_ n2_ n3_;clear hb hbox hg)|((with_reducible refine gate_callee (f:=56) rfl ?_);refine goesL_ (some 9) rfl rfl Try.func56 (by kernel_rfl) rfl #[.slice A0 l0.length c0] rfl (by (try simp only [List.map_toArray,List.map_cons,List.map_nil]);first|done|rfl|(simp only [List.length_drop,List.length_take];rfl)) ?_;(with_reducible refine (spec_l01New.calls k _ _ l0 t151 t152 t153 w _ ?side1 ?side2 ?side3 A2.out).mono ?_);(case side1=>repeat (first|(with_reducible first|exact HB.out|apply qf|apply qa|apply qd|refine qg ?_ GE150.out)|exact HB.out));(case side2=>exact HR0.out);(case side3=>exact HC0.out);rintro e w6 ⟨g154,rfl,hi,hb,hb2⟩;refine ⟨_,rfl,?_⟩;have n0_:=qn.mk (ql (g:=gb150) (o:=.cells #[.slice none 0 0,.slice none 0 0] 40 (0,0)) (by (with_reducible repeat (first|refine qb ?_ _|refine qe ?_|refine qc ?_ _));exact BK150.out) hb2);have n1_:=qn.mk (hb);have n2_:=qn.mk (hi);have n3_:=qn.mk (IsS140.ne_blk hi (ql (g:=gb150) (o:=.cells #[.slice none 0 0,.slice none 0 0] 40 (0,0)) (by (with_reducible repeat (first|refine qb ?_ _|refine qe ?_|refine qc ?_ _));exact BK150.out) hb2) (by decide));have n4_:=qn.mk (Ne.symm (IsS140.ne_blk hi (ql (g:=gb150) (o:=.cells #[.slice none 0 0,.slice none 0 0] 40 (0,0)) (by (with_reducible repeat (first|refine qb ?_ _|refine qe ?_|refine qc ?_ _));exact BK150.out) hb2) (by decide)));clear BK150;clear HB;have BK150:=n0_;have HB:=n1_;have HI154:=n2_;have NB154_150:=n3_;have NB150_154:=n4_;clear n0_ n1_ n2_ n3_ n4_;(try clear hb);(try clear hb2);(try clear hk);(try clear hi))|((with_reducible refine gate_callee (f:=58) rfl ?_);refine goesL_ (some 12) rfl rfl Try.func58 (by kernel_rfl) rfl #[.pointer (some ⟨g154,0,none⟩),.int .i64 8] rfl (by (try simp only [List.map_toArray,List.map_cons,List.map_nil]);first|done|rfl|(simp only [List.length_drop,List.length_take];rfl)) ?_;(with_reducible refine (spec_l01Below.calls g154 t151 t152 t153 8 t155 t156 t157 w _ ?side1 ?side2 A3.out).mono ?_);(case side1=>repeat (first|(with_reducible first|exact HI154.out|apply IsS140.alloc|apply IsS140.drewN|apply IsS140.drew|apply IsS140.set_1|apply IsS140.set_2|refine IsS140.far ?_ NB154_150.out _)|exact HI154.out));(case side2=>repeat (first|(with_reducible first|exact HB.out|apply qf|apply qa|apply qd|refine qg ?_ (IsS140.ge HI154.out)|refine qg ?_ GE150.out)|exact HB.out));rintro e w7 ⟨rfl,hi,hb,hk⟩;refine ⟨_,rfl,?_⟩;have n0_:=qn.mk (KeepBut.blk hk (g':=gb150) (o:=.cells #[.slice none 0 0,.slice none 0 0] 40 (0,0)) (by (with_reducible repeat (first|refine qb ?_ _|refine qe ?_|refine qc ?_ _));exact BK150.out) NB150_154.out (by simp));have n1_:=qn.mk (hb);have n2_:=qn.mk (hi);clear BK150;clear HB;clear HI154;have BK150:=n0_;have HB:=n1_;have HI154:=n2_;clear n0_ n1_ n2_;(try clear hb);(try clear hb2);(try clear hk);(try clear hi))|((with_reducible refine gate_callee (f:=61) rfl ?_);refine goesL_ (some 14) rfl rfl Try.func61 (by kernel_rfl) rfl #[.int .i64 (wrap64 (1 + t155))] rfl (by (try simp only [List.map_toArray,List.map_cons,List.map_nil]);first|done|rfl|(simp only [List.length_drop,List.length_take];rfl)) ?_;(with_reducible refine (spec_DeviceNew.calls (wrap64 (1 + t155)) t158 t161 t164 _ A4.out).mono ?_);rintro e w8 ⟨v159,v162,rfl,ho0,ho1,hb⟩;refine ⟨_,rfl,?_⟩;have n0_:=qn.mk (Kd.R_lower ho0 (qj (by repeat (first|(with_reducible first|exact HB.out|apply qf|apply qa|apply qd|refine qg ?_ (IsS140.ge HI154.out)|refine qg ?_ GE150.out)|exact HB.out))));have n1_:=qn.mk (Kd.R_lower ho1 (qj (by repeat (first|(with_reducible first|exact HB.out|apply qf|apply qa|apply qd|refine qg ?_ (IsS140.ge HI154.out)|refine qg ?_ GE150.out)|exact HB.out))));have n2_:=bb_ BK150 hb;have n3_:=qn.mk (IsS140.below (by repeat (first|(with_reducible first|exact HI154.out|apply IsS140.alloc|apply IsS140.drewN|apply IsS140.drew|apply IsS140.set_1|apply IsS140.set_2|refine IsS140.far ?_ NB154_150.out _)|exact HI154.out)) hb);have n4_:=qn.mk (qm (by repeat (first|(with_reducible first|exact HB.out|apply qf|apply qa|apply qd|refine qg ?_ (IsS140.ge HI154.out)|refine qg ?_ GE150.out)|exact HB.out)) hb);clear BK150;clear HI154;clear HB;have HO160:=n0_;have HO163:=n1_;have BK150:=n2_;have HI154:=n3_;have HB:=n4_;clear n0_ n1_ n2_ n3_ n4_;(try clear hb);(try clear hb2);(try clear hk);(try clear hi);(try clear ho0);(try clear ho1))|((with_reducible refine gate_dst (N:=4) rfl ?_);refine box_event ?hg (N:=4) ?hd (cs:=#[.slice none 0 0,.slice none 0 0]) (t:=40) ?hr ?_;(case hd=>rfl);(case hg=>rfl);(case hr=>first|(go_simp;done)|(go_simp;rfl));intro gb165 hg w9 hbox hb;have n0_:=rb_ HO160 hb;have n1_:=rb_ HO163 hb;have n2_:=bb_ BK150 hb;have n3_:=qn.mk (IsS140.below (by repeat (first|(with_reducible first|exact HI154.out|apply IsS140.alloc|apply IsS140.drewN|apply IsS140.drew|apply IsS140.set_1|apply IsS140.set_2|refine IsS140.far ?_ NB154_150.out _)|exact HI154.out)) hb);have n4_:=qn.mk (qm (by repeat (first|(with_reducible first|exact HB.out|apply qf|apply qa|apply qd|refine qg ?_ (IsS140.ge HI154.out)|refine qg ?_ GE150.out)|exact HB.out)) hb);have n5_:=qn.mk (hbox);have n6_:=qn.mk ((by rw [hg];exact (qj (by repeat (first|(with_reducible first|exact HB.out|apply qf|apply qa|apply qd|refine qg ?_ (IsS140.ge HI154.out)|refine qg ?_ GE150.out)|exact HB.out))) : w.heap.size ≤ gb165));have n7_:=qn.mk ((by rw [hg];exact (qj (by repeat (first|(with_reducible first|exact HB.out|apply qf|apply qa|apply qd|refine qg ?_ (IsS140.ge HI154.out)|refine qg ?_ GE150.out)|exact HB.out))) : w.heap.size ≤ gb165));have n8_:=qn.mk ((by rw [hg];exact nl_ BK150 : gb150 ≠ gb165));have n9_:=qn.mk ((by rw [hg];exact ng_ BK150 : gb165 ≠ gb150));have n10_:=qn.mk ((by rw [hg];exact Nat.ne_of_lt (IsS140.lt (show IsS140 w _ g154 t151 t156 t157 from by repeat (first|(with_reducible first|exact HI154.out|apply IsS140.alloc|apply IsS140.drewN|apply IsS140.drew|apply IsS140.set_1|apply IsS140.set_2|refine IsS140.far ?_ NB154_150.out _)|exact HI154.out))) : g154 ≠ gb165));have n11_:=qn.mk ((by rw [hg];exact Nat.ne_of_gt (IsS140.lt (show IsS140 w _ g154 t151 t156 t157 from by repeat (first|(with_reducible first|exact HI154.out|apply IsS140.alloc|apply IsS140.drewN|apply IsS140.drew|apply IsS140.set_1|apply IsS140.set_2|refine IsS140.far ?_ NB154_150.out _)|exact HI154.out))) : gb165 ≠ g154));clear HO160;clear HO163;clear BK150;clear HI154;clear HB;have HO160:=n0_;have HO163:=n1_;have BK150:=n2_;have HI154:=n3_;have HB:=n4_;have BK165:=n5_;have GW165:=n6_;have GE165:=n7_;have NB150_165:=n8_;have NB165_150:=n9_;have NB154_165:=n10_;have NB165_154:=n11_;clear n0_ n1_ n2_ n3_ n4_ n5_ n6_ n7_ n8_ n9_ n10_ n11_;clear hb hbox hg;obtain ⟨Ao10,co10,eo10⟩:=Kd.R_slice HO160.out;subst eo10;have hnb11:=NB165_150.out;have hnc11:=NB150_165.out;have hnb12:=NB165_154.out;have hnc12:=NB154_165.out;have hcz13_0 : w9.cell? ⟨gb165,0,none⟩ = some (.slice none 0 0):=(qh BK165.out 0).trans rfl;have hcz13_1 : w9.cell? ⟨gb165,1,none⟩ = some (.slice none 0 0):=(qh BK165.out 1).trans rfl;have hfz13_0:=qi BK165.out 0;have hfz13_1:=qi BK165.out 1;obtain ⟨Ao14,co14,eo14⟩:=Kd.R_slice HO163.out;subst eo14))
  go_loopg [6] k (fun kq v6 w'=>∃ (x6_1 : Int) (x155001_1 : Int) (x155002_1 : Int) (x166000_1 : List ByteArray) (u166000 : Value),v6 = .int .i64 x6_1 ∧ qn (spec_DrawRightDevice.l0 kq x6_1 t151 x155001_1 x155002_1 x166000_1 t161 = some (r1,r2)) ∧ qn (kq ≤ k) ∧ qn (Kd.R Kd.string 9 w' w.heap.size (fun _=>True) u166000 x166000_1) ∧ qn (Kd.R k98 98 w' w.heap.size (fun _=>True) (.slice Ao14 t161.length co14) t161) ∧ qn (w'.heap[gb150]? = some (.cells #[(.slice none 0 0),(.slice none 0 0)] 40 (0,0))) ∧ qn (w'.heap[gb165]? = some (.cells #[u166000,(.slice Ao14 t161.length co14)] 40 (0,0))) ∧ qn (IsS140 w w' g154 t151 x155001_1 x155002_1) ∧ qn (Below w.heap.size w w'))
  case atStart=>exact ⟨(0),(t156),(t157),(t158),(.slice Ao10 t158.length co10),(by first|rfl|(simp;done)|(simp [*];done)),H',⟨Nat.le_refl _⟩,⟨by (with_reducible repeat (first|apply Kd.R_alloc|apply Kd.R_drewN|apply Kd.R_drew));exact Kd.R_mono (Kd.R_far (p:=⟨gb165,1,none⟩) (Kd.R_far (p:=⟨gb165,0,none⟩) (Kd.R_types HO160.out BK165.out (by decide)) (fun _ hk=>hk.2) (.slice Ao10 t158.length co10)) (fun _ hk=>hk.2) (.slice Ao14 t161.length co14)) (fun _ hk=>trivial)⟩,⟨by (with_reducible repeat (first|apply Kd.R_alloc|apply Kd.R_drewN|apply Kd.R_drew));exact Kd.R_mono (Kd.R_far (p:=⟨gb165,1,none⟩) (Kd.R_far (p:=⟨gb165,0,none⟩) (Kd.R_types HO163.out BK165.out (by decide)) (fun _ hk=>hk.2) (.slice Ao10 t158.length co10)) (fun _ hk=>hk.2) (.slice Ao14 t161.length co14)) (fun _ hk=>trivial)⟩,⟨by (with_reducible repeat (first|refine qb ?_ _|refine qe ?_|refine qc ?_ _));refine blk_far ?_ NB150_165.out _;(with_reducible repeat (first|refine qb ?_ _|refine qe ?_|refine qc ?_ _));refine blk_far ?_ NB150_165.out _;(with_reducible repeat (first|refine qb ?_ _|refine qe ?_|refine qc ?_ _));exact BK150.out⟩,⟨by (with_reducible repeat (first|refine qb ?_ _|refine qe ?_|refine qc ?_ _));refine blk_put (cs:=#[.slice Ao10 t158.length co10,.slice none 0 0]) ?_ 1 _ rfl;(with_reducible repeat (first|refine qb ?_ _|refine qe ?_|refine qc ?_ _));refine blk_put (cs:=#[.slice none 0 0,.slice none 0 0]) ?_ 0 _ rfl;(with_reducible repeat (first|refine qb ?_ _|refine qe ?_|refine qc ?_ _));exact BK165.out⟩,⟨by repeat (first|(with_reducible first|exact HI154.out|apply IsS140.alloc|apply IsS140.drewN|apply IsS140.drew|apply IsS140.set_1|apply IsS140.set_2|refine IsS140.far ?_ NB154_150.out _|refine IsS140.far ?_ NB154_165.out _)|exact HI154.out)⟩,⟨by repeat (first|(with_reducible first|exact HB.out|apply qf|apply qa|apply qd|refine qg ?_ (IsS140.ge HI154.out)|refine qg ?_ GE150.out|refine qg ?_ GE165.out)|exact HB.out)⟩⟩
  case round =>
    clear H'
    try clear c1
    try clear c2
    try clear p2
    try clear c5
    try clear c6
    try clear p6
    try clear c11
    try clear c12
    try clear hcz13_0
    try clear hcz13_1
    try clear hfz13_0
    try clear hfz13_1
    obtain ⟨x6_1,x155001_1,x155002_1,x166000_1,u166000,rfl,HA,HK1,HO_166000,HO_166001,BK150,BK165,HI154,HB⟩:=hrel
    cases gk with
    | zero=>exact absurd HA.out (by simp [spec_DrawRightDevice.l0])
    | succ k1 =>
      have H:=HA.out
      clear HA
      simp only [spec_DrawRightDevice.l0] at H
      by_cases c15 : x6_1 < (x166000_1.length : Int)
      · rw [if_pos c15] at H
        have c15b0 : decide (x6_1 < (x166000_1.length : Int)) = true:=decide_eq_true c15
        clear c15
        replace H:=Option.bind_eq_some_iff.mp H
        obtain ⟨⟨t166,t167,t168⟩,A160,H⟩:=H
        replace H : ((spec_l01Text.f k1 t151 t167 t168 t166).bind fun bt169=>(if 0 ≤ x6_1 then (spec_DrawRightDevice.l0 k1 (wrap64 (x6_1 + 1)) t151 bt169.2.1 bt169.2.2 (x166000_1.set (x6_1 : Int).toNat bt169.1) t161) else (none))) = some (r1,r2):=H
        have A16:=qn.mk A160
        clear A160
        replace H:=Option.bind_eq_some_iff.mp H
        obtain ⟨⟨t169,t170,t171⟩,A170,H⟩:=H
        replace H : (if 0 ≤ x6_1 then (spec_DrawRightDevice.l0 k1 (wrap64 (x6_1 + 1)) t151 t170 t171 (x166000_1.set (x6_1 : Int).toNat t169) t161) else (none)) = some (r1,r2):=H
        have A17:=qn.mk A170
        clear A170
        by_cases c18 : 0 ≤ x6_1
        · rw [if_pos c18] at H
          have c18b0 : decide (0 ≤ x6_1) = true:=decide_eq_true c18
          clear c18
          obtain ⟨y172,hy172⟩ : ∃ y_ : List ByteArray,y_ = (x166000_1.set (x6_1 : Int).toNat t169):=⟨_,rfl⟩
          replace H : (spec_DrawRightDevice.l0 k1 (wrap64 (x6_1 + 1)) t151 t170 t171 y172 t161) = some (r1,r2):=by first|(rw [hy172];with_reducible exact H)|(have H2_:=(Option.bind_some _ _).symm.trans H;rw [hy172];with_reducible exact H2_)|(have H2_:=(Option.bind_some _ _).symm.trans H;with_reducible exact H2_)|with_reducible exact H|(rw [hy172];exact H)|exact H
          have Ny172:=qn.mk hy172
          clear hy172
          have H':=qn.mk H
          clear H
          have hnb20:=NB165_150.out
          have hnc20:=NB150_165.out
          have hnb21:=NB165_154.out
          have hnc21:=NB154_165.out
          have hcz22_0 : wr.cell? ⟨gb165,0,none⟩ = some (u166000):=(qh BK165.out 0).trans rfl
          have hcz22_1 : wr.cell? ⟨gb165,1,none⟩ = some (.slice Ao14 t161.length co14):=(qh BK165.out 1).trans rfl
          have hfz22_0:=qi BK165.out 0
          have hfz22_1:=qi BK165.out 1
          obtain ⟨Ao23,co23,eo23⟩:=Kd.R_slice HO_166000.out
          subst eo23
          try go_wp2
          have n0_:=qn.mk (Kd.R_drew HO_166000.out)
          have n1_:=qn.mk (Kd.R_drew HO_166001.out)
          have n2_:=qn.mk (qe BK150.out)
          have n3_:=qn.mk (qe BK165.out)
          have n4_:=qn.mk (IsS140.drew HI154.out)
          have n5_:=qn.mk (qd HB.out)
          clear HO_166000
          clear HO_166001
          clear BK150
          clear BK165
          clear HI154
          clear HB
          have HO_166000:=n0_
          have HO_166001:=n1_
          have BK150:=n2_
          have BK165:=n3_
          have HI154:=n4_
          have HB:=n5_
          clear n0_ n1_ n2_ n3_ n4_ n5_
          refine start_ (n:=9) (S:=fun w'=>w'.cell? ⟨gb165,0,none⟩ = some (.slice Ao23 x166000_1.length co23) ∧ w'.cell? ⟨gb165,1,none⟩ = some (.slice Ao14 t161.length co14)) (ds:=[8]) #[false,false,false,false,false,false,false,false,false] (by kernel_rfl) rfl rfl ⟨(qh BK165.out 0).trans rfl,(qh BK165.out 1).trans rfl⟩ (fun hHeld=>?_);refine with_tabW spec_DrawRightDevice.tab6 spec_DrawRightDevice.bits6 (fun HT_ HW_=>?_)
          generalize wr.drew = w24 at HO_166000 HO_166001 BK150 BK165 HI154 HB hHeld ⊢
          refine pure_ (i:=0) (N:=some 24) (v:=?_) (a':=?_) #[true,false,false,false,false,false,false,false,false] rfl rfl (any_of HT_.out (by kernel_rfl)) (fun _ _ _ h=>h) (Or.inl ⟨by rfl,?_⟩) ?_ ?_
          rotate_left
          · intro w'
            go_simp
            with_reducible rfl
          rotate_left
          · simp only [Act.put,List.setIfInBounds_toArray,List.set_cons_zero,List.set_cons_succ,i64_w,i32_w]
            rfl
          refine pure_ (i:=2) (N:=some 26) (v:=?_) (a':=?_) #[true,false,true,false,false,false,false,false,false] rfl rfl (any_of HT_.out (by kernel_rfl)) (fun _ _ _ h=>h) (Or.inl ⟨by rfl,?_⟩) ?_ ?_
          rotate_left
          · intro w'
            go_simp
            with_reducible rfl
          rotate_left
          · simp only [Act.put,List.setIfInBounds_toArray,List.set_cons_zero,List.set_cons_succ,i64_w,i32_w]
            rfl
          refine pure_ (i:=3) (N:=some 27) (v:=?_) (a':=?_) #[true,false,true,true,false,false,false,false,false] rfl rfl (any_of HT_.out (by kernel_rfl)) (fun _ _ _ h=>h) (Or.inl ⟨by rfl,?_⟩) ?_ ?_
          rotate_left
          · intro w'
            go_simp
            with_reducible rfl
          rotate_left
          · simp only [Act.put,List.setIfInBounds_toArray,List.set_cons_zero,List.set_cons_succ,i64_w,i32_w]
            rfl
          refine pure_ (i:=4) (N:=some 28) (v:=?_) (a':=?_) #[true,false,true,true,true,false,false,false,false] rfl rfl (any_of HT_.out (by kernel_rfl)) (fun _ _ _ h=>h) (Or.inl ⟨by rfl,?_⟩) ?_ ?_
          rotate_left
          · intro w'
            go_simp
            with_reducible rfl
          rotate_left
          · simp only [Act.put,List.setIfInBounds_toArray,List.set_cons_zero,List.set_cons_succ,i64_w,i32_w]
            rfl
          refine take_ (i:=1) (N:=some 25) (v:=?_) (a':=?_) #[true,true,true,true,true,false,false,false,false] rfl rfl (take_ofW HT_.out HW_.out (by kernel_rfl)) (fun _ _ _ h=>h) (Or.inl ⟨by rfl,?_⟩) hHeld ?_ ?_
          rotate_left
          · rintro w' ⟨s0,s1⟩
            go_simp
            with_reducible rfl
          rotate_left
          · simp only [Act.put,List.setIfInBounds_toArray,List.set_cons_zero,List.set_cons_succ,i64_w,i32_w]
            rfl
          refine one_ (i:=5) (N:=some 29) #[true,true,true,true,true,true,false,false,false] rfl rfl (one_of HT_.out (by kernel_rfl)) (by decide) (fun K hK=>?_)
          refine goes_ Try.func58 (by kernel_rfl) rfl #[.pointer (some ⟨g154,0,none⟩),.int .i64 6] (by rfl) rfl rfl (by (try simp only [List.map_toArray,List.map_cons,List.map_nil]);first|done|rfl|(simp only [List.length_drop,List.length_take];rfl)) ?_
          with_reducible refine (spec_l01Below.calls g154 t151 x155001_1 x155002_1 6 t166 t167 t168 w _ ?side1 ?side2 A16.out).mono ?_
          (case side1=>repeat (first|(with_reducible first|exact HI154.out|apply IsS140.alloc|apply IsS140.drewN|apply IsS140.drew|apply IsS140.set_1|apply IsS140.set_2|refine IsS140.far ?_ NB154_150.out _|refine IsS140.far ?_ NB154_165.out _)|exact HI154.out))
          (case side2=>repeat (first|(with_reducible first|exact HB.out|apply qf|apply qa|apply qd|refine qg ?_ (IsS140.ge HI154.out)|refine qg ?_ GE150.out|refine qg ?_ GE165.out)|exact HB.out))
          rintro e w25 ⟨rfl,hi,hb,hk⟩
          refine ⟨_,rfl,?_⟩
          have n0_:=qn.mk (Kd.R_mono (Kd.R_keep (IsS140.apart (show IsS140 w _ g154 t151 x155001_1 x155002_1 from by repeat (first|(with_reducible first|exact HI154.out|apply IsS140.alloc|apply IsS140.drewN|apply IsS140.drew|apply IsS140.set_1|apply IsS140.set_2|refine IsS140.far ?_ NB154_150.out _|refine IsS140.far ?_ NB154_165.out _)|exact HI154.out)) (by (with_reducible repeat (first|apply Kd.R_alloc|apply Kd.R_drewN|apply Kd.R_drew));exact HO_166000.out) (by decide)) hk (fun _ h=>h.2)) (fun _ h=>h.1))
          have n1_:=qn.mk (Kd.R_mono (Kd.R_keep (IsS140.apart (show IsS140 w _ g154 t151 x155001_1 x155002_1 from by repeat (first|(with_reducible first|exact HI154.out|apply IsS140.alloc|apply IsS140.drewN|apply IsS140.drew|apply IsS140.set_1|apply IsS140.set_2|refine IsS140.far ?_ NB154_150.out _|refine IsS140.far ?_ NB154_165.out _)|exact HI154.out)) (by (with_reducible repeat (first|apply Kd.R_alloc|apply Kd.R_drewN|apply Kd.R_drew));exact HO_166001.out) (by decide)) hk (fun _ h=>h.2)) (fun _ h=>h.1))
          have n2_:=qn.mk (KeepBut.blk hk (g':=gb150) (o:=.cells #[.slice none 0 0,.slice none 0 0] 40 (0,0)) (by (with_reducible repeat (first|refine qb ?_ _|refine qe ?_|refine qc ?_ _));exact BK150.out) NB150_154.out (by simp))
          have n3_:=qn.mk (KeepBut.blk hk (g':=gb165) (o:=.cells #[.slice Ao23 x166000_1.length co23,.slice Ao14 t161.length co14] 40 (0,0)) (by (with_reducible repeat (first|refine qb ?_ _|refine qe ?_|refine qc ?_ _));exact BK165.out) NB165_154.out (by simp))
          have n4_:=qn.mk (hb)
          have n5_:=qn.mk (hi)
          clear HO_166000
          clear HO_166001
          clear BK150
          clear BK165
          clear HB
          clear HI154
          have HO_166000:=n0_
          have HO_166001:=n1_
          have BK150:=n2_
          have BK165:=n3_
          have HB:=n4_
          have HI154:=n5_
          clear n0_ n1_ n2_ n3_ n4_ n5_
          (try clear hb)
          (try clear hb2)
          (try clear hk)
          (try clear hi)
          refine hK.out _ _ ⟨(qh BK165.out 0).trans rfl,(qh BK165.out 1).trans rfl⟩ (fun hHeld=>?_)
          clear hK K
          refine norm_ (a':=?_) ?_ ?_
          rotate_left
          · show Act.put _ (some 29) _ = _
            simp only [Act.put,List.setIfInBounds_toArray,List.set_cons_zero,List.set_cons_succ,i64_w,i32_w]
            rfl
          refine one_ (i:=6) (N:=some 30) #[true,true,true,true,true,true,true,false,false] rfl rfl (one_of HT_.out (by kernel_rfl)) (by decide) (fun K hK=>?_)
          refine goes_ Try.func62 (by kernel_rfl) rfl #[.pointer (some ⟨g154,0,none⟩),.int .i64 t166] (by rfl) rfl rfl (by (try simp only [List.map_toArray,List.map_cons,List.map_nil]);first|done|rfl|(simp only [List.length_drop,List.length_take];rfl)) ?_
          with_reducible refine (spec_l01Text.calls k1 g154 t151 t167 t168 t166 t169 t170 t171 w _ ?side1 ?side2 A17.out).mono ?_
          (case side1=>repeat (first|(with_reducible first|exact HI154.out|apply IsS140.alloc|apply IsS140.drewN|apply IsS140.drew|apply IsS140.set_1|apply IsS140.set_2|refine IsS140.far ?_ NB154_150.out _|refine IsS140.far ?_ NB154_165.out _)|exact HI154.out))
          (case side2=>repeat (first|(with_reducible first|exact HB.out|apply qf|apply qa|apply qd|refine qg ?_ (IsS140.ge HI154.out)|refine qg ?_ GE150.out|refine qg ?_ GE165.out)|exact HB.out))
          rintro e w26 ⟨rfl,hi,hb,hk⟩
          refine ⟨_,rfl,?_⟩
          have n0_:=qn.mk (Kd.R_mono (Kd.R_keep (IsS140.apart (show IsS140 w _ g154 t151 t167 t168 from by repeat (first|(with_reducible first|exact HI154.out|apply IsS140.alloc|apply IsS140.drewN|apply IsS140.drew|apply IsS140.set_1|apply IsS140.set_2|refine IsS140.far ?_ NB154_150.out _|refine IsS140.far ?_ NB154_165.out _)|exact HI154.out)) (by (with_reducible repeat (first|apply Kd.R_alloc|apply Kd.R_drewN|apply Kd.R_drew));exact HO_166000.out) (by decide)) hk (fun _ h=>h.2)) (fun _ h=>h.1))
          have n1_:=qn.mk (Kd.R_mono (Kd.R_keep (IsS140.apart (show IsS140 w _ g154 t151 t167 t168 from by repeat (first|(with_reducible first|exact HI154.out|apply IsS140.alloc|apply IsS140.drewN|apply IsS140.drew|apply IsS140.set_1|apply IsS140.set_2|refine IsS140.far ?_ NB154_150.out _|refine IsS140.far ?_ NB154_165.out _)|exact HI154.out)) (by (with_reducible repeat (first|apply Kd.R_alloc|apply Kd.R_drewN|apply Kd.R_drew));exact HO_166001.out) (by decide)) hk (fun _ h=>h.2)) (fun _ h=>h.1))
          have n2_:=qn.mk (KeepBut.blk hk (g':=gb150) (o:=.cells #[.slice none 0 0,.slice none 0 0] 40 (0,0)) (by (with_reducible repeat (first|refine qb ?_ _|refine qe ?_|refine qc ?_ _));exact BK150.out) NB150_154.out (by simp))
          have n3_:=qn.mk (KeepBut.blk hk (g':=gb165) (o:=.cells #[.slice Ao23 x166000_1.length co23,.slice Ao14 t161.length co14] 40 (0,0)) (by (with_reducible repeat (first|refine qb ?_ _|refine qe ?_|refine qc ?_ _));exact BK165.out) NB165_154.out (by simp))
          have n4_:=qn.mk (hb)
          have n5_:=qn.mk (hi)
          clear HO_166000
          clear HO_166001
          clear BK150
          clear BK165
          clear HB
          clear HI154
          have HO_166000:=n0_
          have HO_166001:=n1_
          have BK150:=n2_
          have BK165:=n3_
          have HB:=n4_
          have HI154:=n5_
          clear n0_ n1_ n2_ n3_ n4_ n5_
          (try clear hb)
          (try clear hb2)
          (try clear hk)
          (try clear hi)
          have p19 : 0 ≤ (x6_1 : Int):=of_decide_eq_true (by first|(with_reducible assumption)|assumption)
          have q19 : (x6_1 : Int) < ((x166000_1.length : Int) : Int):=of_decide_eq_true (by first|(with_reducible assumption)|assumption)
          obtain ⟨go19,co19,eo19,gb19,gl19,cl19,HG19⟩:=Kd.R_form HO_166000.out (by omega)
          (first|cases eo19|(injection eo19 with ea_ en_ ec_;(first|subst ea_|(injection ea_ with ea_;subst ea_));subst ec_;clear en_))
          have GB19:=qn.mk gb19
          have GG19:=qn.mk HG19
          clear gb19 gl19 HG19
          obtain ⟨hx19_0,hf19_0⟩:=Kd.R_celln (⟨#[]⟩ : ByteArray) HO_166000.out (x6_1 : Int) p19 q19
          replace p19:=eq_true p19
          replace q19:=eq_true q19
          have HN154_go19:=qn.mk (show g154 ≠ go19 from by have h_:=IsS140.own_ne HI154.out HO_166000.out (by decide);intro e_;exact h_ (by rw [e_];rfl))
          have HP27:=Kd.R_putn HO_166000.out (x6_1 : Int) t169
          rw [← Ny172.out] at HP27
          have HQ27:=qn.mk HP27
          clear HP27
          refine hK.out _ _ ⟨(qh BK165.out 0).trans rfl,(qh BK165.out 1).trans rfl⟩ (fun hHeld=>?_)
          clear hK K
          refine norm_ (a':=?_) ?_ ?_
          rotate_left
          · show Act.put _ (some 30) _ = _
            simp only [Act.put,List.setIfInBounds_toArray,List.set_cons_zero,List.set_cons_succ,i64_w,i32_w]
            rfl
          refine pure_ (i:=7) (N:=some 31) (v:=?_) (a':=?_) #[true,true,true,true,true,true,true,true,false] rfl rfl (any_of HT_.out (by kernel_rfl)) (fun _ _ _ h=>h) (Or.inl ⟨by rfl,?_⟩) ?_ ?_
          rotate_left
          · intro w'
            go_simp
            with_reducible rfl
          rotate_left
          · simp only [Act.put,List.setIfInBounds_toArray,List.set_cons_zero,List.set_cons_succ,i64_w,i32_w]
            rfl
          refine last_ (i:=8) (N:=none) #[true,true,true,true,true,true,true,true,true] rfl rfl (one_of HT_.out (by kernel_rfl)) (by decide) (fun K hK=>?_)
          refine skip_ (w1:=?_) (by rfl) rfl ?_ ?_
          rotate_left
          · go_simp
            rfl
          refine hK.out _ _ ?_
          clear hK K
          refine done_ (done_of HT_.out (by kernel_rfl)) ?_
          try go_wp2
          go_roundg k1
          case measure=>have:=HK1.out;omega
          case rel=>exact ⟨(wrap64 (x6_1 + 1)),(t170),(t171),(y172),(.slice (some ⟨go19,0,none⟩) x166000_1.length co23),(by first|rfl|(simp;done)|(simp [*];done)),H',⟨by have:=HK1.out;omega⟩,⟨by (with_reducible repeat (first|apply Kd.R_alloc|apply Kd.R_drewN|apply Kd.R_drew));exact HQ27.out⟩,⟨by (with_reducible repeat (first|apply Kd.R_alloc|apply Kd.R_drewN|apply Kd.R_drew));exact Kd.R_mono (Kd.R_far (p:=⟨go19,(x6_1 : Int).toNat,none⟩) (Kd.R_types HO_166001.out GG19.out (by decide)) (fun _ hk=>hk.2) (.string t169)) (fun _ hk=>trivial)⟩,⟨by (with_reducible repeat (first|refine qb ?_ _|refine qe ?_|refine qc ?_ _));refine blk_far ?_ (by have h_:=Kd.R_ne HO_166000.out BK150.out (by decide);intro e_;exact h_ (by rw [e_];rfl)) _;(with_reducible repeat (first|refine qb ?_ _|refine qe ?_|refine qc ?_ _));exact BK150.out⟩,⟨by (with_reducible repeat (first|refine qb ?_ _|refine qe ?_|refine qc ?_ _));refine blk_far ?_ (by have h_:=Kd.R_ne HO_166000.out BK165.out (by decide);intro e_;exact h_ (by rw [e_];rfl)) _;(with_reducible repeat (first|refine qb ?_ _|refine qe ?_|refine qc ?_ _));exact BK165.out⟩,⟨by repeat (first|(with_reducible first|exact HI154.out|apply IsS140.alloc|apply IsS140.drewN|apply IsS140.drew|apply IsS140.set_1|apply IsS140.set_2|refine IsS140.far ?_ HN154_go19.out _|refine IsS140.far ?_ NB154_150.out _|refine IsS140.far ?_ NB154_165.out _)|exact HI154.out)⟩,⟨by repeat (first|(with_reducible first|exact HB.out|apply qf|apply qa|apply qd|refine qg ?_ GB19.out|refine qg ?_ (IsS140.ge HI154.out)|refine qg ?_ GE150.out|refine qg ?_ GE165.out)|exact HB.out)⟩⟩
        · rw [if_neg c18] at H
          exact absurd H (by simp)
      · rw [if_neg c15] at H
        have c15b0 : decide (x6_1 < (x166000_1.length : Int)) = false:=decide_eq_false c15
        clear c15
        have H':=qn.mk H
        clear H
        have hnb28:=NB165_150.out
        have hnc28:=NB150_165.out
        have hnb29:=NB165_154.out
        have hnc29:=NB154_165.out
        have hcz30_0 : wr.cell? ⟨gb165,0,none⟩ = some (u166000):=(qh BK165.out 0).trans rfl
        have hcz30_1 : wr.cell? ⟨gb165,1,none⟩ = some (.slice Ao14 t161.length co14):=(qh BK165.out 1).trans rfl
        have hfz30_0:=qi BK165.out 0
        have hfz30_1:=qi BK165.out 1
        obtain ⟨Ao31,co31,eo31⟩:=Kd.R_slice HO_166000.out
        subst eo31
        go_wp2
        go_loopg [7] k1 (fun kq v7 w'=>∃ (x7_2 : Int) (x155001_2 : Int) (x155002_2 : Int) (x166001_2 : List (S98)) (u166001 : Value),v7 = .int .i64 x7_2 ∧ qn (spec_DrawRightDevice.l1 kq x7_2 t151 x155001_2 x155002_2 x166000_1 x166001_2 = some (r1,r2)) ∧ qn (kq ≤ k1) ∧ qn (Kd.R Kd.string 9 w' w.heap.size (fun _=>True) (.slice Ao31 x166000_1.length co31) x166000_1) ∧ qn (Kd.R k98 98 w' w.heap.size (fun _=>True) u166001 x166001_2) ∧ qn (w'.heap[gb150]? = some (.cells #[(.slice none 0 0),(.slice none 0 0)] 40 (0,0))) ∧ qn (w'.heap[gb165]? = some (.cells #[(.slice Ao31 x166000_1.length co31),u166001] 40 (0,0))) ∧ qn (IsS140 w w' g154 t151 x155001_2 x155002_2) ∧ qn (Below w.heap.size w w'))
        case atStart=>exact ⟨(0),(x155001_1),(x155002_1),(t161),(.slice Ao14 t161.length co14),(by first|rfl|(simp;done)|(simp [*];done)),H',⟨Nat.le_refl _⟩,⟨by (with_reducible repeat (first|apply Kd.R_alloc|apply Kd.R_drewN|apply Kd.R_drew));exact HO_166000.out⟩,⟨by (with_reducible repeat (first|apply Kd.R_alloc|apply Kd.R_drewN|apply Kd.R_drew));exact HO_166001.out⟩,⟨by (with_reducible repeat (first|refine qb ?_ _|refine qe ?_|refine qc ?_ _));exact BK150.out⟩,⟨by (with_reducible repeat (first|refine qb ?_ _|refine qe ?_|refine qc ?_ _));exact BK165.out⟩,⟨by repeat (first|(with_reducible first|exact HI154.out|apply IsS140.alloc|apply IsS140.drewN|apply IsS140.drew|apply IsS140.set_1|apply IsS140.set_2|refine IsS140.far ?_ NB154_150.out _|refine IsS140.far ?_ NB154_165.out _)|exact HI154.out)⟩,⟨by repeat (first|(with_reducible first|exact HB.out|apply qf|apply qa|apply qd|refine qg ?_ (IsS140.ge HI154.out)|refine qg ?_ GE150.out|refine qg ?_ GE165.out)|exact HB.out)⟩⟩
        case round =>
          clear H'
          try clear c1
          try clear p1
          try clear q1
          try clear hx1
          try clear hf1
          try clear c2
          try clear p2
          try clear c5
          try clear c6
          try clear p6
          try clear c11
          try clear c12
          try clear c15
          try clear c15b0
          try clear c18
          try clear c18b0
          try clear p19
          try clear q19
          try clear hx19
          try clear hf19
          try clear c20
          try clear c21
          try clear c28
          try clear c29
          try clear hcz13_0
          try clear hcz13_1
          try clear hcz22_0
          try clear hcz22_1
          try clear hcz30_0
          try clear hcz30_1
          try clear hfz13_0
          try clear hfz13_1
          try clear hfz22_0
          try clear hfz22_1
          try clear hfz30_0
          try clear hfz30_1
          try clear hx19_0
          try clear p19
          try clear p2
          try clear p6
          try clear q19
          obtain ⟨x7_2,x155001_2,x155002_2,x166001_2,u166001,rfl,HA,HK2,HO_166000,HO_166001,BK150,BK165,HI154,HB⟩:=hrel
          cases gk with
          | zero=>exact absurd HA.out (by simp [spec_DrawRightDevice.l1])
          | succ k2 =>
            have H:=HA.out
            clear HA
            simp only [spec_DrawRightDevice.l1] at H
            replace H:=Option.bind_eq_some_iff.mp H
            obtain ⟨⟨t173,t174,t175⟩,A320,H⟩:=H
            replace H : (if x7_2 < t173 then ((spec_l01Below.f t151 t174 t175 (x166000_1.length : Int)).bind fun bt176=>((spec_l01Below.f t151 bt176.2.1 bt176.2.2 6).bind fun bt179=>((spec_l01Text.f k2 t151 bt179.2.1 bt179.2.2 bt179.1).bind fun bt182=>(if x166001_2.length < 5864062014805 then (spec_DrawRightDevice.l1 k2 (wrap64 (x7_2 + 1)) t151 bt182.2.1 bt182.2.2 x166000_1 (x166001_2 ++ [(⟨bt176.1,bt182.1⟩ : S98)])) else (none))))) else (some (x166000_1,x166001_2))) = some (r1,r2):=H
            have A32:=qn.mk A320
            clear A320
            by_cases c33 : x7_2 < t173
            · rw [if_pos c33] at H
              have c33b0 : decide (x7_2 < t173) = true:=decide_eq_true c33
              clear c33
              replace H:=Option.bind_eq_some_iff.mp H
              obtain ⟨⟨t176,t177,t178⟩,A340,H⟩:=H
              replace H : ((spec_l01Below.f t151 t177 t178 6).bind fun bt179=>((spec_l01Text.f k2 t151 bt179.2.1 bt179.2.2 bt179.1).bind fun bt182=>(if x166001_2.length < 5864062014805 then (spec_DrawRightDevice.l1 k2 (wrap64 (x7_2 + 1)) t151 bt182.2.1 bt182.2.2 x166000_1 (x166001_2 ++ [(⟨t176,bt182.1⟩ : S98)])) else (none)))) = some (r1,r2):=H
              have A34:=qn.mk A340
              clear A340
              replace H:=Option.bind_eq_some_iff.mp H
              obtain ⟨⟨t179,t180,t181⟩,A350,H⟩:=H
              replace H : ((spec_l01Text.f k2 t151 t180 t181 t179).bind fun bt182=>(if x166001_2.length < 5864062014805 then (spec_DrawRightDevice.l1 k2 (wrap64 (x7_2 + 1)) t151 bt182.2.1 bt182.2.2 x166000_1 (x166001_2 ++ [(⟨t176,bt182.1⟩ : S98)])) else (none))) = some (r1,r2):=H
              have A35:=qn.mk A350
              clear A350
              replace H:=Option.bind_eq_some_iff.mp H
              obtain ⟨⟨t182,t183,t184⟩,A360,H⟩:=H
              replace H : (if x166001_2.length < 5864062014805 then (spec_DrawRightDevice.l1 k2 (wrap64 (x7_2 + 1)) t151 t183 t184 x166000_1 (x166001_2 ++ [(⟨t176,t182⟩ : S98)])) else (none)) = some (r1,r2):=H
              have A36:=qn.mk A360
              clear A360
              by_cases c37 : x166001_2.length < 5864062014805
              · rw [if_pos c37] at H
                have LMc37:=qn.mk c37
                clear c37
                obtain ⟨y185,hy185⟩ : ∃ y_ : List (S98),y_ = (x166001_2 ++ [(⟨t176,t182⟩ : S98)]):=⟨_,rfl⟩
                replace H : (spec_DrawRightDevice.l1 k2 (wrap64 (x7_2 + 1)) t151 t183 t184 x166000_1 y185) = some (r1,r2):=by first|(rw [hy185];with_reducible exact H)|(have H2_:=(Option.bind_some _ _).symm.trans H;rw [hy185];with_reducible exact H2_)|(have H2_:=(Option.bind_some _ _).symm.trans H;with_reducible exact H2_)|with_reducible exact H|(rw [hy185];exact H)|exact H
                have Ny185:=qn.mk hy185
                clear hy185
                have H':=qn.mk H
                clear H
                try go_wp2_with (first|((with_reducible refine gate_callee (f:=58) rfl ?_);refine goesL_ (some 34) rfl rfl Try.func58 (by kernel_rfl) rfl #[.pointer (some ⟨g154,0,none⟩),.int .i64 7] rfl (by (try simp only [List.map_toArray,List.map_cons,List.map_nil]);first|done|rfl|(simp only [List.length_drop,List.length_take];rfl)) ?_;(with_reducible refine (spec_l01Below.calls g154 t151 x155001_2 x155002_2 7 t173 t174 t175 w _ ?side1 ?side2 A32.out).mono ?_);(case side1=>repeat (first|(with_reducible first|exact HI154.out|apply IsS140.alloc|apply IsS140.drewN|apply IsS140.drew|apply IsS140.set_1|apply IsS140.set_2|refine IsS140.far ?_ NB154_150.out _|refine IsS140.far ?_ NB154_165.out _)|exact HI154.out));(case side2=>repeat (first|(with_reducible first|exact HB.out|apply qf|apply qa|apply qd|refine qg ?_ (IsS140.ge HI154.out)|refine qg ?_ GE150.out|refine qg ?_ GE165.out)|exact HB.out));rintro e w38 ⟨rfl,hi,hb,hk⟩;refine ⟨_,rfl,?_⟩;have n0_:=qn.mk (Kd.R_mono (Kd.R_keep (IsS140.apart (show IsS140 w _ g154 t151 x155001_2 x155002_2 from by repeat (first|(with_reducible first|exact HI154.out|apply IsS140.alloc|apply IsS140.drewN|apply IsS140.drew|apply IsS140.set_1|apply IsS140.set_2|refine IsS140.far ?_ NB154_150.out _|refine IsS140.far ?_ NB154_165.out _)|exact HI154.out)) (by (with_reducible repeat (first|apply Kd.R_alloc|apply Kd.R_drewN|apply Kd.R_drew));exact HO_166000.out) (by decide)) hk (fun _ h=>h.2)) (fun _ h=>h.1));have n1_:=qn.mk (Kd.R_mono (Kd.R_keep (IsS140.apart (show IsS140 w _ g154 t151 x155001_2 x155002_2 from by repeat (first|(with_reducible first|exact HI154.out|apply IsS140.alloc|apply IsS140.drewN|apply IsS140.drew|apply IsS140.set_1|apply IsS140.set_2|refine IsS140.far ?_ NB154_150.out _|refine IsS140.far ?_ NB154_165.out _)|exact HI154.out)) (by (with_reducible repeat (first|apply Kd.R_alloc|apply Kd.R_drewN|apply Kd.R_drew));exact HO_166001.out) (by decide)) hk (fun _ h=>h.2)) (fun _ h=>h.1));have n2_:=qn.mk (KeepBut.blk hk (g':=gb150) (o:=.cells #[.slice none 0 0,.slice none 0 0] 40 (0,0)) (by (with_reducible repeat (first|refine qb ?_ _|refine qe ?_|refine qc ?_ _));exact BK150.out) NB150_154.out (by simp));have n3_:=qn.mk (KeepBut.blk hk (g':=gb165) (o:=.cells #[.slice Ao31 x166000_1.length co31,u166001] 40 (0,0)) (by (with_reducible repeat (first|refine qb ?_ _|refine qe ?_|refine qc ?_ _));exact BK165.out) NB165_154.out (by simp));have n4_:=qn.mk (hb);have n5_:=qn.mk (hi);clear HO_166000;clear HO_166001;clear BK150;clear BK165;clear HB;clear HI154;have HO_166000:=n0_;have HO_166001:=n1_;have BK150:=n2_;have BK165:=n3_;have HB:=n4_;have HI154:=n5_;clear n0_ n1_ n2_ n3_ n4_ n5_;(try clear hb);(try clear hb2);(try clear hk);(try clear hi)))
                have n0_:=qn.mk (Kd.R_drew HO_166000.out)
                have n1_:=qn.mk (Kd.R_drew HO_166001.out)
                have n2_:=qn.mk (qe BK150.out)
                have n3_:=qn.mk (qe BK165.out)
                have n4_:=qn.mk (IsS140.drew HI154.out)
                have n5_:=qn.mk (qd HB.out)
                clear HO_166000
                clear HO_166001
                clear BK150
                clear BK165
                clear HI154
                clear HB
                have HO_166000:=n0_
                have HO_166001:=n1_
                have BK150:=n2_
                have BK165:=n3_
                have HI154:=n4_
                have HB:=n5_
                clear n0_ n1_ n2_ n3_ n4_ n5_
                refine start_ (n:=16) (S:=fun w'=>w'.cell? ⟨gb165,0,none⟩ = some (.slice Ao31 x166000_1.length co31) ∧ w'.cell? ⟨gb165,1,none⟩ = some (u166001)) (ds:=[15]) #[false,false,false,false,false,false,false,false,false,false,false,false,false,false,false,false] (by kernel_rfl) rfl rfl ⟨(qh BK165.out 0).trans rfl,(qh BK165.out 1).trans rfl⟩ (fun hHeld=>?_);refine with_tabW spec_DrawRightDevice.tab10 spec_DrawRightDevice.bits10 (fun HT_ HW_=>?_)
                generalize w38.drew = w39 at HO_166000 HO_166001 BK150 BK165 HI154 HB hHeld ⊢
                refine pure_ (i:=0) (N:=some 38) (v:=?_) (a':=?_) #[true,false,false,false,false,false,false,false,false,false,false,false,false,false,false,false] rfl rfl (any_of HT_.out (by kernel_rfl)) (fun _ _ _ h=>h) (Or.inl ⟨by rfl,?_⟩) ?_ ?_
                rotate_left
                · intro w'
                  go_simp
                  with_reducible rfl
                rotate_left
                · simp only [Act.put,List.setIfInBounds_toArray,List.set_cons_zero,List.set_cons_succ,i64_w,i32_w]
                  rfl
                refine pure_ (i:=2) (N:=some 40) (v:=?_) (a':=?_) #[true,false,true,false,false,false,false,false,false,false,false,false,false,false,false,false] rfl rfl (any_of HT_.out (by kernel_rfl)) (fun _ _ _ h=>h) (Or.inl ⟨by rfl,?_⟩) ?_ ?_
                rotate_left
                · intro w'
                  go_simp
                  with_reducible rfl
                rotate_left
                · simp only [Act.put,List.setIfInBounds_toArray,List.set_cons_zero,List.set_cons_succ,i64_w,i32_w]
                  rfl
                refine pure_ (i:=3) (N:=some 41) (v:=?_) (a':=?_) #[true,false,true,true,false,false,false,false,false,false,false,false,false,false,false,false] rfl rfl (any_of HT_.out (by kernel_rfl)) (fun _ _ _ h=>h) (Or.inl ⟨by rfl,?_⟩) ?_ ?_
                rotate_left
                · intro w'
                  go_simp
                  with_reducible rfl
                rotate_left
                · simp only [Act.put,List.setIfInBounds_toArray,List.set_cons_zero,List.set_cons_succ,i64_w,i32_w]
                  rfl
                refine pure_ (i:=7) (N:=some 45) (v:=?_) (a':=?_) #[true,false,true,true,false,false,false,true,false,false,false,false,false,false,false,false] rfl rfl (any_of HT_.out (by kernel_rfl)) (fun _ _ _ h=>h) (Or.inl ⟨by rfl,?_⟩) ?_ ?_
                rotate_left
                · intro w'
                  go_simp
                  with_reducible rfl
                rotate_left
                · simp only [Act.put,List.setIfInBounds_toArray,List.set_cons_zero,List.set_cons_succ,i64_w,i32_w]
                  rfl
                refine pure_ (i:=8) (N:=some 46) (v:=?_) (a':=?_) #[true,false,true,true,false,false,false,true,true,false,false,false,false,false,false,false] rfl rfl (any_of HT_.out (by kernel_rfl)) (fun _ _ _ h=>h) (Or.inl ⟨by rfl,?_⟩) ?_ ?_
                rotate_left
                · intro w'
                  go_simp
                  with_reducible rfl
                rotate_left
                · simp only [Act.put,List.setIfInBounds_toArray,List.set_cons_zero,List.set_cons_succ,i64_w,i32_w]
                  rfl
                refine take_ (i:=1) (N:=some 39) (v:=?_) (a':=?_) #[true,true,true,true,false,false,false,true,true,false,false,false,false,false,false,false] rfl rfl (take_ofW HT_.out HW_.out (by kernel_rfl)) (fun _ _ _ h=>h) (Or.inl ⟨by rfl,?_⟩) hHeld ?_ ?_
                rotate_left
                · rintro w' ⟨s0,s1⟩
                  go_simp
                  with_reducible rfl
                rotate_left
                · simp only [Act.put,List.setIfInBounds_toArray,List.set_cons_zero,List.set_cons_succ,i64_w,i32_w]
                  rfl
                refine take_ (i:=4) (N:=some 42) (v:=?_) (a':=?_) #[true,true,true,true,true,false,false,true,true,false,false,false,false,false,false,false] rfl rfl (take_ofW HT_.out HW_.out (by kernel_rfl)) (fun _ _ _ h=>h) (Or.inl ⟨by rfl,?_⟩) hHeld ?_ ?_
                rotate_left
                · rintro w' ⟨s0,s1⟩
                  go_simp
                  with_reducible rfl
                rotate_left
                · simp only [Act.put,List.setIfInBounds_toArray,List.set_cons_zero,List.set_cons_succ,i64_w,i32_w]
                  rfl
                refine pure_ (i:=5) (N:=some 43) (v:=?_) (a':=?_) #[true,true,true,true,true,true,false,true,true,false,false,false,false,false,false,false] rfl rfl (any_of HT_.out (by kernel_rfl)) (fun _ _ _ h=>h) (Or.inl ⟨by rfl,?_⟩) ?_ ?_
                rotate_left
                · intro w'
                  go_simp
                  with_reducible rfl
                rotate_left
                · simp only [Act.put,List.setIfInBounds_toArray,List.set_cons_zero,List.set_cons_succ,i64_w,i32_w]
                  rfl
                refine one_ (i:=6) (N:=some 44) #[true,true,true,true,true,true,true,true,true,false,false,false,false,false,false,false] rfl rfl (one_of HT_.out (by kernel_rfl)) (by decide) (fun K hK=>?_)
                refine goes_ Try.func58 (by kernel_rfl) rfl #[.pointer (some ⟨g154,0,none⟩),.int .i64 (x166000_1.length : Int)] (by rfl) rfl rfl (by (try simp only [List.map_toArray,List.map_cons,List.map_nil]);first|done|rfl|(simp only [List.length_drop,List.length_take];rfl)) ?_
                with_reducible refine (spec_l01Below.calls g154 t151 t174 t175 (x166000_1.length : Int) t176 t177 t178 w _ ?side1 ?side2 A34.out).mono ?_
                (case side1=>repeat (first|(with_reducible first|exact HI154.out|apply IsS140.alloc|apply IsS140.drewN|apply IsS140.drew|apply IsS140.set_1|apply IsS140.set_2|refine IsS140.far ?_ NB154_150.out _|refine IsS140.far ?_ NB154_165.out _)|exact HI154.out))
                (case side2=>repeat (first|(with_reducible first|exact HB.out|apply qf|apply qa|apply qd|refine qg ?_ (IsS140.ge HI154.out)|refine qg ?_ GE150.out|refine qg ?_ GE165.out)|exact HB.out))
                rintro e w40 ⟨rfl,hi,hb,hk⟩
                refine ⟨_,rfl,?_⟩
                have n0_:=qn.mk (Kd.R_mono (Kd.R_keep (IsS140.apart (show IsS140 w _ g154 t151 t174 t175 from by repeat (first|(with_reducible first|exact HI154.out|apply IsS140.alloc|apply IsS140.drewN|apply IsS140.drew|apply IsS140.set_1|apply IsS140.set_2|refine IsS140.far ?_ NB154_150.out _|refine IsS140.far ?_ NB154_165.out _)|exact HI154.out)) (by (with_reducible repeat (first|apply Kd.R_alloc|apply Kd.R_drewN|apply Kd.R_drew));exact HO_166000.out) (by decide)) hk (fun _ h=>h.2)) (fun _ h=>h.1))
                have n1_:=qn.mk (Kd.R_mono (Kd.R_keep (IsS140.apart (show IsS140 w _ g154 t151 t174 t175 from by repeat (first|(with_reducible first|exact HI154.out|apply IsS140.alloc|apply IsS140.drewN|apply IsS140.drew|apply IsS140.set_1|apply IsS140.set_2|refine IsS140.far ?_ NB154_150.out _|refine IsS140.far ?_ NB154_165.out _)|exact HI154.out)) (by (with_reducible repeat (first|apply Kd.R_alloc|apply Kd.R_drewN|apply Kd.R_drew));exact HO_166001.out) (by decide)) hk (fun _ h=>h.2)) (fun _ h=>h.1))
                have n2_:=qn.mk (KeepBut.blk hk (g':=gb150) (o:=.cells #[.slice none 0 0,.slice none 0 0] 40 (0,0)) (by (with_reducible repeat (first|refine qb ?_ _|refine qe ?_|refine qc ?_ _));exact BK150.out) NB150_154.out (by simp))
                have n3_:=qn.mk (KeepBut.blk hk (g':=gb165) (o:=.cells #[.slice Ao31 x166000_1.length co31,u166001] 40 (0,0)) (by (with_reducible repeat (first|refine qb ?_ _|refine qe ?_|refine qc ?_ _));exact BK165.out) NB165_154.out (by simp))
                have n4_:=qn.mk (hb)
                have n5_:=qn.mk (hi)
                clear HO_166000
                clear HO_166001
                clear BK150
                clear BK165
                clear HB
                clear HI154
                have HO_166000:=n0_
                have HO_166001:=n1_
                have BK150:=n2_
                have BK165:=n3_
                have HB:=n4_
                have HI154:=n5_
                clear n0_ n1_ n2_ n3_ n4_ n5_
                (try clear hb)
                (try clear hb2)
                (try clear hk)
                (try clear hi)
                refine hK.out _ _ ⟨(qh BK165.out 0).trans rfl,(qh BK165.out 1).trans rfl⟩ (fun hHeld=>?_)
                clear hK K
                refine norm_ (a':=?_) ?_ ?_
                rotate_left
                · show Act.put _ (some 44) _ = _
                  simp only [Act.put,List.setIfInBounds_toArray,List.set_cons_zero,List.set_cons_succ,i64_w,i32_w]
                  rfl
                refine one_ (i:=9) (N:=some 47) #[true,true,true,true,true,true,true,true,true,true,false,false,false,false,false,false] rfl rfl (one_of HT_.out (by kernel_rfl)) (by decide) (fun K hK=>?_)
                refine goes_ Try.func58 (by kernel_rfl) rfl #[.pointer (some ⟨g154,0,none⟩),.int .i64 6] (by rfl) rfl rfl (by (try simp only [List.map_toArray,List.map_cons,List.map_nil]);first|done|rfl|(simp only [List.length_drop,List.length_take];rfl)) ?_
                with_reducible refine (spec_l01Below.calls g154 t151 t177 t178 6 t179 t180 t181 w _ ?side1 ?side2 A35.out).mono ?_
                (case side1=>repeat (first|(with_reducible first|exact HI154.out|apply IsS140.alloc|apply IsS140.drewN|apply IsS140.drew|apply IsS140.set_1|apply IsS140.set_2|refine IsS140.far ?_ NB154_150.out _|refine IsS140.far ?_ NB154_165.out _)|exact HI154.out))
                (case side2=>repeat (first|(with_reducible first|exact HB.out|apply qf|apply qa|apply qd|refine qg ?_ (IsS140.ge HI154.out)|refine qg ?_ GE150.out|refine qg ?_ GE165.out)|exact HB.out))
                rintro e w41 ⟨rfl,hi,hb,hk⟩
                refine ⟨_,rfl,?_⟩
                have n0_:=qn.mk (Kd.R_mono (Kd.R_keep (IsS140.apart (show IsS140 w _ g154 t151 t177 t178 from by repeat (first|(with_reducible first|exact HI154.out|apply IsS140.alloc|apply IsS140.drewN|apply IsS140.drew|apply IsS140.set_1|apply IsS140.set_2|refine IsS140.far ?_ NB154_150.out _|refine IsS140.far ?_ NB154_165.out _)|exact HI154.out)) (by (with_reducible repeat (first|apply Kd.R_alloc|apply Kd.R_drewN|apply Kd.R_drew));exact HO_166000.out) (by decide)) hk (fun _ h=>h.2)) (fun _ h=>h.1))
                have n1_:=qn.mk (Kd.R_mono (Kd.R_keep (IsS140.apart (show IsS140 w _ g154 t151 t177 t178 from by repeat (first|(with_reducible first|exact HI154.out|apply IsS140.alloc|apply IsS140.drewN|apply IsS140.drew|apply IsS140.set_1|apply IsS140.set_2|refine IsS140.far ?_ NB154_150.out _|refine IsS140.far ?_ NB154_165.out _)|exact HI154.out)) (by (with_reducible repeat (first|apply Kd.R_alloc|apply Kd.R_drewN|apply Kd.R_drew));exact HO_166001.out) (by decide)) hk (fun _ h=>h.2)) (fun _ h=>h.1))
                have n2_:=qn.mk (KeepBut.blk hk (g':=gb150) (o:=.cells #[.slice none 0 0,.slice none 0 0] 40 (0,0)) (by (with_reducible repeat (first|refine qb ?_ _|refine qe ?_|refine qc ?_ _));exact BK150.out) NB150_154.out (by simp))
                have n3_:=qn.mk (KeepBut.blk hk (g':=gb165) (o:=.cells #[.slice Ao31 x166000_1.length co31,u166001] 40 (0,0)) (by (with_reducible repeat (first|refine qb ?_ _|refine qe ?_|refine qc ?_ _));exact BK165.out) NB165_154.out (by simp))
                have n4_:=qn.mk (hb)
                have n5_:=qn.mk (hi)
                clear HO_166000
                clear HO_166001
                clear BK150
                clear BK165
                clear HB
                clear HI154
                have HO_166000:=n0_
                have HO_166001:=n1_
                have BK150:=n2_
                have BK165:=n3_
                have HB:=n4_
                have HI154:=n5_
                clear n0_ n1_ n2_ n3_ n4_ n5_
                (try clear hb)
                (try clear hb2)
                (try clear hk)
                (try clear hi)
                refine hK.out _ _ ⟨(qh BK165.out 0).trans rfl,(qh BK165.out 1).trans rfl⟩ (fun hHeld=>?_)
                clear hK K
                refine norm_ (a':=?_) ?_ ?_
                rotate_left
                · show Act.put _ (some 47) _ = _
                  simp only [Act.put,List.setIfInBounds_toArray,List.set_cons_zero,List.set_cons_succ,i64_w,i32_w]
                  rfl
                refine one_ (i:=10) (N:=some 48) #[true,true,true,true,true,true,true,true,true,true,true,false,false,false,false,false] rfl rfl (one_of HT_.out (by kernel_rfl)) (by decide) (fun K hK=>?_)
                refine goes_ Try.func62 (by kernel_rfl) rfl #[.pointer (some ⟨g154,0,none⟩),.int .i64 t179] (by rfl) rfl rfl (by (try simp only [List.map_toArray,List.map_cons,List.map_nil]);first|done|rfl|(simp only [List.length_drop,List.length_take];rfl)) ?_
                with_reducible refine (spec_l01Text.calls k2 g154 t151 t180 t181 t179 t182 t183 t184 w _ ?side1 ?side2 A36.out).mono ?_
                (case side1=>repeat (first|(with_reducible first|exact HI154.out|apply IsS140.alloc|apply IsS140.drewN|apply IsS140.drew|apply IsS140.set_1|apply IsS140.set_2|refine IsS140.far ?_ NB154_150.out _|refine IsS140.far ?_ NB154_165.out _)|exact HI154.out))
                (case side2=>repeat (first|(with_reducible first|exact HB.out|apply qf|apply qa|apply qd|refine qg ?_ (IsS140.ge HI154.out)|refine qg ?_ GE150.out|refine qg ?_ GE165.out)|exact HB.out))
                rintro e w42 ⟨rfl,hi,hb,hk⟩
                refine ⟨_,rfl,?_⟩
                have n0_:=qn.mk (Kd.R_mono (Kd.R_keep (IsS140.apart (show IsS140 w _ g154 t151 t180 t181 from by repeat (first|(with_reducible first|exact HI154.out|apply IsS140.alloc|apply IsS140.drewN|apply IsS140.drew|apply IsS140.set_1|apply IsS140.set_2|refine IsS140.far ?_ NB154_150.out _|refine IsS140.far ?_ NB154_165.out _)|exact HI154.out)) (by (with_reducible repeat (first|apply Kd.R_alloc|apply Kd.R_drewN|apply Kd.R_drew));exact HO_166000.out) (by decide)) hk (fun _ h=>h.2)) (fun _ h=>h.1))
                have n1_:=qn.mk (Kd.R_mono (Kd.R_keep (IsS140.apart (show IsS140 w _ g154 t151 t180 t181 from by repeat (first|(with_reducible first|exact HI154.out|apply IsS140.alloc|apply IsS140.drewN|apply IsS140.drew|apply IsS140.set_1|apply IsS140.set_2|refine IsS140.far ?_ NB154_150.out _|refine IsS140.far ?_ NB154_165.out _)|exact HI154.out)) (by (with_reducible repeat (first|apply Kd.R_alloc|apply Kd.R_drewN|apply Kd.R_drew));exact HO_166001.out) (by decide)) hk (fun _ h=>h.2)) (fun _ h=>h.1))
                have n2_:=qn.mk (KeepBut.blk hk (g':=gb150) (o:=.cells #[.slice none 0 0,.slice none 0 0] 40 (0,0)) (by (with_reducible repeat (first|refine qb ?_ _|refine qe ?_|refine qc ?_ _));exact BK150.out) NB150_154.out (by simp))
                have n3_:=qn.mk (KeepBut.blk hk (g':=gb165) (o:=.cells #[.slice Ao31 x166000_1.length co31,u166001] 40 (0,0)) (by (with_reducible repeat (first|refine qb ?_ _|refine qe ?_|refine qc ?_ _));exact BK165.out) NB165_154.out (by simp))
                have n4_:=qn.mk (hb)
                have n5_:=qn.mk (hi)
                clear HO_166000
                clear HO_166001
                clear BK150
                clear BK165
                clear HB
                clear HI154
                have HO_166000:=n0_
                have HO_166001:=n1_
                have BK150:=n2_
                have BK165:=n3_
                have HB:=n4_
                have HI154:=n5_
                clear n0_ n1_ n2_ n3_ n4_ n5_
                (try clear hb)
                (try clear hb2)
                (try clear hk)
                (try clear hi)
                refine hK.out _ _ ⟨(qh BK165.out 0).trans rfl,(qh BK165.out 1).trans rfl⟩ (fun hHeld=>?_)
                clear hK K
                refine norm_ (a':=?_) ?_ ?_
                rotate_left
                · show Act.put _ (some 48) _ = _
                  simp only [Act.put,List.setIfInBounds_toArray,List.set_cons_zero,List.set_cons_succ,i64_w,i32_w]
                  rfl
                refine pure_ (i:=11) (N:=some 49) (v:=?_) (a':=?_) #[true,true,true,true,true,true,true,true,true,true,true,true,false,false,false,false] rfl rfl (any_of HT_.out (by kernel_rfl)) (fun _ _ _ h=>h) (Or.inl ⟨by rfl,?_⟩) ?_ ?_
                rotate_left
                · intro w'
                  go_simp
                  with_reducible rfl
                rotate_left
                · simp only [Act.put,List.setIfInBounds_toArray,List.set_cons_zero,List.set_cons_succ,i64_w,i32_w]
                  rfl
                refine one_ (i:=12) (N:=some 50) #[true,true,true,true,true,true,true,true,true,true,true,true,true,false,false,false] rfl rfl (one_of HT_.out (by kernel_rfl)) (by decide) (fun K hK=>?_)
                refine value_ (w1:=?_) (v:=?_) (by rfl) rfl ?_ ?_
                rotate_left 2
                · go_simp
                  constructor
                  · rfl
                  · rfl
                refine hK.out _ _ ⟨(qh (qc BK165.out _) 0).trans rfl,(qh (qc BK165.out _) 1).trans rfl⟩ (fun hHeld=>?_)
                clear hK K
                refine norm_ (a':=?_) ?_ ?_
                rotate_left
                · show Act.put _ (some 50) _ = _
                  simp only [Act.put,List.setIfInBounds_toArray,List.set_cons_zero,List.set_cons_succ,i64_w,i32_w]
                  rfl
                refine one_ (i:=13) (N:=some 51) #[true,true,true,true,true,true,true,true,true,true,true,true,true,true,false,false] rfl rfl (one_of HT_.out (by kernel_rfl)) (by decide) (fun K hK=>?_)
                refine Kd.R_append_step k98 (w0:=w) w.heap.size (by rfl) (.tmp 39) (.tmp 50) 38 98 (.agg #[(.int .i64 0),(.string ⟨#[]⟩)]) 24 rfl Try.underlying38 info98 rfl (by decide) (by omega) u166001 x166001_2 (⟨t176,t182⟩ : S98) [.int .i64 t176,.string t182] (fun _=>True) (fun _=>False) rfl rfl ?aP (fun _ hk=>hk.elim) ?aF ?aO ?aB ?aS ?aL ?_
                (case aP=>exact k98_mkM _ _ _ (⟨t176,t182⟩ : S98))
                (case aB=>exact (by repeat (first|(with_reducible first|exact HB.out|apply qf|apply qa|apply qd|refine qg ?_ (IsS140.ge HI154.out)|refine qg ?_ GE150.out|refine qg ?_ GE165.out)|exact HB.out)))
                (case aF=>exact (fun _ _=>trivial))
                (case aO=>exact (by (with_reducible repeat (first|apply Kd.R_alloc|apply Kd.R_drewN|apply Kd.R_drew));exact HO_166001.out))
                (case aS=>exact (qj (by repeat (first|(with_reducible first|exact HB.out|apply qf|apply qa|apply qd|refine qg ?_ (IsS140.ge HI154.out)|refine qg ?_ GE150.out|refine qg ?_ GE165.out)|exact HB.out))))
                (case aL=>have:=LMc37.out;omega)
                intro v186 w43 ho hb hg hat
                rw [← Ny185.out] at ho
                have n0_:=qn.mk (Kd.R_over' (by (with_reducible repeat (first|apply Kd.R_alloc|apply Kd.R_drewN|apply Kd.R_drew));exact HO_166000.out) (Kd.R_typed (by (with_reducible repeat (first|apply Kd.R_alloc|apply Kd.R_drewN|apply Kd.R_drew));exact HO_166001.out)) (by decide) hg)
                have n1_:=qn.mk (blk_grown (g:=gb150) (o:=.cells #[.slice none 0 0,.slice none 0 0] 40 (0,0)) (by (with_reducible repeat (first|refine qb ?_ _|refine qe ?_|refine qc ?_ _));exact BK150.out) hg (Kd.R_ne HO_166001.out BK150.out (by decide)))
                have n2_:=qn.mk (blk_grown (g:=gb165) (o:=.cells #[.slice Ao31 x166000_1.length co31,u166001] 40 (0,0)) (by (with_reducible repeat (first|refine qb ?_ _|refine qe ?_|refine qc ?_ _));exact BK165.out) hg (Kd.R_ne HO_166001.out BK165.out (by decide)))
                have n3_:=qn.mk (IsS140.grown (by repeat (first|(with_reducible first|exact HI154.out|apply IsS140.alloc|apply IsS140.drewN|apply IsS140.drew|apply IsS140.set_1|apply IsS140.set_2|refine IsS140.far ?_ NB154_150.out _|refine IsS140.far ?_ NB154_165.out _)|exact HI154.out)) hg (IsS140.own_ne HI154.out HO_166001.out (by decide)))
                have n4_:=qn.mk (hb)
                have n5_:=qn.mk (ho)
                clear HO_166000
                clear BK150
                clear BK165
                clear HI154
                clear HB
                clear HO_166001
                have HO_166000:=n0_
                have BK150:=n1_
                have BK165:=n2_
                have HI154:=n3_
                have HB:=n4_
                have HO187:=n5_
                clear n0_ n1_ n2_ n3_ n4_ n5_
                clear ho hb hg hat
                obtain ⟨Ao44,co44,eo44⟩:=Kd.R_slice HO187.out
                (first|subst eo44|(injection eo44 with f1_ f2_ f3_;have f4_:=f1_.symm;have f5_:=f3_.symm;clear f1_ f2_ f3_;subst f4_;subst f5_))
                refine hK.out _ _ ⟨(qh BK165.out 0).trans rfl,(qh BK165.out 1).trans rfl⟩ (fun hHeld=>?_)
                clear hK K
                refine norm_ (a':=?_) ?_ ?_
                rotate_left
                · show Act.put _ (some 51) _ = _
                  simp only [Act.put,List.setIfInBounds_toArray,List.set_cons_zero,List.set_cons_succ,i64_w,i32_w]
                  rfl
                refine pure_ (i:=14) (N:=some 52) (v:=?_) (a':=?_) #[true,true,true,true,true,true,true,true,true,true,true,true,true,true,true,false] rfl rfl (any_of HT_.out (by kernel_rfl)) (fun _ _ _ h=>h) (Or.inl ⟨by rfl,?_⟩) ?_ ?_
                rotate_left
                · intro w'
                  go_simp
                  with_reducible rfl
                rotate_left
                · simp only [Act.put,List.setIfInBounds_toArray,List.set_cons_zero,List.set_cons_succ,i64_w,i32_w]
                  rfl
                refine last_ (i:=15) (N:=none) #[true,true,true,true,true,true,true,true,true,true,true,true,true,true,true,true] rfl rfl (one_of HT_.out (by kernel_rfl)) (by decide) (fun K hK=>?_)
                have hs45 : w43.cell? ⟨gb165,1,none⟩ = some (u166001):=(qh BK165.out 1).trans rfl
                have hfs45:=qi BK165.out 1
                have hns45_0:=NB150_165.out
                have hms45_0:=NB165_150.out
                refine skip_ (w1:=?_) (by rfl) rfl ?_ ?_
                rotate_left
                · go_simp
                  rfl
                refine hK.out _ _ ?_
                clear hK K
                refine done_ (done_of HT_.out (by kernel_rfl)) ?_
                try go_wp2
                go_roundg k2
                case measure=>have:=HK1.out;have:=HK2.out;omega
                case rel=>exact ⟨(wrap64 (x7_2 + 1)),(t183),(t184),(y185),(.slice Ao44 y185.length co44),(by first|rfl|(simp;done)|(simp [*];done)),H',⟨by have:=HK1.out;have:=HK2.out;omega⟩,⟨by (with_reducible repeat (first|apply Kd.R_alloc|apply Kd.R_drewN|apply Kd.R_drew));exact Kd.R_mono (Kd.R_far (p:=⟨gb165,1,none⟩) (Kd.R_types HO_166000.out BK165.out (by decide)) (fun _ hk=>hk.2) (.slice Ao44 y185.length co44)) (fun _ hk=>trivial)⟩,⟨by (with_reducible repeat (first|apply Kd.R_alloc|apply Kd.R_drewN|apply Kd.R_drew));exact Kd.R_mono (Kd.R_far (p:=⟨gb165,1,none⟩) (Kd.R_types HO187.out BK165.out (by decide)) (fun _ hk=>hk.2) (.slice Ao44 y185.length co44)) (fun _ hk=>trivial)⟩,⟨by (with_reducible repeat (first|refine qb ?_ _|refine qe ?_|refine qc ?_ _));refine blk_far ?_ NB150_165.out _;(with_reducible repeat (first|refine qb ?_ _|refine qe ?_|refine qc ?_ _));exact BK150.out⟩,⟨by (with_reducible repeat (first|refine qb ?_ _|refine qe ?_|refine qc ?_ _));refine blk_put (cs:=#[.slice Ao31 x166000_1.length co31,u166001]) ?_ 1 _ rfl;(with_reducible repeat (first|refine qb ?_ _|refine qe ?_|refine qc ?_ _));exact BK165.out⟩,⟨by repeat (first|(with_reducible first|exact HI154.out|apply IsS140.alloc|apply IsS140.drewN|apply IsS140.drew|apply IsS140.set_1|apply IsS140.set_2|refine IsS140.far ?_ NB154_150.out _|refine IsS140.far ?_ NB154_165.out _)|exact HI154.out)⟩,⟨by repeat (first|(with_reducible first|exact HB.out|apply qf|apply qa|apply qd|refine qg ?_ (IsS140.ge HI154.out)|refine qg ?_ GE150.out|refine qg ?_ GE165.out)|exact HB.out)⟩⟩
              · rw [if_neg c37] at H
                exact absurd H (by simp)
            · rw [if_neg c33] at H
              have c33b0 : decide (x7_2 < t173) = false:=decide_eq_false c33
              clear c33
              simp only [Option.some.injEq,Prod.mk.injEq] at H
              obtain ⟨rfl,rfl⟩:=H
              go_wp2_with (first|((with_reducible refine gate_callee (f:=58) rfl ?_);refine goesL_ (some 34) rfl rfl Try.func58 (by kernel_rfl) rfl #[.pointer (some ⟨g154,0,none⟩),.int .i64 7] rfl (by (try simp only [List.map_toArray,List.map_cons,List.map_nil]);first|done|rfl|(simp only [List.length_drop,List.length_take];rfl)) ?_;(with_reducible refine (spec_l01Below.calls g154 t151 x155001_2 x155002_2 7 t173 t174 t175 w _ ?side1 ?side2 A32.out).mono ?_);(case side1=>repeat (first|(with_reducible first|exact HI154.out|apply IsS140.alloc|apply IsS140.drewN|apply IsS140.drew|apply IsS140.set_1|apply IsS140.set_2|refine IsS140.far ?_ NB154_150.out _|refine IsS140.far ?_ NB154_165.out _)|exact HI154.out));(case side2=>repeat (first|(with_reducible first|exact HB.out|apply qf|apply qa|apply qd|refine qg ?_ (IsS140.ge HI154.out)|refine qg ?_ GE150.out|refine qg ?_ GE165.out)|exact HB.out));rintro e w46 ⟨rfl,hi,hb,hk⟩;refine ⟨_,rfl,?_⟩;have n0_:=qn.mk (Kd.R_mono (Kd.R_keep (IsS140.apart (show IsS140 w _ g154 t151 x155001_2 x155002_2 from by repeat (first|(with_reducible first|exact HI154.out|apply IsS140.alloc|apply IsS140.drewN|apply IsS140.drew|apply IsS140.set_1|apply IsS140.set_2|refine IsS140.far ?_ NB154_150.out _|refine IsS140.far ?_ NB154_165.out _)|exact HI154.out)) (by (with_reducible repeat (first|apply Kd.R_alloc|apply Kd.R_drewN|apply Kd.R_drew));exact HO_166000.out) (by decide)) hk (fun _ h=>h.2)) (fun _ h=>h.1));have n1_:=qn.mk (Kd.R_mono (Kd.R_keep (IsS140.apart (show IsS140 w _ g154 t151 x155001_2 x155002_2 from by repeat (first|(with_reducible first|exact HI154.out|apply IsS140.alloc|apply IsS140.drewN|apply IsS140.drew|apply IsS140.set_1|apply IsS140.set_2|refine IsS140.far ?_ NB154_150.out _|refine IsS140.far ?_ NB154_165.out _)|exact HI154.out)) (by (with_reducible repeat (first|apply Kd.R_alloc|apply Kd.R_drewN|apply Kd.R_drew));exact HO_166001.out) (by decide)) hk (fun _ h=>h.2)) (fun _ h=>h.1));have n2_:=qn.mk (KeepBut.blk hk (g':=gb150) (o:=.cells #[.slice none 0 0,.slice none 0 0] 40 (0,0)) (by (with_reducible repeat (first|refine qb ?_ _|refine qe ?_|refine qc ?_ _));exact BK150.out) NB150_154.out (by simp));have n3_:=qn.mk (KeepBut.blk hk (g':=gb165) (o:=.cells #[.slice Ao31 x166000_1.length co31,u166001] 40 (0,0)) (by (with_reducible repeat (first|refine qb ?_ _|refine qe ?_|refine qc ?_ _));exact BK165.out) NB165_154.out (by simp));have n4_:=qn.mk (hb);have n5_:=qn.mk (hi);clear HO_166000;clear HO_166001;clear BK150;clear BK165;clear HB;clear HI154;have HO_166000:=n0_;have HO_166001:=n1_;have BK150:=n2_;have BK165:=n3_;have HB:=n4_;have HI154:=n5_;clear n0_ n1_ n2_ n3_ n4_ n5_;(try clear hb);(try clear hb2);(try clear hk);(try clear hi);have hnb47:=NB165_150.out;have hnc47:=NB150_165.out;have hnb48:=NB165_154.out;have hnc48:=NB154_165.out;have hcz49_0 : w46.cell? ⟨gb165,0,none⟩ = some (.slice Ao31 x166000_1.length co31):=(qh BK165.out 0).trans rfl;have hcz49_1 : w46.cell? ⟨gb165,1,none⟩ = some (u166001):=(qh BK165.out 1).trans rfl;have hfz49_0:=qi BK165.out 0;have hfz49_1:=qi BK165.out 1;have hnb50:=NB150_154.out;have hnc50:=NB154_150.out;have hcz51_0 : w46.cell? ⟨gb150,0,none⟩ = some (.slice none 0 0):=(qh BK150.out 0).trans rfl;have hcz51_1 : w46.cell? ⟨gb150,1,none⟩ = some (.slice none 0 0):=(qh BK150.out 1).trans rfl;have hfz51_0:=qi BK150.out 0;have hfz51_1:=qi BK150.out 1;obtain ⟨Ao52,co52,eo52⟩:=Kd.R_slice HO_166001.out;subst eo52))
              refine bodyPost_ret (results_cell_row rfl _ _ gb150 40 #[.slice Ao31 x166000_1.length co31,.slice Ao52 x166001_2.length co52] (0,0) _ rfl (by (with_reducible repeat (first|refine qb ?_ _|refine qe ?_|refine qc ?_ _));refine blk_put (cs:=#[.slice Ao31 x166000_1.length co31,.slice none 0 0]) ?_ 1 _ rfl;(with_reducible repeat (first|refine qb ?_ _|refine qe ?_|refine qc ?_ _));refine blk_put (cs:=#[.slice none 0 0,.slice none 0 0]) ?_ 0 _ rfl;(with_reducible repeat (first|refine qb ?_ _|refine qe ?_|refine qc ?_ _));exact BK150.out) Try.underlying40 rfl (by kernel_rfl)) rfl ?_
              exact ⟨_,_,by first|rfl|(simp [errW_none,errW_some] <;> rfl)|(simp [*,errW_none,errW_some] <;> rfl),by (with_reducible repeat (first|apply Kd.R_alloc|apply Kd.R_drewN|apply Kd.R_drew));exact Kd.R_mono (Kd.R_far (p:=⟨gb150,1,none⟩) (Kd.R_far (p:=⟨gb150,0,none⟩) (Kd.R_types HO_166000.out BK150.out (by decide)) (fun _ hk=>hk.2) (.slice Ao31 x166000_1.length co31)) (fun _ hk=>hk.2) (.slice Ao52 x166001_2.length co52)) (fun _ hk=>trivial),by (with_reducible repeat (first|apply Kd.R_alloc|apply Kd.R_drewN|apply Kd.R_drew));exact Kd.R_mono (Kd.R_far (p:=⟨gb150,1,none⟩) (Kd.R_far (p:=⟨gb150,0,none⟩) (Kd.R_types HO_166001.out BK150.out (by decide)) (fun _ hk=>hk.2) (.slice Ao31 x166000_1.length co31)) (fun _ hk=>hk.2) (.slice Ao52 x166001_2.length co52)) (fun _ hk=>trivial),by repeat (first|(with_reducible first|exact HB.out|apply qf|apply qa|apply qd|refine qg ?_ (IsS140.ge HI154.out)|refine qg ?_ GE150.out|refine qg ?_ GE165.out)|exact HB.out)⟩

/-! ### impl_in: function 59 -/
def impl_in.f (a0 : Int) (a1 : Int) (a2 : Int) : Option (Bool):=if a0 ≥ a1 then (some (decide (a0 ≤ a2))) else (some false)
set_option maxHeartbeats 8000000 in
set_option maxRecDepth 100000 in
theorem impl_in.calls (a0 : Int) (a1 : Int) (a2 : Int) (r : Bool) (w : World) (h : impl_in.f a0 a1 a2 = some r) :
    Calls Try.prog 59 #[.int .i64 a0,.int .i64 a1,.int .i64 a2] w fun e w'=>e = .returned (.bool r) ∧ Drawn0 w w':=by
  have H : (if a0 ≥ a1 then (some (decide (a0 ≤ a2))) else (some false)) = some r:=h
  clear h
  by_cases c4 : a0 ≥ a1
  · rw [if_pos c4] at H
    have c4b0 : decide (a1 ≤ a0) = true:=decide_eq_true c4
    clear c4
    obtain rfl:=Option.some.inj H
    go_enter Try.func59,Try.ntmps59
    go_wp2
    go_ret
    exact ⟨by first|rfl|(simp;done)|(simp [*];done),by repeat (first|exact Drawn0.refl _|apply Drawn0.step)⟩
  · rw [if_neg c4] at H
    have c4b0 : decide (a1 ≤ a0) = false:=decide_eq_false c4
    clear c4
    obtain rfl:=Option.some.inj H
    go_enter Try.func59,Try.ntmps59
    go_wp2
    go_ret
    exact ⟨by first|rfl|(simp;done)|(simp [*];done),by repeat (first|exact Drawn0.refl _|apply Drawn0.step)⟩

end Go.Proofs.Ytfmemcffbfahhaa.QFnDevices
