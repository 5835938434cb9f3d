/- Lean functions for the Go functions that the law FnPages reaches, and that each Go function comes to just its Lean function's answer; by a program of this session. -/
import Derived.Laws.BitsAllLaws
import Derived.RegionTactic
import Derived.BigRegion
import Derived.ChangeAlike
import Derived.Lib.ConvBytes
import Derived.Laws.BytesArg
import Derived.OwnWalk
import Derived.Test.YtfmemcffbfahhaaZFnPagesx0
import Derived.Test.YtfmemcffbfahhaaZFnPagesx1
import Derived.Test.YtfmemcffbfahhaaZFnPagesx2
import Derived.Test.YtfmemcffbfahhaaZFnPagesx3
import Derived.Test.YtfmemcffbfahhaaZFnPagesx4
import Derived.Test.YtfmemcffbfahhaaZFnPagesx6
import Derived.Test.YtfmemcffbfahhaaZFnPagesx8
import Derived.Test.YtfmemcffbfahhaaZFnPagesx9
namespace Go.Proofs.Ytfmemcffbfahhaa.QFnPages
open Go.RowKit Go.Proofs.YtfmemcffbfahhaaW.PrintWords Go.Proofs.YtfmemcffbfahhaaW.PrintLast Go.Proofs.YtfmemcffbfahhaaW.PrintMore
attribute [local go_sem] max2_int min2_int max_two min_two max_three min_three max_four min_four   -- for this text's walks alone
set_option linter.unusedVariables false
set_option linter.unusedSimpArgs false

attribute [local go_sem high] eqA61
/-! ### laws_FnPages: function 11 -/
/-- The bytes of a text, one turned. -/
def turnB (s : ByteArray) (p q : Int) : List Int:=(s.data.toList.map fun b=>(b.toNat : Int)).set (p % (s.size : Int)).toNat (Go.bits .xor .u8 ((s.data.toList.getD (p % (s.size : Int)).toNat 0).toNat : Int) (1 + q % 255))
def pagesTurn (k : Nat) (P : List Int) (s : ByteArray) (z : Int) : Option Bool:=if (P.length = 12 ∧ (0 ≤ rd P 0 ∧ rd P 0 < 10000) ∧ (0 ≤ rd P 1 ∧ rd P 1 < 10000)) ∧ 0 < s.size ∧ s.size ≤ 100000 then (impl_ReadPage.f k (strOfNums (turnB s (rd P 0) (rd P 1)))).bind fun bt=>some (!bt.2.2 && (z == wrap64 ((s.size : Int) - 6))) else none
def pagesEnd (k : Nat) (x0 : List Int) (s : ByteArray) (z : Int) : Option Bool:=(spec_DrawPlaces.f k x0).bind fun P=>pagesTurn k P s z
theorem pagesTurn.mono (P : List Int) (s : ByteArray) (z : Int) (k : Nat) : LeO (pagesTurn k P s z) (pagesTurn (k + 1) P s z):=by
 unfold pagesTurn
 refine LeO.ite (LeO.bind (impl_ReadPage.mono _ _) (fun _=>LeO.refl _)) (LeO.none _)
theorem pagesEnd.mono (x0 : List Int) (s : ByteArray) (z : Int) (k : Nat) : LeO (pagesEnd k x0 s z) (pagesEnd (k + 1) x0 s z):=by
 unfold pagesEnd
 exact LeO.bind (spec_DrawPlaces.mono _ _) (fun _=>pagesTurn.mono _ _ _ _)
theorem pagesTurn_some {k : Nat} {P : List Int} {s : ByteArray} {z : Int} {r : Bool} (h : pagesTurn k P s z = some r) : ((P.length = 12 ∧ (0 ≤ rd P 0 ∧ rd P 0 < 10000) ∧ (0 ≤ rd P 1 ∧ rd P 1 < 10000)) ∧ 0 < s.size ∧ s.size ≤ 100000) ∧ (impl_ReadPage.f k (strOfNums (turnB s (rd P 0) (rd P 1)))).bind (fun bt=>some (!bt.2.2 && (z == wrap64 ((s.size : Int) - 6)))) = some r:=by
 unfold pagesTurn at h
 split at h
 ·exact ⟨‹_›,h⟩
 ·cases h
theorem turnB_len (s : ByteArray) (p q : Int) : (turnB s p q).length = s.size:=by unfold turnB;rw [List.length_set,List.length_map];rfl
theorem turnB_at {s : ByteArray} {p q : Int} {i : Nat} (hi : p % (s.size : Int) = (i : Int)) (hit : i < s.size) (j : Nat) (hj : j < s.size) : (turnB s p q).getD j 0 = if j = i then Go.bits .xor .u8 ((s.data.toList.getD i 0).toNat : Int) (1 + q % 255) else ((s.data.toList.getD j 0).toNat : Int):=by
 have hl : i < s.data.toList.length:=hit
 have hj' : j < s.data.toList.length:=hj
 unfold turnB
 rw [hi,Int.toNat_natCast,List.getD_eq_getElem?_getD,List.getElem?_set]
 by_cases e : j = i
 ·subst e
  rw [if_pos rfl,if_pos (by rw [List.length_map];exact hl),if_pos rfl];rfl
 ·rw [if_neg (fun h=>e h.symm),if_neg e,List.getElem?_map,List.getD_eq_getElem?_getD,List.getElem?_eq_getElem hj']
  rfl
theorem tmod_pos_ {a b : Int} (h : 0 ≤ a) : Int.tmod a b = a % b:=Int.tmod_eq_emod_of_nonneg h
theorem cell_at_ {w : World} {g j : Nat} {u : Value} (h : w.cell? ⟨g,j,none⟩ = some u) (v : Value) : (w.setCell ⟨g,j,none⟩ v).cell? ⟨g,j,none⟩ = some v:=World.cell?_setCell_same _ _ _ h
theorem cell_off_ {w : World} {g j i : Nat} (h : j ≠ i) (v : Value) : (w.setCell ⟨g,i,none⟩ v).cell? ⟨g,j,none⟩ = w.cell? ⟨g,j,none⟩ :=
 World.cell?_setCell_other _ _ _ _ (fun e=>h (by have:=congrArg Addr.off e;exact this.symm))
/-- The new row, told by its cells. -/
theorem conv_to (w : World) (s : ByteArray) (hu9 : Try.prog.underlying 9 = some .string) (hu22 : Try.prog.underlying 22 = some (.slice 5)) (hu5 : Try.prog.underlying 5 = some (.int .u8)) :
  ∃ (w1 : World) (cap : Nat),(convert 9 22 (.string s)).run Try.prog w = .ok (.slice (some ⟨w.heap.size,0,none⟩) s.size cap) w1 ∧ s.size ≤ cap ∧ Below w.heap.size w w1 ∧
   (∀ j,j < s.size → w1.cell? ⟨w.heap.size,j,none⟩ = some (.int .u8 (s.data.toList.getD j 0).toNat)) ∧ (∀ j,j < s.size → w1.frozen? ⟨w.heap.size,j,none⟩ = false) ∧ w1.heap.size = w.heap.size + 1:=by
 refine ⟨Lib.bytesWorld w 5 s,grownCap w s.size 0 5,Lib.run_convert_string_bytes w 9 22 5 s hu9 hu22 hu5,?_,?_,fun j hj=>Lib.bytesWorld_cell w 5 s j hj,?_,Lib.bytesWorld_size w 5 s⟩
 ·exact grownCap_ge w s.size 0 5
 ·exact ⟨rfl,rfl,rfl,by rw [Lib.bytesWorld_size];omega,fun k hk=>Lib.bytesWorld_at_old w 5 s k hk⟩
 ·intro j hj
  have hc : j < (Lib.bytesCells w 5 s).size:=by
   have : s.data.size = s.size:=rfl
   unfold Lib.bytesCells
   simp
   omega
  simp only [World.frozen?,Lib.bytesWorld_at_new]
  simp
  omega
mutual
def laws_FnPages.j0 : Nat → List Int → ByteArray → Bool → Int → List (S61) → Int → List (S61) → Option (Bool)
 | 0,_,_,_,_,_,_,_=>none
 | k + 1,x0,x4,x65,x393000,x393001,x403000,x403001=>if x65 = true then (none) else (laws_FnPages.l0 k x0 x4 0 0 x393000 x393001 x403000 x403001)
def laws_FnPages.l0 : Nat → List Int → ByteArray → Int → Int → Int → List (S61) → Int → List (S61) → Option (Bool)
 | 0,_,_,_,_,_,_,_,_=>none
 | k + 1,x0,x4,x10,x11,x393000,x393001,x403000,x403001=>if x11 < (x393001.length : Int) then (if 0 ≤ x11 then (if x11 < (x403001.length : Int) then (if (!((((rd_T61 x403001 x11).f0).toList) == (((rd_T61 x393001 x11).f0).toList)) || (!((((rd_T61 x403001 x11).f1).toList) == (((rd_T61 x393001 x11).f1).toList)) || (!(((rd_T61 x403001 x11).f2) == ((rd_T61 x393001 x11).f2))))) = true then (none) else ((impl_ItemSize.f k x393000 ((rd_T61 x393001 x11).f0) ((rd_T61 x393001 x11).f1) ((rd_T61 x393001 x11).f2)).bind fun t406=>(laws_FnPages.l0 k x0 x4 (wrap64 (x10 + t406)) (wrap64 (x11 + 1)) x393000 x393001 x403000 x403001))) else (none)) else (none)) else (pagesEnd k x0 x4 x10)
end
def laws_FnPages.f (k : Nat) (l0 : List Int) : Option (Bool):=(laws_big.f l0).bind fun t387=>(if t387 = true then (some true) else ((spec_DrawPageText.f k l0).bind fun bt388=>((impl_PageText.f k bt388.1 bt388.2).bind fun bt393=>((spec_PageText.f k bt388.1 bt388.2).bind fun bt395=>((impl_ReadPage.f k bt393.1).bind fun bt397=>(if (bt393.2 != bt395.2) = true then (none) else (if bt393.2 = true then (if bt397.2.2 = true then (if bt397.1 = bt388.1 then (if (bt397.2.1.length : Int) = (bt388.2.length : Int) then (laws_FnPages.j0 k l0 bt393.1 (decide ((bt393.1.size : Int) > 64)) bt388.1 bt388.2 bt397.1 bt397.2.1) else (none)) else (none)) else (none)) else (some (bt393.1.toList == ([] : List UInt8))))))))))
theorem laws_FnPages.mono_l : ∀ k,(∀ y0 y1 y2 y3 y4 y5 y6,LeO (laws_FnPages.j0 k y0 y1 y2 y3 y4 y5 y6) (laws_FnPages.j0 (k + 1) y0 y1 y2 y3 y4 y5 y6)) ∧ (∀ y0 y1 y2 y3 y4 y5 y6 y7,LeO (laws_FnPages.l0 k y0 y1 y2 y3 y4 y5 y6 y7) (laws_FnPages.l0 (k + 1) y0 y1 y2 y3 y4 y5 y6 y7))
 | 0=>⟨fun _ _ _ _ _ _ _ r h=>by simp [laws_FnPages.j0] at h,fun _ _ _ _ _ _ _ _ r h=>by simp [laws_FnPages.l0] at h⟩
 | k + 1=>by
  obtain ⟨ih0,ih1⟩:=laws_FnPages.mono_l k
  refine ⟨?_,?_⟩
  ·intro y0 y1 y2 y3 y4 y5 y6
   unfold laws_FnPages.j0
   repeat' first
   | (with_reducible exact ih0 _ _ _ _ _ _ _)
   | (with_reducible exact ih1 _ _ _ _ _ _ _ _)
   | (with_reducible exact impl_ItemSize.mono _ _ _ _ _)
   | (with_reducible exact impl_PageText.mono _ _ _)
   | (with_reducible exact impl_ReadPage.mono _ _)
   | (with_reducible exact spec_DrawPageText.mono _ _)
   | (with_reducible exact pagesEnd.mono _ _ _ _)
   | (with_reducible exact spec_PageText.mono _ _ _)
   | (with_reducible exact LeO.refl _)
   | (with_reducible exact LeO.none _)
   | (with_reducible refine LeO.ite ?_ ?_)
   | (with_reducible refine LeO.bind ?_ (fun _=>?_))
   | exact ih0 _ _ _ _ _ _ _
   | exact ih1 _ _ _ _ _ _ _ _
   | exact impl_ItemSize.mono _ _ _ _ _
   | exact impl_PageText.mono _ _ _
   | exact impl_ReadPage.mono _ _
   | exact spec_DrawPageText.mono _ _
   | exact spec_DrawPlaces.mono _ _
   | exact spec_PageText.mono _ _ _
   | exact LeO.none _
   | refine LeO.ite ?_ ?_
   | refine LeO.bind ?_ (fun _=>?_)
  ·intro y0 y1 y2 y3 y4 y5 y6 y7
   unfold laws_FnPages.l0
   repeat' first
   | (with_reducible exact ih0 _ _ _ _ _ _ _)
   | (with_reducible exact ih1 _ _ _ _ _ _ _ _)
   | (with_reducible exact impl_ItemSize.mono _ _ _ _ _)
   | (with_reducible exact impl_PageText.mono _ _ _)
   | (with_reducible exact impl_ReadPage.mono _ _)
   | (with_reducible exact spec_DrawPageText.mono _ _)
   | (with_reducible exact spec_DrawPlaces.mono _ _)
   | (with_reducible exact spec_PageText.mono _ _ _)
   | (with_reducible exact LeO.refl _)
   | (with_reducible exact LeO.none _)
   | (with_reducible refine LeO.ite ?_ ?_)
   | (with_reducible refine LeO.bind ?_ (fun _=>?_))
   | exact ih0 _ _ _ _ _ _ _
   | exact ih1 _ _ _ _ _ _ _ _
   | exact impl_ItemSize.mono _ _ _ _ _
   | exact impl_PageText.mono _ _ _
   | exact impl_ReadPage.mono _ _
   | exact spec_DrawPageText.mono _ _
   | exact spec_DrawPlaces.mono _ _
   | exact spec_PageText.mono _ _ _
   | exact LeO.none _
   | refine LeO.ite ?_ ?_
   | refine LeO.bind ?_ (fun _=>?_)
theorem laws_FnPages.mono : ∀ a0 k,LeO (laws_FnPages.f k a0) (laws_FnPages.f (k + 1) a0):=by
 intro a0 k
 obtain ⟨ih0,ih1⟩:=laws_FnPages.mono_l k
 unfold laws_FnPages.f
 repeat' first
   | (with_reducible exact ih0 _ _ _ _ _ _ _)
   | (with_reducible exact ih1 _ _ _ _ _ _ _ _)
   | (with_reducible exact impl_ItemSize.mono _ _ _ _ _)
   | (with_reducible exact impl_PageText.mono _ _ _)
   | (with_reducible exact impl_ReadPage.mono _ _)
   | (with_reducible exact spec_DrawPageText.mono _ _)
   | (with_reducible exact spec_DrawPlaces.mono _ _)
   | (with_reducible exact spec_PageText.mono _ _ _)
   | (with_reducible exact LeO.refl _)
   | (with_reducible exact LeO.none _)
   | (with_reducible refine LeO.ite ?_ ?_)
   | (with_reducible refine LeO.bind ?_ (fun _=>?_))
   | exact ih0 _ _ _ _ _ _ _
   | exact ih1 _ _ _ _ _ _ _ _
   | exact impl_ItemSize.mono _ _ _ _ _
   | exact impl_PageText.mono _ _ _
   | exact impl_ReadPage.mono _ _
   | exact spec_DrawPageText.mono _ _
   | exact spec_DrawPlaces.mono _ _
   | exact spec_PageText.mono _ _ _
   | exact LeO.none _
   | refine LeO.ite ?_ ?_
   | refine LeO.bind ?_ (fun _=>?_)
def laws_FnPages.T17 : Bool × List (List Nat × List Nat):=(true,[([],[]),([0],[0]),([],[]),([1,2],[1,2]),([3],[3]),([],[]),([5],[5]),([],[]),([6,7],[6,7]),([8],[8]),([4,9],[4,9])])
def laws_FnPages.B17 : List Nat:=[0,1,0,7,15,0,32,0,224,480,1023]
theorem laws_FnPages.tab17 : rtab .any (opsOf Try.f11 17) = laws_FnPages.T17:=by kernel_rfl
theorem laws_FnPages.bits17 : waitsOk laws_FnPages.T17.2 laws_FnPages.B17 = true:=by kernel_rfl
def laws_FnPages.T19 : Bool × List (List Nat × List Nat):=(true,[([],[]),([],[]),([1],[1]),([],[]),([3],[3]),([],[]),([4,5],[4,5]),([6],[6]),([2,7],[2,7]),([0,8],[0,8]),([9,8,0,1,2,3,4,5,6,7,8,9],[0,9])])
def laws_FnPages.B19 : List Nat:=[0,0,2,0,8,0,56,120,254,511,1023]
theorem laws_FnPages.tab19 : rtab .any (opsOf Try.f11 19) = laws_FnPages.T19:=by kernel_rfl
theorem laws_FnPages.bits19 : waitsOk laws_FnPages.T19.2 laws_FnPages.B19 = true:=by kernel_rfl
set_option maxHeartbeats 8000000 in
set_option maxRecDepth 100000 in
theorem laws_FnPages.calls (k : Nat) (A0 : Option Addr) (c0 : Nat) (l0 : List Int) (r : Bool) (w : World) (hr0 : Kd.C (Kd.int .u8) w A0 l0.length l0) (hc0 : l0.length ≤ c0) (h : laws_FnPages.f k l0 = some r) :
  Calls Try.prog 11 #[.slice A0 l0.length c0] w fun e w'=>e = .returned (.bool r) ∧ Below w.heap.size w w':=by
 have hu50:=Try.underlying50
 have hu61:=Try.underlying61
 have HR0:=qn.mk hr0
 have HC0:=qn.mk hc0
 clear hr0 hc0
 have HB:=qn.mk (Below.refl w.heap.size w)
 have H : ((laws_big.f l0).bind fun t387=>(if t387 = true then (some true) else ((spec_DrawPageText.f k l0).bind fun bt388=>((impl_PageText.f k bt388.1 bt388.2).bind fun bt393=>((spec_PageText.f k bt388.1 bt388.2).bind fun bt395=>((impl_ReadPage.f k bt393.1).bind fun bt397=>(if (bt393.2 != bt395.2) = true then (none) else (if bt393.2 = true then (if bt397.2.2 = true then (if bt397.1 = bt388.1 then (if (bt397.2.1.length : Int) = (bt388.2.length : Int) then (laws_FnPages.j0 k l0 bt393.1 (decide ((bt393.1.size : Int) > 64)) bt388.1 bt388.2 bt397.1 bt397.2.1) else (none)) else (none)) else (none)) else (some (bt393.1.toList == ([] : List UInt8))))))))))) = some r:=h
 clear h
 replace H:=Option.bind_eq_some_iff.mp H
 obtain ⟨t387,A20,H⟩:=H
 replace H : (if t387 = true then (some true) else ((spec_DrawPageText.f k l0).bind fun bt388=>((impl_PageText.f k bt388.1 bt388.2).bind fun bt393=>((spec_PageText.f k bt388.1 bt388.2).bind fun bt395=>((impl_ReadPage.f k bt393.1).bind fun bt397=>(if (bt393.2 != bt395.2) = true then (none) else (if bt393.2 = true then (if bt397.2.2 = true then (if bt397.1 = bt388.1 then (if (bt397.2.1.length : Int) = (bt388.2.length : Int) then (laws_FnPages.j0 k l0 bt393.1 (decide ((bt393.1.size : Int) > 64)) bt388.1 bt388.2 bt397.1 bt397.2.1) else (none)) else (none)) else (none)) else (some (bt393.1.toList == ([] : List UInt8)))))))))) = some r:=H
 have A2:=qn.mk A20
 clear A20
 by_cases c3 : t387 = true
 ·subst c3
  have H1 : (some true) = some r:=by rw [if_pos rfl] at H;exact H
  clear H
  have H:=H1
  clear H1
  obtain rfl:=Option.some.inj H
  go_enter Try.func11,Try.ntmps11
  go_wp2_with (first|((with_reducible refine gate_callee (f:=12) rfl ?_);refine goesL_ (some 18) rfl rfl Try.func12 (by kernel_rfl) rfl #[.slice A0 l0.length c0] rfl (by (try simp only [List.map_toArray,List.map_cons,List.map_nil]);first|done|rfl|(simp only [List.length_drop,List.length_take];rfl)) ?_;(with_reducible refine (laws_big.calls _ _ l0 true _ ?side1 ?side2 A2.out).mono ?_);(case side1=>repeat (first|exact HR0.out|(with_reducible refine Kd.C_alloc ?_ _)|(with_reducible refine Kd.C_drewN ?_ _)|(with_reducible refine Kd.C_drew ?_)));(case side2=>exact HC0.out);rintro e w' ⟨rfl,⟨nd,rfl⟩⟩;refine ⟨_,rfl,?_⟩))
  go_ret
  exact ⟨by first|rfl|(simp [errW_none,errW_some] <;> rfl)|(simp [*,errW_none,errW_some] <;> rfl),by repeat (first|(with_reducible first|exact HB.out|apply qf|apply qa|apply qd)|exact HB.out)⟩
 ·replace c3:=Bool.eq_false_iff.mpr c3
  subst c3
  have H1 : ((spec_DrawPageText.f k l0).bind fun bt388=>((impl_PageText.f k bt388.1 bt388.2).bind fun bt393=>((spec_PageText.f k bt388.1 bt388.2).bind fun bt395=>((impl_ReadPage.f k bt393.1).bind fun bt397=>(if (bt393.2 != bt395.2) = true then (none) else (if bt393.2 = true then (if bt397.2.2 = true then (if bt397.1 = bt388.1 then (if (bt397.2.1.length : Int) = (bt388.2.length : Int) then (laws_FnPages.j0 k l0 bt393.1 (decide ((bt393.1.size : Int) > 64)) bt388.1 bt388.2 bt397.1 bt397.2.1) else (none)) else (none)) else (none)) else (some (bt393.1.toList == ([] : List UInt8))))))))) = some r:=by rw [if_neg (show ¬ (false = true) by decide)] at H;exact H
  clear H
  have H:=H1
  clear H1
  replace H:=Option.bind_eq_some_iff.mp H
  obtain ⟨⟨t388,t389⟩,A40,H⟩:=H
  replace H : ((impl_PageText.f k t388 t389).bind fun bt393=>((spec_PageText.f k t388 t389).bind fun bt395=>((impl_ReadPage.f k bt393.1).bind fun bt397=>(if (bt393.2 != bt395.2) = true then (none) else (if bt393.2 = true then (if bt397.2.2 = true then (if bt397.1 = t388 then (if (bt397.2.1.length : Int) = (t389.length : Int) then (laws_FnPages.j0 k l0 bt393.1 (decide ((bt393.1.size : Int) > 64)) t388 t389 bt397.1 bt397.2.1) else (none)) else (none)) else (none)) else (some (bt393.1.toList == ([] : List UInt8)))))))) = some r:=H
  have A4:=qn.mk A40
  clear A40
  replace H:=Option.bind_eq_some_iff.mp H
  obtain ⟨⟨t393,t394⟩,A50,H⟩:=H
  replace H : ((spec_PageText.f k t388 t389).bind fun bt395=>((impl_ReadPage.f k t393).bind fun bt397=>(if (t394 != bt395.2) = true then (none) else (if t394 = true then (if bt397.2.2 = true then (if bt397.1 = t388 then (if (bt397.2.1.length : Int) = (t389.length : Int) then (laws_FnPages.j0 k l0 t393 (decide ((t393.size : Int) > 64)) t388 t389 bt397.1 bt397.2.1) else (none)) else (none)) else (none)) else (some (t393.toList == ([] : List UInt8))))))) = some r:=H
  have A5:=qn.mk A50
  clear A50
  replace H:=Option.bind_eq_some_iff.mp H
  obtain ⟨⟨t395,t396⟩,A60,H⟩:=H
  replace H : ((impl_ReadPage.f k t393).bind fun bt397=>(if (t394 != t396) = true then (none) else (if t394 = true then (if bt397.2.2 = true then (if bt397.1 = t388 then (if (bt397.2.1.length : Int) = (t389.length : Int) then (laws_FnPages.j0 k l0 t393 (decide ((t393.size : Int) > 64)) t388 t389 bt397.1 bt397.2.1) else (none)) else (none)) else (none)) else (some (t393.toList == ([] : List UInt8)))))) = some r:=H
  have A6:=qn.mk A60
  clear A60
  replace H:=Option.bind_eq_some_iff.mp H
  obtain ⟨⟨t397,t398,t401⟩,A70,H⟩:=H
  replace H : (if (t394 != t396) = true then (none) else (if t394 = true then (if t401 = true then (if t397 = t388 then (if (t398.length : Int) = (t389.length : Int) then (laws_FnPages.j0 k l0 t393 (decide ((t393.size : Int) > 64)) t388 t389 t397 t398) else (none)) else (none)) else (none)) else (some (t393.toList == ([] : List UInt8))))) = some r:=H
  have A7:=qn.mk A70
  clear A70
  by_cases c8 : (t394 != t396) = true
  ·rw [if_pos c8] at H
   exact absurd H (by simp)
  ·rw [if_neg c8] at H
   have c8b0 : (t394 != t396) = false:=by simpa using c8
   (try (have c8b1 : decide (t394 = t396) = true:=by simpa using c8))
   (try (have c8b2 : (t394 == t396) = true:=by simpa using c8))
   clear c8
   by_cases c21 : t394 = true
   ·subst c21
    have H1 : (if t401 = true then (if t397 = t388 then (if (t398.length : Int) = (t389.length : Int) then (laws_FnPages.j0 k l0 t393 (decide ((t393.size : Int) > 64)) t388 t389 t397 t398) else (none)) else (none)) else (none)) = some r:=by rw [if_pos rfl] at H;exact H
    clear H
    have H:=H1
    clear H1
    have HC22:=qn.mk H
    clear H
    go_enter Try.func11,Try.ntmps11
    go_upto_region 11 with (first|((with_reducible refine gate_callee (f:=12) rfl ?_);refine goesL_ (some 18) rfl rfl Try.func12 (by kernel_rfl) rfl #[.slice A0 l0.length c0] rfl (by (try simp only [List.map_toArray,List.map_cons,List.map_nil]);first|done|rfl|(simp only [List.length_drop,List.length_take];rfl)) ?_;(with_reducible refine (laws_big.calls _ _ l0 false _ ?side1 ?side2 A2.out).mono ?_);(case side1=>repeat (first|exact HR0.out|(with_reducible refine Kd.C_alloc ?_ _)|(with_reducible refine Kd.C_drewN ?_ _)|(with_reducible refine Kd.C_drew ?_)));(case side2=>exact HC0.out);rintro e w' ⟨rfl,⟨nd,rfl⟩⟩;refine ⟨_,rfl,?_⟩)|((with_reducible refine gate_callee (f:=51) rfl ?_);refine goesL_ (some 20) rfl rfl Try.func51 (by kernel_rfl) rfl #[.slice A0 l0.length c0] rfl (by (try simp only [List.map_toArray,List.map_cons,List.map_nil]);first|done|rfl|(simp only [List.length_drop,List.length_take];rfl)) ?_;(with_reducible refine (spec_DrawPageText.calls k _ _ l0 t388 t389 _ ?side1 ?side2 A4.out).mono ?_);(case side1=>repeat (first|exact HR0.out|(with_reducible refine Kd.C_alloc ?_ _)|(with_reducible refine Kd.C_drewN ?_ _)|(with_reducible refine Kd.C_drew ?_)));(case side2=>exact HC0.out);rintro e w23 ⟨v390,rfl,ho0,hb⟩;refine ⟨_,rfl,?_⟩;have n0_:=qn.mk (Kd.R_lower ho0 (qj (by repeat (first|(with_reducible first|exact HB.out|apply qf|apply qa|apply qd)|exact HB.out))));have n1_:=hs_ HB hb;clear HB;have HO391:=n0_;have HB:=n1_;clear n0_ n1_;(try clear hb);(try clear hb2);(try clear hk);(try clear hi);(try clear ho0))|((with_reducible refine gate_dst (N:=3) rfl ?_);(try (refine gate_guard (by rfl) ?_;dsimp only));refine box_event ?hg (N:=3) ?hd (cs:=#[.int .i64 0,.slice none 0 0]) (t:=50) ?hr ?_;(case hd=>rfl);(case hg=>rfl);(case hr=>first|(go_simp;done)|(go_simp;rfl));intro gb392 hg w24 hbox hb;have n0_:=rb_ HO391 hb;have n1_:=hs_ HB hb;have n2_:=qn.mk (hbox);have n3_:=qn.mk ((by rw [hg];exact (qj (by repeat (first|(with_reducible first|exact HB.out|apply qf|apply qa|apply qd)|exact HB.out))) : w.heap.size ≤ gb392));have n4_:=qn.mk ((by rw [hg];exact (qj (by repeat (first|(with_reducible first|exact HB.out|apply qf|apply qa|apply qd)|exact HB.out))) : w.heap.size ≤ gb392));clear HO391;clear HB;have HO391:=n0_;have HB:=n1_;have BK392:=n2_;have GW392:=n3_;have GE392:=n4_;clear n0_ n1_ n2_ n3_ n4_;clear hb hbox hg;have hcz25_0 : w24.cell? ⟨gb392,0,none⟩ = some (.int .i64 0):=(qh BK392.out 0).trans rfl;have hcz25_1 : w24.cell? ⟨gb392,1,none⟩ = some (.slice none 0 0):=(qh BK392.out 1).trans rfl;have hfz25_0:=qi BK392.out 0;have hfz25_1:=qi BK392.out 1;obtain ⟨Ao26,co26,eo26⟩:=Kd.R_slice HO391.out;subst eo26)|((with_reducible refine gate_callee (f:=52) rfl ?_);refine goesL_ (some 23) rfl rfl Try.func52 (by kernel_rfl) rfl #[.agg #[.int .i64 t388,.slice Ao26 t389.length co26]] rfl (by (try simp only [List.map_toArray,List.map_cons,List.map_nil]);first|done|rfl|(simp only [List.length_drop,List.length_take];rfl)) ?_;(with_reducible refine (impl_PageText.calls k t388 _ _ t389 t393 true _ ?side1 ?side2 A5.out).mono ?_);(case side1=>refine (Kd.R_reads' (e:=61) (base:=w.heap.size) (ok:=fun k_=>True) (n:=t389.length) (c:=co26) ?_).2.2;exact (by (with_reducible repeat (first|apply Kd.R_alloc|apply Kd.R_drewN|apply Kd.R_drew));exact (Kd.R_mono (Kd.R_far (p:=⟨gb392,1,none⟩) (Kd.R_far (p:=⟨gb392,0,none⟩) (Kd.R_types HO391.out BK392.out (by decide)) (fun _ hk=>hk.2) (.int .i64 t388)) (fun _ hk=>hk.2) (.slice Ao26 t389.length co26)) (fun _ h_=>h_.1))));(case side2=>exact (Kd.R_reads' HO391.out).2.1);rintro e w27 ⟨rfl,hb⟩;refine ⟨_,rfl,?_⟩;have n0_:=qn.mk (Kd.R_below (by (with_reducible repeat (first|apply Kd.R_alloc|apply Kd.R_drewN|apply Kd.R_drew));exact (Kd.R_mono (Kd.R_far (p:=⟨gb392,1,none⟩) (Kd.R_far (p:=⟨gb392,0,none⟩) (Kd.R_types HO391.out BK392.out (by decide)) (fun _ hk=>hk.2) (.int .i64 t388)) (fun _ hk=>hk.2) (.slice Ao26 t389.length co26)) (fun _ h_=>h_.1))) hb);have n1_:=qn.mk (ql (g:=gb392) (o:=.cells #[.int .i64 t388,.slice Ao26 t389.length co26] 50 (0,0)) (by (with_reducible repeat (first|refine qb ?_ _|refine qe ?_|refine qc ?_ _));refine blk_put (cs:=#[.int .i64 t388,.slice none 0 0]) ?_ 1 _ rfl;(with_reducible repeat (first|refine qb ?_ _|refine qe ?_|refine qc ?_ _));refine blk_put (cs:=#[.int .i64 0,.slice none 0 0]) ?_ 0 _ rfl;(with_reducible repeat (first|refine qb ?_ _|refine qe ?_|refine qc ?_ _));exact BK392.out) hb);have n2_:=hs_ HB hb;clear HO391;clear BK392;clear HB;have HO391:=n0_;have BK392:=n1_;have HB:=n2_;clear n0_ n1_ n2_;(try clear hb);(try clear hb2);(try clear hk);(try clear hi);have hcz28_0 : w27.cell? ⟨gb392,0,none⟩ = some (.int .i64 t388):=(qh BK392.out 0).trans rfl;have hcz28_1 : w27.cell? ⟨gb392,1,none⟩ = some (.slice Ao26 t389.length co26):=(qh BK392.out 1).trans rfl;have hfz28_0:=qi BK392.out 0;have hfz28_1:=qi BK392.out 1)|((with_reducible refine gate_callee (f:=53) rfl ?_);refine goesL_ (some 28) rfl rfl Try.func53 (by kernel_rfl) rfl #[.agg #[.int .i64 t388,.slice Ao26 t389.length co26]] rfl (by (try simp only [List.map_toArray,List.map_cons,List.map_nil]);first|done|rfl|(simp only [List.length_drop,List.length_take];rfl)) ?_;(with_reducible refine (spec_PageText.calls k t388 _ _ t389 t395 t396 _ ?side1 ?side2 A6.out).mono ?_);(case side1=>repeat (first|exact (Kd.R_reads' HO391.out).2.2|(with_reducible refine Kd.C_alloc ?_ _)|(with_reducible refine Kd.C_drewN ?_ _)|(with_reducible refine Kd.C_drew ?_)));(case side2=>exact (Kd.R_reads' HO391.out).2.1);rintro e w29 ⟨rfl,hb⟩;refine ⟨_,rfl,?_⟩;have n0_:=rb_ HO391 hb;have n1_:=bb_ BK392 hb;have n2_:=hs_ HB hb;clear HO391;clear BK392;clear HB;have HO391:=n0_;have BK392:=n1_;have HB:=n2_;clear n0_ n1_ n2_;(try clear hb);(try clear hb2);(try clear hk);(try clear hi))|((with_reducible refine gate_callee (f:=26) rfl ?_);refine goesL_ (some 33) rfl rfl Try.func26 (by kernel_rfl) rfl #[.string t393] rfl (by (try simp only [List.map_toArray,List.map_cons,List.map_nil]);first|done|rfl|(simp only [List.length_drop,List.length_take];rfl)) ?_;(with_reducible refine (impl_ReadPage.calls k t393 t397 t398 t401 _ A7.out).mono ?_);rintro e w30 ⟨v399,rfl,ho0,hb⟩;refine ⟨_,rfl,?_⟩;have n0_:=qn.mk (Kd.R_elder' (by (with_reducible repeat (first|apply Kd.R_alloc|apply Kd.R_drewN|apply Kd.R_drew));exact HO391.out) (Kd.R_base ho0) hb);have n1_:=qn.mk (Kd.R_lower (Kd.R_new' ho0 (Kd.R_lt (by (with_reducible repeat (first|apply Kd.R_alloc|apply Kd.R_drewN|apply Kd.R_drew));exact HO391.out))) (qj (by repeat (first|(with_reducible first|exact HB.out|apply qf|apply qa|apply qd|refine qg ?_ GE392.out)|exact HB.out))));have n2_:=bb_ BK392 hb;have n3_:=hs_ HB hb;clear HO391;clear BK392;clear HB;have HO391:=n0_;have HO400:=n1_;have BK392:=n2_;have HB:=n3_;clear n0_ n1_ n2_ n3_;(try clear hb);(try clear hb2);(try clear hk);(try clear hi);(try clear ho0))|((with_reducible refine gate_dst (N:=8) rfl ?_);(try (refine gate_guard (by rfl) ?_;dsimp only));refine box_event ?hg (N:=8) ?hd (cs:=#[.int .i64 0,.slice none 0 0]) (t:=50) ?hr ?_;(case hd=>rfl);(case hg=>rfl);(case hr=>first|(go_simp;done)|(go_simp;rfl));intro gb402 hg w31 hbox hb;have n0_:=rb_ HO391 hb;have n1_:=rb_ HO400 hb;have n2_:=bb_ BK392 hb;have n3_:=hs_ HB hb;have n4_:=qn.mk (hbox);have n5_:=qn.mk ((by rw [hg];exact (qj (by repeat (first|(with_reducible first|exact HB.out|apply qf|apply qa|apply qd|refine qg ?_ GE392.out)|exact HB.out))) : w.heap.size ≤ gb402));have n6_:=qn.mk ((by rw [hg];exact (qj (by repeat (first|(with_reducible first|exact HB.out|apply qf|apply qa|apply qd|refine qg ?_ GE392.out)|exact HB.out))) : w.heap.size ≤ gb402));have n7_:=qn.mk ((by rw [hg];exact nl_ BK392 : gb392 ≠ gb402));have n8_:=qn.mk ((by rw [hg];exact ng_ BK392 : gb402 ≠ gb392));clear HO391;clear HO400;clear BK392;clear HB;have HO391:=n0_;have HO400:=n1_;have BK392:=n2_;have HB:=n3_;have BK402:=n4_;have GW402:=n5_;have GE402:=n6_;have NB392_402:=n7_;have NB402_392:=n8_;clear n0_ n1_ n2_ n3_ n4_ n5_ n6_ n7_ n8_;clear hb hbox hg;have hnb32:=NB402_392.out;have hnc32:=NB392_402.out;have hcz33_0 : w31.cell? ⟨gb402,0,none⟩ = some (.int .i64 0):=(qh BK402.out 0).trans rfl;have hcz33_1 : w31.cell? ⟨gb402,1,none⟩ = some (.slice none 0 0):=(qh BK402.out 1).trans rfl;have hfz33_0:=qi BK402.out 0;have hfz33_1:=qi BK402.out 1;obtain ⟨Ao34,co34,eo34⟩:=Kd.R_slice HO400.out;subst eo34))
    (try simp only [Act.put,List.setIfInBounds_toArray,List.set_cons_zero,List.set_cons_succ])
    go_cut [65] (fun v65 wc=>∃ (kq : Nat) (x65_21 : Bool),v65 = .bool x65_21 ∧ qn (laws_FnPages.j0 kq l0 t393 x65_21 t388 t389 t397 t398 = some r) ∧ qn (kq ≤ k) ∧ qn (Kd.R k61 61 wc w.heap.size (fun k_=>some k_ ≠ ((.slice Ao34 t398.length co34) : Value).ownBlock) (.slice Ao26 t389.length co26) t389) ∧ qn (Kd.R k61 61 wc w.heap.size (fun k_=>some k_ ≠ ((.slice Ao26 t389.length co26) : Value).ownBlock) (.slice Ao34 t398.length co34) t398) ∧ qn (wc.heap[gb392]? = some (.cells #[.int .i64 t388,(.slice Ao26 t389.length co26)] 50 (0,0))) ∧ qn (wc.heap[gb402]? = some (.cells #[.int .i64 t397,(.slice Ao34 t398.length co34)] 50 (0,0))) ∧ qn (Below w.heap.size w wc))
    case first =>
     have H:=HC22.out
     clear HC22
     by_cases c35 : t401 = true
     ·subst c35
      have H1 : (if t397 = t388 then (if (t398.length : Int) = (t389.length : Int) then (laws_FnPages.j0 k l0 t393 (decide ((t393.size : Int) > 64)) t388 t389 t397 t398) else (none)) else (none)) = some r:=by rw [if_pos rfl] at H;exact H
      clear H
      have H:=H1
      clear H1
      by_cases c36 : t397 = t388
      ·rw [if_pos c36] at H
       have c36b0 : (t397 == t388) = true:=beq_iff_eq.mpr c36
       have c36b1 : (t397 != t388) = false:=bne_eq_false_iff_eq.mpr c36
       clear c36
       (first|rw [c36b0]|(simp only [i64_w,i32_w];rw [c36b0])|skip)
       by_cases c37 : (t398.length : Int) = (t389.length : Int)
       ·rw [if_pos c37] at H
        have c37b0 : ((t398.length : Int) == (t389.length : Int)) = true:=beq_iff_eq.mpr c37
        have c37b1 : ((t398.length : Int) != (t389.length : Int)) = false:=bne_eq_false_iff_eq.mpr c37
        have c37b2 : (t398.length == t389.length) = true:=by first|simpa using c37|(simp at c37 ⊢;omega)
        clear c37
        have H':=qn.mk H
        clear H
        have hnb38:=NB402_392.out
        have hnc38:=NB392_402.out
        have hcz39_0 : w31.cell? ⟨gb402,0,none⟩ = some (.int .i64 0):=(qh BK402.out 0).trans rfl
        have hcz39_1 : w31.cell? ⟨gb402,1,none⟩ = some (.slice none 0 0):=(qh BK402.out 1).trans rfl
        have hfz39_0:=qi BK402.out 0
        have hfz39_1:=qi BK402.out 1
        have hcz40_0 : w31.cell? ⟨gb392,0,none⟩ = some (.int .i64 t388):=(qh BK392.out 0).trans rfl
        have hcz40_1 : w31.cell? ⟨gb392,1,none⟩ = some (.slice Ao26 t389.length co26):=(qh BK392.out 1).trans rfl
        have hfz40_0:=qi BK392.out 0
        have hfz40_1:=qi BK392.out 1
        go_wp2
        go_meet
        case rel=>exact ⟨_,(decide ((t393.size : Int) > 64)),(by first|rfl|(simp;done)|(simp [*];done)),H',⟨by first|omega|exact Nat.le_refl _⟩,⟨by (with_reducible repeat (first|apply Kd.R_alloc|apply Kd.R_drewN|apply Kd.R_drew));exact Kd.R_mono (Kd.R_far (p:=⟨gb402,1,none⟩) (Kd.R_far (p:=⟨gb402,0,none⟩) (Kd.R_types HO391.out BK402.out (by decide)) (fun _ hk=>hk.2) (.int .i64 t397)) (fun _ hk=>hk.2) (.slice Ao34 t398.length co34)) (fun _ hk=>hk.1.2)⟩,⟨by (with_reducible repeat (first|apply Kd.R_alloc|apply Kd.R_drewN|apply Kd.R_drew));exact Kd.R_mono (Kd.R_far (p:=⟨gb402,1,none⟩) (Kd.R_far (p:=⟨gb402,0,none⟩) (Kd.R_types HO400.out BK402.out (by decide)) (fun _ hk=>hk.2) (.int .i64 t397)) (fun _ hk=>hk.2) (.slice Ao34 t398.length co34)) (fun _ hk=>hk.1.2)⟩,⟨by (with_reducible repeat (first|refine qb ?_ _|refine qe ?_|refine qc ?_ _));refine blk_far ?_ NB392_402.out _;(with_reducible repeat (first|refine qb ?_ _|refine qe ?_|refine qc ?_ _));refine blk_far ?_ NB392_402.out _;(with_reducible repeat (first|refine qb ?_ _|refine qe ?_|refine qc ?_ _));exact BK392.out⟩,⟨by (with_reducible repeat (first|refine qb ?_ _|refine qe ?_|refine qc ?_ _));refine blk_put (cs:=#[.int .i64 t397,.slice none 0 0]) ?_ 1 _ rfl;(with_reducible repeat (first|refine qb ?_ _|refine qe ?_|refine qc ?_ _));refine blk_put (cs:=#[.int .i64 0,.slice none 0 0]) ?_ 0 _ rfl;(with_reducible repeat (first|refine qb ?_ _|refine qe ?_|refine qc ?_ _));exact BK402.out⟩,⟨by repeat (first|(with_reducible first|exact HB.out|apply qf|apply qa|apply qd|refine qg ?_ GE392.out|refine qg ?_ GE402.out)|exact HB.out)⟩⟩
       ·rw [if_neg c37] at H
        exact absurd H (by simp)
      ·rw [if_neg c36] at H
       exact absurd H (by simp)
     ·replace c35:=Bool.eq_false_iff.mpr c35
      subst c35
      have H1 : (none) = some r:=by rw [if_neg (show ¬ (false = true) by decide)] at H;exact H
      exact absurd H1 (by simp)
    case rest =>
     clear HC22
     try clear c1
     try clear c2
     try clear p2
     try clear c3
     try clear c4
     try clear c5
     try clear c8
     try clear c8b0
     try clear c8b1
     try clear c8b2
     try clear c11
     try clear c12
     try clear c18
     try clear c21
     try clear c26
     try clear c32
     try clear c35
     try clear c36
     try clear c36b0
     try clear c36b1
     try clear c37
     try clear c37b0
     try clear c37b1
     try clear c37b2
     try clear c38
     try clear c41
     try clear c44
     try clear hcz11_0
     try clear hcz11_1
     try clear hcz14_0
     try clear hcz14_1
     try clear hcz19_0
     try clear hcz19_1
     try clear hcz25_0
     try clear hcz25_1
     try clear hcz28_0
     try clear hcz28_1
     try clear hcz33_0
     try clear hcz33_1
     try clear hcz39_0
     try clear hcz39_1
     try clear hcz40_0
     try clear hcz40_1
     try clear hcz42_0
     try clear hcz42_1
     try clear hcz43_0
     try clear hcz43_1
     try clear hcz45_0
     try clear hcz45_1
     try clear hcz46_0
     try clear hcz46_1
     try clear hfz11_0
     try clear hfz11_1
     try clear hfz14_0
     try clear hfz14_1
     try clear hfz19_0
     try clear hfz19_1
     try clear hfz25_0
     try clear hfz25_1
     try clear hfz28_0
     try clear hfz28_1
     try clear hfz33_0
     try clear hfz33_1
     try clear hfz39_0
     try clear hfz39_1
     try clear hfz40_0
     try clear hfz40_1
     try clear hfz42_0
     try clear hfz42_1
     try clear hfz43_0
     try clear hfz43_1
     try clear hfz45_0
     try clear hfz45_1
     try clear hfz46_0
     try clear hfz46_1
     obtain ⟨kq,x65_21,rfl,HA,HJ21,HO_393001,HO_403001,BK392,BK402,HB⟩:=hcut
     cases kq with
     | zero=>exact absurd HA.out (by simp [laws_FnPages.j0])
     | succ kj21 =>
      have H:=HA.out
      clear HA
      simp only [laws_FnPages.j0] at H
      by_cases c47 : x65_21 = true
      ·subst c47
       have H1 : (none) = some r:=by rw [if_pos rfl] at H;exact H
       exact absurd H1 (by simp)
      ·replace c47:=Bool.eq_false_iff.mpr c47
       subst c47
       have H1 : (laws_FnPages.l0 kj21 l0 t393 0 0 t388 t389 t397 t398) = some r:=by rw [if_neg (show ¬ (false = true) by decide)] at H;exact H
       clear H
       have H:=H1
       clear H1
       have H':=qn.mk H
       clear H
       go_wp2
       go_loopg [10,11] kj21 (fun kq v10 v11 w'=>∃ (x10_2 : Int) (x11_2 : Int),v10 = .int .i64 x10_2 ∧ v11 = .int .i64 x11_2 ∧ qn (laws_FnPages.l0 kq l0 t393 x10_2 x11_2 t388 t389 t397 t398 = some r) ∧ qn (kq ≤ kj21) ∧ qn (Kd.R k61 61 w' w.heap.size (fun k_=>some k_ ≠ ((.slice Ao34 t398.length co34) : Value).ownBlock) (.slice Ao26 t389.length co26) t389) ∧ qn (Kd.R k61 61 w' w.heap.size (fun k_=>some k_ ≠ ((.slice Ao26 t389.length co26) : Value).ownBlock) (.slice Ao34 t398.length co34) t398) ∧ qn (w'.heap[gb392]? = some (.cells #[.int .i64 t388,(.slice Ao26 t389.length co26)] 50 (0,0))) ∧ qn (w'.heap[gb402]? = some (.cells #[.int .i64 t397,(.slice Ao34 t398.length co34)] 50 (0,0))) ∧ qn (Below w.heap.size w w'))
       case atStart=>exact ⟨(0),(0),(by first|rfl|(simp;done)|(simp [*];done)),(by first|rfl|(simp;done)|(simp [*];done)),H',⟨Nat.le_refl _⟩,⟨by (with_reducible repeat (first|apply Kd.R_alloc|apply Kd.R_drewN|apply Kd.R_drew));exact HO_393001.out⟩,⟨by (with_reducible repeat (first|apply Kd.R_alloc|apply Kd.R_drewN|apply Kd.R_drew));exact HO_403001.out⟩,⟨by (with_reducible repeat (first|refine qb ?_ _|refine qe ?_|refine qc ?_ _));exact BK392.out⟩,⟨by (with_reducible repeat (first|refine qb ?_ _|refine qe ?_|refine qc ?_ _));exact BK402.out⟩,⟨by repeat (first|(with_reducible first|exact HB.out|apply qf|apply qa|apply qd|refine qg ?_ GE392.out|refine qg ?_ GE402.out)|exact HB.out)⟩⟩
       case round =>
        clear H'
        try clear c1
        try clear c2
        try clear p2
        try clear c3
        try clear c4
        try clear c5
        try clear c8
        try clear c8b0
        try clear c8b1
        try clear c8b2
        try clear c11
        try clear c12
        try clear c18
        try clear c21
        try clear c26
        try clear c32
        try clear c35
        try clear c36
        try clear c36b0
        try clear c36b1
        try clear c37
        try clear c37b0
        try clear c37b1
        try clear c37b2
        try clear c38
        try clear c41
        try clear c44
        try clear c47
        try clear hcz11_0
        try clear hcz11_1
        try clear hcz14_0
        try clear hcz14_1
        try clear hcz19_0
        try clear hcz19_1
        try clear hcz25_0
        try clear hcz25_1
        try clear hcz28_0
        try clear hcz28_1
        try clear hcz33_0
        try clear hcz33_1
        try clear hcz39_0
        try clear hcz39_1
        try clear hcz40_0
        try clear hcz40_1
        try clear hcz42_0
        try clear hcz42_1
        try clear hcz43_0
        try clear hcz43_1
        try clear hcz45_0
        try clear hcz45_1
        try clear hcz46_0
        try clear hcz46_1
        try clear hfz11_0
        try clear hfz11_1
        try clear hfz14_0
        try clear hfz14_1
        try clear hfz19_0
        try clear hfz19_1
        try clear hfz25_0
        try clear hfz25_1
        try clear hfz28_0
        try clear hfz28_1
        try clear hfz33_0
        try clear hfz33_1
        try clear hfz39_0
        try clear hfz39_1
        try clear hfz40_0
        try clear hfz40_1
        try clear hfz42_0
        try clear hfz42_1
        try clear hfz43_0
        try clear hfz43_1
        try clear hfz45_0
        try clear hfz45_1
        try clear hfz46_0
        try clear hfz46_1
        try clear p2
        obtain ⟨x10_2,x11_2,rfl,rfl,HA,HK2,HO_393001,HO_403001,BK392,BK402,HB⟩:=hrel
        cases gk with
        | zero=>exact absurd HA.out (by simp [laws_FnPages.l0])
        | succ k2 =>
         have H:=HA.out
         clear HA
         simp only [laws_FnPages.l0] at H
         by_cases c48 : x11_2 < (t389.length : Int)
         ·rw [if_pos c48] at H
          have c48b0 : decide (x11_2 < (t389.length : Int)) = true:=decide_eq_true c48
          clear c48
          by_cases c49 : 0 ≤ x11_2
          ·rw [if_pos c49] at H
           have c49b0 : decide (0 ≤ x11_2) = true:=decide_eq_true c49
           clear c49
           by_cases c50 : x11_2 < (t398.length : Int)
           ·rw [if_pos c50] at H
            have c50b0 : decide (x11_2 < (t398.length : Int)) = true:=decide_eq_true c50
            clear c50
            by_cases c51 : (!((((rd_T61 t398 x11_2).f0).toList) == (((rd_T61 t389 x11_2).f0).toList)) || (!((((rd_T61 t398 x11_2).f1).toList) == (((rd_T61 t389 x11_2).f1).toList)) || (!(((rd_T61 t398 x11_2).f2) == ((rd_T61 t389 x11_2).f2))))) = true
            ·rw [if_pos c51] at H
             exact absurd H (by simp)
            ·rw [if_neg c51] at H
             have c51b0 : (!((((rd_T61 t398 x11_2).f0).toList) == (((rd_T61 t389 x11_2).f0).toList)) || (!((((rd_T61 t398 x11_2).f1).toList) == (((rd_T61 t389 x11_2).f1).toList)) || (!(((rd_T61 t398 x11_2).f2) == ((rd_T61 t389 x11_2).f2))))) = false:=by simpa using c51
             clear c51
             replace H:=Option.bind_eq_some_iff.mp H
             obtain ⟨t406,A550,H⟩:=H
             replace H : (laws_FnPages.l0 k2 l0 t393 (wrap64 (x10_2 + t406)) (wrap64 (x11_2 + 1)) t388 t389 t397 t398) = some r:=H
             have A55:=qn.mk A550
             clear A550
             have H':=qn.mk H
             clear H
             have hnb56:=NB392_402.out
             have hnc56:=NB402_392.out
             have hcz57_0 : wr.cell? ⟨gb392,0,none⟩ = some (.int .i64 t388):=(qh BK392.out 0).trans rfl
             have hcz57_1 : wr.cell? ⟨gb392,1,none⟩ = some (.slice Ao26 t389.length co26):=(qh BK392.out 1).trans rfl
             have hfz57_0:=qi BK392.out 0
             have hfz57_1:=qi BK392.out 1
             try go_wp2
             have n0_:=qn.mk (Kd.R_drew HO_393001.out)
             have n1_:=qn.mk (Kd.R_drew HO_403001.out)
             have n2_:=qn.mk (qe BK392.out)
             have n3_:=qn.mk (qe BK402.out)
             have n4_:=qn.mk (qd HB.out)
             clear HO_393001
             clear HO_403001
             clear BK392
             clear BK402
             clear HB
             have HO_393001:=n0_
             have HO_403001:=n1_
             have BK392:=n2_
             have BK402:=n3_
             have HB:=n4_
             clear n0_ n1_ n2_ n3_ n4_
             have p403 : 0 ≤ (x11_2 : Int):=of_decide_eq_true (by first|(with_reducible assumption)|assumption)
             have q403 : x11_2 < (t398.length : Int):=of_decide_eq_true (by first|(with_reducible assumption)|assumption)
             obtain ⟨ad403,e403,hx403_0,hx403_1,hx403_2⟩:=at_T61 (Kd.R_reads' HO_403001.out).2.2 x11_2 p403 q403
             cases e403
             replace p403:=eq_true p403
             replace q403:=eq_true q403
             have p404 : 0 ≤ (x11_2 : Int):=of_decide_eq_true (by first|(with_reducible assumption)|assumption)
             have q404 : x11_2 < (t389.length : Int):=of_decide_eq_true (by first|(with_reducible assumption)|assumption)
             obtain ⟨ad404,e404,hx404_0,hx404_1,hx404_2⟩:=at_T61 (Kd.R_reads' HO_393001.out).2.2 x11_2 p404 q404
             cases e404
             replace p404:=eq_true p404
             replace q404:=eq_true q404
             refine start_ (n:=11) (S:=fun w'=>w'.cell? ⟨gb402,0,none⟩ = some (.int .i64 t397) ∧ w'.cell? ⟨gb402,1,none⟩ = some (.slice (some ad403) t398.length co34) ∧ w'.cell? ⟨gb392,0,none⟩ = some (.int .i64 t388) ∧ w'.cell? ⟨gb392,1,none⟩ = some (.slice (some ad404) t389.length co26) ∧ w'.cell? (ad403.add ((x11_2).toNat * 3)) = some (.string ((rd_T61 t398 x11_2).f0)) ∧ w'.cell? ⟨(ad403.add ((x11_2).toNat * 3)).block,(ad403.add ((x11_2).toNat * 3)).off + 1,none⟩ = some (.string ((rd_T61 t398 x11_2).f1)) ∧ w'.cell? ⟨(ad403.add ((x11_2).toNat * 3)).block,(ad403.add ((x11_2).toNat * 3)).off + 2,none⟩ = some (.int .i64 ((rd_T61 t398 x11_2).f2)) ∧ w'.cell? (ad404.add ((x11_2).toNat * 3)) = some (.string ((rd_T61 t389 x11_2).f0)) ∧ w'.cell? ⟨(ad404.add ((x11_2).toNat * 3)).block,(ad404.add ((x11_2).toNat * 3)).off + 1,none⟩ = some (.string ((rd_T61 t389 x11_2).f1)) ∧ w'.cell? ⟨(ad404.add ((x11_2).toNat * 3)).block,(ad404.add ((x11_2).toNat * 3)).off + 2,none⟩ = some (.int .i64 ((rd_T61 t389 x11_2).f2))) (ds:=[]) #[false,false,false,false,false,false,false,false,false,false,false] (by kernel_rfl) rfl rfl ⟨(qh BK402.out 0).trans rfl,(qh BK402.out 1).trans rfl,(qh BK392.out 0).trans rfl,(qh BK392.out 1).trans rfl,hx403_0,hx403_1,hx403_2,hx404_0,hx404_1,hx404_2⟩ (fun hHeld=>?_);refine with_tabW laws_FnPages.tab17 laws_FnPages.bits17 (fun HT_ HW_=>?_)
             generalize wr.drew = w58 at HO_393001 HO_403001 BK392 BK402 HB hx403_0 hx403_1 hx403_2 hx404_0 hx404_1 hx404_2 hHeld ⊢
             refine pure_ (i:=0) (N:=some 73) (v:=?_) (a':=?_) #[true,false,false,false,false,false,false,false,false,false,false] rfl rfl (any_of HT_.out (by kernel_rfl)) (fun _ _ _ h=>h) (Or.inl ⟨by rfl,?_⟩) ?_ ?_
             rotate_left
             ·intro w'
              go_simp
              with_reducible rfl
             rotate_left
             ·simp only [Act.put,List.setIfInBounds_toArray,List.set_cons_zero,List.set_cons_succ,i64_w,i32_w]
              rfl
             refine pure_ (i:=2) (N:=some 75) (v:=?_) (a':=?_) #[true,false,true,false,false,false,false,false,false,false,false] rfl rfl (any_of HT_.out (by kernel_rfl)) (fun _ _ _ h=>h) (Or.inl ⟨by rfl,?_⟩) ?_ ?_
             rotate_left
             ·intro w'
              go_simp
              with_reducible rfl
             rotate_left
             ·simp only [Act.put,List.setIfInBounds_toArray,List.set_cons_zero,List.set_cons_succ,i64_w,i32_w]
              rfl
             refine pure_ (i:=5) (N:=some 78) (v:=?_) (a':=?_) #[true,false,true,false,false,true,false,false,false,false,false] rfl rfl (any_of HT_.out (by kernel_rfl)) (fun _ _ _ h=>h) (Or.inl ⟨by rfl,?_⟩) ?_ ?_
             rotate_left
             ·intro w'
              go_simp
              with_reducible rfl
             rotate_left
             ·simp only [Act.put,List.setIfInBounds_toArray,List.set_cons_zero,List.set_cons_succ,i64_w,i32_w]
              rfl
             refine pure_ (i:=7) (N:=some 80) (v:=?_) (a':=?_) #[true,false,true,false,false,true,false,true,false,false,false] rfl rfl (any_of HT_.out (by kernel_rfl)) (fun _ _ _ h=>h) (Or.inl ⟨by rfl,?_⟩) ?_ ?_
             rotate_left
             ·intro w'
              go_simp
              with_reducible rfl
             rotate_left
             ·simp only [Act.put,List.setIfInBounds_toArray,List.set_cons_zero,List.set_cons_succ,i64_w,i32_w]
              rfl
             refine take_ (i:=1) (N:=some 74) (v:=?_) (a':=?_) #[true,true,true,false,false,true,false,true,false,false,false] rfl rfl (take_ofW HT_.out HW_.out (by kernel_rfl)) (fun _ _ _ h=>h) (Or.inl ⟨by rfl,?_⟩) hHeld ?_ ?_
             rotate_left
             ·rintro w' ⟨s0,s1,s2,s3,s4,s5,s6,s7,s8,s9⟩
              go_simp
              with_reducible rfl
             rotate_left
             ·simp only [Act.put,List.setIfInBounds_toArray,List.set_cons_zero,List.set_cons_succ,i64_w,i32_w]
              rfl
             refine pure_ (i:=3) (N:=some 76) (v:=?_) (a':=?_) #[true,true,true,true,false,true,false,true,false,false,false] rfl rfl (any_of HT_.out (by kernel_rfl)) (fun _ _ _ h=>h) (Or.inl ⟨by rfl,?_⟩) ?_ ?_
             rotate_left
             ·intro w'
              go_simp
              with_reducible rfl
             rotate_left
             ·simp only [Act.put,List.setIfInBounds_toArray,List.set_cons_zero,List.set_cons_succ,i64_w,i32_w]
              rfl
             refine take_ (i:=4) (N:=some 77) (v:=?_) (a':=?_) #[true,true,true,true,true,true,false,true,false,false,false] rfl rfl (take_ofW HT_.out HW_.out (by kernel_rfl)) (fun _ _ _ h=>h) (Or.inl ⟨by rfl,?_⟩) hHeld ?_ ?_
             rotate_left
             ·rintro w' ⟨s0,s1,s2,s3,s4,s5,s6,s7,s8,s9⟩
              go_simp
              with_reducible rfl
             rotate_left
             ·simp only [Act.put,List.setIfInBounds_toArray,List.set_cons_zero,List.set_cons_succ,i64_w,i32_w]
              rfl
             refine take_ (i:=6) (N:=some 79) (v:=?_) (a':=?_) #[true,true,true,true,true,true,true,true,false,false,false] rfl rfl (take_ofW HT_.out HW_.out (by kernel_rfl)) (fun _ _ _ h=>h) (Or.inl ⟨by rfl,?_⟩) hHeld ?_ ?_
             rotate_left
             ·rintro w' ⟨s0,s1,s2,s3,s4,s5,s6,s7,s8,s9⟩
              go_simp
              with_reducible rfl
             rotate_left
             ·simp only [Act.put,List.setIfInBounds_toArray,List.set_cons_zero,List.set_cons_succ,i64_w,i32_w]
              rfl
             refine pure_ (i:=8) (N:=some 81) (v:=?_) (a':=?_) #[true,true,true,true,true,true,true,true,true,false,false] rfl rfl (any_of HT_.out (by kernel_rfl)) (fun _ _ _ h=>h) (Or.inl ⟨by rfl,?_⟩) ?_ ?_
             rotate_left
             ·intro w'
              go_simp
              with_reducible rfl
             rotate_left
             ·simp only [Act.put,List.setIfInBounds_toArray,List.set_cons_zero,List.set_cons_succ,i64_w,i32_w]
              rfl
             refine take_ (i:=9) (N:=some 82) (v:=?_) (a':=?_) #[true,true,true,true,true,true,true,true,true,true,false] rfl rfl (take_ofW HT_.out HW_.out (by kernel_rfl)) (fun _ _ _ h=>h) (Or.inl ⟨by rfl,?_⟩) hHeld ?_ ?_
             rotate_left
             ·rintro w' ⟨s0,s1,s2,s3,s4,s5,s6,s7,s8,s9⟩
              go_simp
              with_reducible rfl
             rotate_left
             ·simp only [Act.put,List.setIfInBounds_toArray,List.set_cons_zero,List.set_cons_succ,i64_w,i32_w]
              rfl
             refine pure_ (i:=10) (N:=some 83) (v:=?_) (a':=?_) #[true,true,true,true,true,true,true,true,true,true,true] rfl rfl (any_of HT_.out (by kernel_rfl)) (fun _ _ _ h=>h) (Or.inl ⟨by rfl,?_⟩) ?_ ?_
             rotate_left
             ·intro w'
              go_simp
              with_reducible rfl
             rotate_left
             ·simp only [Act.put,List.setIfInBounds_toArray,List.set_cons_zero,List.set_cons_succ,i64_w,i32_w]
              rfl
             refine done_ (done_of HT_.out (by kernel_rfl)) ?_
             try go_wp2
             have n0_:=qn.mk (Kd.R_drew HO_393001.out)
             have n1_:=qn.mk (Kd.R_drew HO_403001.out)
             have n2_:=qn.mk (qe BK392.out)
             have n3_:=qn.mk (qe BK402.out)
             have n4_:=qn.mk (qd HB.out)
             clear HO_393001
             clear HO_403001
             clear BK392
             clear BK402
             clear HB
             have HO_393001:=n0_
             have HO_403001:=n1_
             have BK392:=n2_
             have BK402:=n3_
             have HB:=n4_
             clear n0_ n1_ n2_ n3_ n4_
             have p405 : 0 ≤ (x11_2 : Int):=of_decide_eq_true (by first|(with_reducible assumption)|assumption)
             have q405 : x11_2 < (t389.length : Int):=of_decide_eq_true (by first|(with_reducible assumption)|assumption)
             obtain ⟨ad405,e405,hx405_0,hx405_1,hx405_2⟩:=at_T61 (Kd.R_reads' HO_393001.out).2.2 x11_2 p405 q405
             obtain rfl : ad404 = ad405:=(by injection e405)
             replace p405:=eq_true p405
             replace q405:=eq_true q405
             refine start_ (n:=11) (S:=fun w'=>w'.cell? ⟨gb392,0,none⟩ = some (.int .i64 t388) ∧ w'.cell? ⟨gb392,1,none⟩ = some (.slice (some ad404) t389.length co26) ∧ w'.cell? (ad404.add ((x11_2).toNat * 3)) = some (.string ((rd_T61 t389 x11_2).f0)) ∧ w'.cell? ⟨(ad404.add ((x11_2).toNat * 3)).block,(ad404.add ((x11_2).toNat * 3)).off + 1,none⟩ = some (.string ((rd_T61 t389 x11_2).f1)) ∧ w'.cell? ⟨(ad404.add ((x11_2).toNat * 3)).block,(ad404.add ((x11_2).toNat * 3)).off + 2,none⟩ = some (.int .i64 ((rd_T61 t389 x11_2).f2))) (ds:=[]) #[false,false,false,false,false,false,false,false,false,false,false] (by kernel_rfl) rfl rfl ⟨(qh BK392.out 0).trans rfl,(qh BK392.out 1).trans rfl,hx405_0,hx405_1,hx405_2⟩ (fun hHeld=>?_);refine with_tabW laws_FnPages.tab19 laws_FnPages.bits19 (fun HT_ HW_=>?_)
             generalize w58.drew = w59 at HO_393001 HO_403001 BK392 BK402 HB hx405_0 hx405_1 hx405_2 hHeld ⊢
             refine pure_ (i:=0) (N:=some 84) (v:=?_) (a':=?_) #[true,false,false,false,false,false,false,false,false,false,false] rfl rfl (any_of HT_.out (by kernel_rfl)) (fun _ _ _ h=>h) (Or.inl ⟨by rfl,?_⟩) ?_ ?_
             rotate_left
             ·intro w'
              go_simp
              with_reducible rfl
             rotate_left
             ·simp only [Act.put,List.setIfInBounds_toArray,List.set_cons_zero,List.set_cons_succ,i64_w,i32_w]
              rfl
             refine pure_ (i:=1) (N:=some 85) (v:=?_) (a':=?_) #[true,true,false,false,false,false,false,false,false,false,false] rfl rfl (any_of HT_.out (by kernel_rfl)) (fun _ _ _ h=>h) (Or.inl ⟨by rfl,?_⟩) ?_ ?_
             rotate_left
             ·intro w'
              go_simp
              with_reducible rfl
             rotate_left
             ·simp only [Act.put,List.setIfInBounds_toArray,List.set_cons_zero,List.set_cons_succ,i64_w,i32_w]
              rfl
             refine pure_ (i:=3) (N:=some 87) (v:=?_) (a':=?_) #[true,true,false,true,false,false,false,false,false,false,false] rfl rfl (any_of HT_.out (by kernel_rfl)) (fun _ _ _ h=>h) (Or.inl ⟨by rfl,?_⟩) ?_ ?_
             rotate_left
             ·intro w'
              go_simp
              with_reducible rfl
             rotate_left
             ·simp only [Act.put,List.setIfInBounds_toArray,List.set_cons_zero,List.set_cons_succ,i64_w,i32_w]
              rfl
             refine pure_ (i:=5) (N:=some 89) (v:=?_) (a':=?_) #[true,true,false,true,false,true,false,false,false,false,false] rfl rfl (any_of HT_.out (by kernel_rfl)) (fun _ _ _ h=>h) (Or.inl ⟨by rfl,?_⟩) ?_ ?_
             rotate_left
             ·intro w'
              go_simp
              with_reducible rfl
             rotate_left
             ·simp only [Act.put,List.setIfInBounds_toArray,List.set_cons_zero,List.set_cons_succ,i64_w,i32_w]
              rfl
             refine take_ (i:=2) (N:=some 86) (v:=?_) (a':=?_) #[true,true,true,true,false,true,false,false,false,false,false] rfl rfl (take_ofW HT_.out HW_.out (by kernel_rfl)) (fun _ _ _ h=>h) (Or.inl ⟨by rfl,?_⟩) hHeld ?_ ?_
             rotate_left
             ·rintro w' ⟨s0,s1,s2,s3,s4⟩
              go_simp
              with_reducible rfl
             rotate_left
             ·simp only [Act.put,List.setIfInBounds_toArray,List.set_cons_zero,List.set_cons_succ,i64_w,i32_w]
              rfl
             refine take_ (i:=4) (N:=some 88) (v:=?_) (a':=?_) #[true,true,true,true,true,true,false,false,false,false,false] rfl rfl (take_ofW HT_.out HW_.out (by kernel_rfl)) (fun _ _ _ h=>h) (Or.inl ⟨by rfl,?_⟩) hHeld ?_ ?_
             rotate_left
             ·rintro w' ⟨s0,s1,s2,s3,s4⟩
              go_simp
              with_reducible rfl
             rotate_left
             ·simp only [Act.put,List.setIfInBounds_toArray,List.set_cons_zero,List.set_cons_succ,i64_w,i32_w]
              rfl
             refine pure_ (i:=6) (N:=some 90) (v:=?_) (a':=?_) #[true,true,true,true,true,true,true,false,false,false,false] rfl rfl (any_of HT_.out (by kernel_rfl)) (fun _ _ _ h=>h) (Or.inl ⟨by rfl,?_⟩) ?_ ?_
             rotate_left
             ·intro w'
              go_simp
              with_reducible rfl
             rotate_left
             ·simp only [Act.put,List.setIfInBounds_toArray,List.set_cons_zero,List.set_cons_succ,i64_w,i32_w]
              rfl
             refine take_ (i:=7) (N:=some 91) (v:=?_) (a':=?_) #[true,true,true,true,true,true,true,true,false,false,false] rfl rfl (take_ofW HT_.out HW_.out (by kernel_rfl)) (fun _ _ _ h=>h) (Or.inl ⟨by rfl,?_⟩) hHeld ?_ ?_
             rotate_left
             ·rintro w' ⟨s0,s1,s2,s3,s4⟩
              go_simp
              with_reducible rfl
             rotate_left
             ·simp only [Act.put,List.setIfInBounds_toArray,List.set_cons_zero,List.set_cons_succ,i64_w,i32_w]
              rfl
             refine one_ (i:=8) (N:=some 92) #[true,true,true,true,true,true,true,true,true,false,false] rfl rfl (one_of HT_.out (by kernel_rfl)) (by decide) (fun K hK=>?_)
             refine goes_ Try.func54 (by kernel_rfl) rfl #[.int .i64 t388,.agg #[.string ((rd_T61 t389 x11_2).f0),.string ((rd_T61 t389 x11_2).f1),.int .i64 ((rd_T61 t389 x11_2).f2)]] (by rfl) rfl rfl (by (try simp only [List.map_toArray,List.map_cons,List.map_nil]);first|done|rfl|(simp only [List.length_drop,List.length_take];rfl)) ?_
             with_reducible refine (impl_ItemSize.calls k2 t388 ((rd_T61 t389 x11_2).f0) ((rd_T61 t389 x11_2).f1) ((rd_T61 t389 x11_2).f2) t406 _ A55.out).mono ?_
             rintro e w60 ⟨rfl,hb⟩
             have HS2_:=(hb.cell (World.block_lt_of_cell? _ _ (hHeld.2.2.1))).trans (hHeld.2.2.1)
             have HS3_:=(hb.cell (World.block_lt_of_cell? _ _ (hHeld.2.2.2.1))).trans (hHeld.2.2.2.1)
             have HS4_:=(hb.cell (World.block_lt_of_cell? _ _ (hHeld.2.2.2.2))).trans (hHeld.2.2.2.2)
             refine ⟨_,rfl,?_⟩
             have n0_:=rb_ HO_393001 hb
             have n1_:=rb_ HO_403001 hb
             have n2_:=bb_ BK392 hb
             have n3_:=bb_ BK402 hb
             have n4_:=hs_ HB hb
             clear HO_393001
             clear HO_403001
             clear BK392
             clear BK402
             clear HB
             have HO_393001:=n0_
             have HO_403001:=n1_
             have BK392:=n2_
             have BK402:=n3_
             have HB:=n4_
             clear n0_ n1_ n2_ n3_ n4_
             (try clear hb)
             (try clear hb2)
             (try clear hk)
             (try clear hi)
             refine hK.out _ _ ⟨(qh BK392.out 0).trans rfl,(qh BK392.out 1).trans rfl,HS2_,HS3_,HS4_⟩ (fun hHeld=>?_)
             clear hK K
             refine norm_ (a':=?_) ?_ ?_
             rotate_left
             ·show Act.put _ (some 92) _ = _
              simp only [Act.put,List.setIfInBounds_toArray,List.set_cons_zero,List.set_cons_succ,i64_w,i32_w]
              rfl
             refine pure_ (i:=9) (N:=some 93) (v:=?_) (a':=?_) #[true,true,true,true,true,true,true,true,true,true,false] rfl rfl (any_of HT_.out (by kernel_rfl)) (fun _ _ _ h=>h) (Or.inl ⟨by rfl,?_⟩) ?_ ?_
             rotate_left
             ·intro w'
              go_simp
              with_reducible rfl
             rotate_left
             ·simp only [Act.put,List.setIfInBounds_toArray,List.set_cons_zero,List.set_cons_succ,i64_w,i32_w]
              rfl
             refine pure_ (i:=10) (N:=some 10) (v:=?_) (a':=?_) #[true,true,true,true,true,true,true,true,true,true,true] rfl rfl (any_of HT_.out (by kernel_rfl)) (fun _ _ _ h=>h) (Or.inl ⟨by rfl,?_⟩) ?_ ?_
             rotate_left
             ·intro w'
              go_simp
              with_reducible rfl
             rotate_left
             ·simp only [Act.put,List.setIfInBounds_toArray,List.set_cons_zero,List.set_cons_succ,i64_w,i32_w]
              rfl
             refine done_ (done_of HT_.out (by kernel_rfl)) ?_
             try go_wp2
             go_roundg k2
             case measure=>have:=HJ21.out;have:=HK2.out;omega
             case rel=>exact ⟨(wrap64 (x10_2 + t406)),(wrap64 (x11_2 + 1)),(by first|rfl|(simp;done)|(simp [*];done)),(by first|rfl|(simp;done)|(simp [*];done)),H',⟨by have:=HJ21.out;have:=HK2.out;omega⟩,⟨by (with_reducible repeat (first|apply Kd.R_alloc|apply Kd.R_drewN|apply Kd.R_drew));exact HO_393001.out⟩,⟨by (with_reducible repeat (first|apply Kd.R_alloc|apply Kd.R_drewN|apply Kd.R_drew));exact HO_403001.out⟩,⟨by (with_reducible repeat (first|refine qb ?_ _|refine qe ?_|refine qc ?_ _));exact BK392.out⟩,⟨by (with_reducible repeat (first|refine qb ?_ _|refine qe ?_|refine qc ?_ _));exact BK402.out⟩,⟨by repeat (first|(with_reducible first|exact HB.out|apply qf|apply qa|apply qd|refine qg ?_ GE392.out|refine qg ?_ GE402.out)|exact HB.out)⟩⟩
           ·rw [if_neg c50] at H
            exact absurd H (by simp)
          ·rw [if_neg c49] at H
           exact absurd H (by simp)
         ·rw [if_neg c48] at H
          have c48b0 : decide (x11_2 < (t389.length : Int)) = false:=decide_eq_false c48
          clear c48
          replace H:=Option.bind_eq_some_iff.mp (show (spec_DrawPlaces.f k2 l0).bind (fun P=>pagesTurn k2 P t393 x10_2) = some r from H)
          obtain ⟨P,A610,H⟩:=H
          have A61:=qn.mk A610
          clear A610
          obtain ⟨hcond,H⟩:=pagesTurn_some H
          replace H:=Option.bind_eq_some_iff.mp H
          obtain ⟨⟨q1,q2,q3⟩,AX0,H⟩:=H
          replace H : some (!q3 && (x10_2 == wrap64 ((t393.size : Int) - 6))) = some r:=H
          obtain rfl:=Option.some.inj H
          obtain ⟨⟨hPl,h0,h1⟩,hs0,hs1⟩:=hcond
          obtain ⟨p0,e0⟩ : ∃ p,rd P 0 = p:=⟨_,rfl⟩
          obtain ⟨p1,e1⟩ : ∃ p,rd P 1 = p:=⟨_,rfl⟩
          rw [e0] at h0 AX0
          rw [e1] at h1 AX0
          obtain ⟨i,hi⟩ : ∃ i : Nat,p0 % (t393.size : Int) = (i : Int):=⟨(p0 % (t393.size : Int)).toNat,(Int.toNat_of_nonneg (Int.emod_nonneg _ (by omega))).symm⟩
          have hit : i < t393.size:=by have:=Int.emod_lt_of_pos p0 (show 0 < (t393.size : Int) by omega);omega
          have hx0:=fun j hj=>turnB_at (q:=p1) hi hit j hj
          have hxs0:=turnB_len t393 p0 p1
          obtain ⟨c,hc⟩ : ∃ c : Int,((t393.data.toList.getD i 0).toNat : Int) = c:=⟨_,rfl⟩
          have hcb : 0 ≤ c ∧ c < 256:=by have:=(t393.data.toList.getD i 0).toNat_lt;omega
          rw [hc] at hx0
          obtain ⟨v,hv⟩ : ∃ v,Go.bits .xor .u8 c (1 + p1 % 255) = v:=⟨_,rfl⟩
          have hvb : 0 ≤ v ∧ v < 256:=by
           rw [← hv,Go.u8_xor c (1 + p1 % 255) hcb.1 hcb.2 (by omega) (by omega)]
           have hlt : c.toNat ^^^ (1 + p1 % 255).toNat < 2 ^ 8:=Nat.xor_lt_two_pow (by omega) (by omega)
           omega
          rw [hv] at hx0
          generalize turnB t393 p0 p1 = xs at AX0 hx0 hxs0
          have AX:=qn.mk AX0
          have HI:=qn.mk hi
          have HPL:=qn.mk hPl
          have HX:=qn.mk hx0
          have HC:=qn.mk hc
          have HV:=qn.mk hv
          have E0:=qn.mk e0
          have E1:=qn.mk e1
          have HXS:=qn.mk hxs0
          clear AX0 hi hPl hx0 hc hv e0 e1 hxs0
          have hnb62:=NB392_402.out
          have hnc62:=NB402_392.out
          have hcz63_0 : wr.cell? ⟨gb392,0,none⟩ = some (.int .i64 t388):=(qh BK392.out 0).trans rfl
          have hcz63_1 : wr.cell? ⟨gb392,1,none⟩ = some (.slice Ao26 t389.length co26):=(qh BK392.out 1).trans rfl
          have hfz63_0:=qi BK392.out 0
          have hfz63_1:=qi BK392.out 1
          go_upto_region 21 with (first
           | (go_at_call 14;(with_reducible refine (spec_DrawPlaces.calls k2 _ _ l0 P _ ?side1 HC0.out A61.out).mono ?_);(case side1=>exact Kd.C_below HR0.out (by repeat (first|(with_reducible first|exact HB.out|apply qf|apply qa|apply qd)|exact HB.out)));rintro e w90 ⟨v0,rfl,hR,hb⟩;have HB:=hs_ HB hb;clear hb))
          obtain ⟨gp,cp,ev0,_,hgl,_⟩:=Kd.R_form hR (by rw [HPL.out];omega)
          subst ev0
          have hp0 : w90.cell? ⟨gp,0,none⟩ = some (.int .i64 p0):=by
           have:=(Kd.R_cell (0 : Int) hR 0 (by omega) (by rw [HPL.out];omega)).1
           rw [← E0.out];exact this
          have hp1 : w90.cell? ⟨gp,1,none⟩ = some (.int .i64 p1):=by
           have:=(Kd.R_cell (0 : Int) hR 1 (by omega) (by rw [HPL.out];omega)).1
           rw [← E1.out];exact this
          have HR5:=qn.mk hR
          clear hR
          have hlP:=HPL.out
          obtain ⟨w6,cap,hconv,hcap,hb6,hcell,hfr,hsz6⟩:=conv_to w90 t393 Try.underlying9 Try.underlying22 Try.underlying5
          have HCELL:=qn.mk hcell
          have hcap6:=qn.mk hcap
          have HSZ:=qn.mk hsz6
          have hq0 : w6.cell? ⟨gp,0,none⟩ = some (.int .i64 p0):=(hb6.cell hgl).trans hp0
          have hq1 : w6.cell? ⟨gp,1,none⟩ = some (.int .i64 p1):=(hb6.cell hgl).trans hp1
          have HB6:=qn.mk (qm HB.out hb6)
          have hci : w6.cell? ⟨w90.heap.size,i,none⟩ = some (.int .u8 c):=by rw [hcell i hit,HC.out]
          have hfi : w6.frozen? ⟨w90.heap.size,i,none⟩ = false:=hfr i hit
          clear hb6 hcell hfr hp0 hp1 hcap hsz6
          obtain ⟨g6,hg6⟩ : ∃ g6,g6 = w90.heap.size:=⟨_,rfl⟩
          rw [← hg6] at hconv hci hfi HCELL
          have HG6:=qn.mk hg6
          clear hg6
          have hne : gp ≠ g6:=Nat.ne_of_lt (by have:=HG6.out;omega)
          have hne' : g6 ≠ gp:=fun h=>hne h.symm
          have htp : 0 < t393.size:=by omega
          have htn : ((t393.size : Int) == 0) = false:=beq_eq_false_iff_ne.mpr (by omega)
          have hd1 : p0 % (t393.size : Int) = (i : Int):=HI.out
          have hd2 : Int.tmod p0 (t393.size : Int) = (i : Int):=by rw [tmod_pos_ h0.1];exact hd1
          go_upto_region 23 with (fail)
          clear htn hd1 hd2 htp
          have hi0 : 0 ≤ (i : Int):=Int.natCast_nonneg i
          have hi1 : (i : Int) < (t393.size : Int):=by omega
          have hp255 : Int.tmod p1 255 = p1 % 255:=tmod_pos_ h1.1
          go_cut [] (fun wc=>qn (∀ j,j < t393.size → wc.cell? ⟨g6,j,none⟩ = some (.int .u8 (xs.getD j 0))) ∧ qn (Below w.heap.size w wc))
          case first =>
           have hvv:=HV.out
           go_region
           all_goals (try go_wp2)
           all_goals go_meet
           case rel =>
            refine ⟨⟨fun j hj=>?_⟩,⟨?_⟩⟩
            ·have hh:=HCELL.out j hj
             rw [HX.out j hj]
             by_cases e : j = i
             ·subst e
              rw [if_pos rfl]
              exact cell_at_ hh _
             ·rw [if_neg e]
              exact (cell_off_ (fun h=>e h) _).trans hh
            ·exact (HB6.out.setCell (p:=⟨g6,i,none⟩) (by have:=HG6.out;have:=HB.out.size;show w.heap.size ≤ g6;omega) _).drew
          case rest =>
           obtain ⟨HCX,HBX⟩:=hcut
           clear HB HB6 hci hfi hq0 hq1 HCELL hconv
           have HB:=HBX
           have hback:=run_convert_bytes_arg wc 22 5 Try.underlying22 Try.underlying5 g6 0 t393.size cap xs HXS.out (fun j hj=>by rw [Nat.zero_add];exact HCX.out j hj) 9 Try.underlying9
           have w6_ : wrap64 ((t393.size : Int) - 6) = (t393.size : Int) - 6:=by unfold wrap64;omega
           cases q3
           ·go_wp2_with (first
             | (go_at_call 26;(with_reducible refine (impl_ReadPage.calls k2 (strOfNums xs) q1 q2 _ _ AX.out).mono ?_);rintro e w91 ⟨v9,rfl,ho9,hb⟩;obtain ⟨Ao9,co9,eo9⟩:=Kd.R_slice ho9;subst eo9;have HB:=hs_ HB hb;clear hb ho9)
             | ((with_reducible refine gate_dst (N:=15) rfl ?_);(try (refine gate_guard (by rfl) ?_;dsimp only));refine box_event ?hg (N:=15) ?hd (cs:=#[.int .i64 0,.slice none 0 0]) (t:=50) ?hr ?_;(case hd=>rfl);(case hg=>rfl);(case hr=>first|(go_simp;done)|(go_simp;rfl));intro gb9 hg w92 hbox hb;have n4_:=qn.mk ((by rw [hg];exact (hz_ HB)) : w.heap.size ≤ gb9);have n1_:=hs_ HB hb;clear HB;have HB:=n1_;have GE9:=n4_;have BK9:=qn.mk hbox;clear n1_ n4_ hb hbox hg;have hcz9_0 : w92.cell? ⟨gb9,0,none⟩ = some (.int .i64 0):=(qh BK9.out 0).trans rfl;have hcz9_1 : w92.cell? ⟨gb9,1,none⟩ = some (.slice none 0 0):=(qh BK9.out 1).trans rfl;have hfz9_0:=qi BK9.out 0;have hfz9_1:=qi BK9.out 1))
            go_ret
            exact ⟨by first|rfl|(rw [w6_];rfl)|(simp;done)|(simp [w6_];done),by repeat (first|(with_reducible first|exact HB.out|apply qf|apply qa|apply qd|refine qg ?_ GE9.out)|exact HB.out)⟩
           ·go_wp2_with (first
             | (go_at_call 26;(with_reducible refine (impl_ReadPage.calls k2 (strOfNums xs) q1 q2 _ _ AX.out).mono ?_);rintro e w91 ⟨v9,rfl,ho9,hb⟩;obtain ⟨Ao9,co9,eo9⟩:=Kd.R_slice ho9;subst eo9;have HB:=hs_ HB hb;clear hb ho9)
             | ((with_reducible refine gate_dst (N:=15) rfl ?_);(try (refine gate_guard (by rfl) ?_;dsimp only));refine box_event ?hg (N:=15) ?hd (cs:=#[.int .i64 0,.slice none 0 0]) (t:=50) ?hr ?_;(case hd=>rfl);(case hg=>rfl);(case hr=>first|(go_simp;done)|(go_simp;rfl));intro gb9 hg w92 hbox hb;have n4_:=qn.mk ((by rw [hg];exact (hz_ HB)) : w.heap.size ≤ gb9);have n1_:=hs_ HB hb;clear HB;have HB:=n1_;have GE9:=n4_;have BK9:=qn.mk hbox;clear n1_ n4_ hb hbox hg;have hcz9_0 : w92.cell? ⟨gb9,0,none⟩ = some (.int .i64 0):=(qh BK9.out 0).trans rfl;have hcz9_1 : w92.cell? ⟨gb9,1,none⟩ = some (.slice none 0 0):=(qh BK9.out 1).trans rfl;have hfz9_0:=qi BK9.out 0;have hfz9_1:=qi BK9.out 1))
            go_ret
            exact ⟨by first|rfl|(rw [w6_];rfl)|(simp;done)|(simp [w6_];done),by repeat (first|(with_reducible first|exact HB.out|apply qf|apply qa|apply qd|refine qg ?_ GE9.out)|exact HB.out)⟩
   ·replace c21:=Bool.eq_false_iff.mpr c21
    subst c21
    have H1 : (some (t393.toList == ([] : List UInt8))) = some r:=by rw [if_neg (show ¬ (false = true) by decide)] at H;exact H
    clear H
    have H:=H1
    clear H1
    obtain rfl:=Option.some.inj H
    go_enter Try.func11,Try.ntmps11
    go_wp2_with (first|((with_reducible refine gate_callee (f:=12) rfl ?_);refine goesL_ (some 18) rfl rfl Try.func12 (by kernel_rfl) rfl #[.slice A0 l0.length c0] rfl (by (try simp only [List.map_toArray,List.map_cons,List.map_nil]);first|done|rfl|(simp only [List.length_drop,List.length_take];rfl)) ?_;(with_reducible refine (laws_big.calls _ _ l0 false _ ?side1 ?side2 A2.out).mono ?_);(case side1=>repeat (first|exact HR0.out|(with_reducible refine Kd.C_alloc ?_ _)|(with_reducible refine Kd.C_drewN ?_ _)|(with_reducible refine Kd.C_drew ?_)));(case side2=>exact HC0.out);rintro e w' ⟨rfl,⟨nd,rfl⟩⟩;refine ⟨_,rfl,?_⟩)|((with_reducible refine gate_callee (f:=51) rfl ?_);refine goesL_ (some 20) rfl rfl Try.func51 (by kernel_rfl) rfl #[.slice A0 l0.length c0] rfl (by (try simp only [List.map_toArray,List.map_cons,List.map_nil]);first|done|rfl|(simp only [List.length_drop,List.length_take];rfl)) ?_;(with_reducible refine (spec_DrawPageText.calls k _ _ l0 t388 t389 _ ?side1 ?side2 A4.out).mono ?_);(case side1=>repeat (first|exact HR0.out|(with_reducible refine Kd.C_alloc ?_ _)|(with_reducible refine Kd.C_drewN ?_ _)|(with_reducible refine Kd.C_drew ?_)));(case side2=>exact HC0.out);rintro e w65 ⟨v390,rfl,ho0,hb⟩;refine ⟨_,rfl,?_⟩;have n0_:=qn.mk (Kd.R_lower ho0 (qj (by repeat (first|(with_reducible first|exact HB.out|apply qf|apply qa|apply qd)|exact HB.out))));have n1_:=hs_ HB hb;clear HB;have HO391:=n0_;have HB:=n1_;clear n0_ n1_;(try clear hb);(try clear hb2);(try clear hk);(try clear hi);(try clear ho0))|((with_reducible refine gate_dst (N:=3) rfl ?_);(try (refine gate_guard (by rfl) ?_;dsimp only));refine box_event ?hg (N:=3) ?hd (cs:=#[.int .i64 0,.slice none 0 0]) (t:=50) ?hr ?_;(case hd=>rfl);(case hg=>rfl);(case hr=>first|(go_simp;done)|(go_simp;rfl));intro gb392 hg w66 hbox hb;have n0_:=rb_ HO391 hb;have n1_:=hs_ HB hb;have n2_:=qn.mk (hbox);have n3_:=qn.mk ((by rw [hg];exact (qj (by repeat (first|(with_reducible first|exact HB.out|apply qf|apply qa|apply qd)|exact HB.out))) : w.heap.size ≤ gb392));have n4_:=qn.mk ((by rw [hg];exact (qj (by repeat (first|(with_reducible first|exact HB.out|apply qf|apply qa|apply qd)|exact HB.out))) : w.heap.size ≤ gb392));clear HO391;clear HB;have HO391:=n0_;have HB:=n1_;have BK392:=n2_;have GW392:=n3_;have GE392:=n4_;clear n0_ n1_ n2_ n3_ n4_;clear hb hbox hg;have hcz67_0 : w66.cell? ⟨gb392,0,none⟩ = some (.int .i64 0):=(qh BK392.out 0).trans rfl;have hcz67_1 : w66.cell? ⟨gb392,1,none⟩ = some (.slice none 0 0):=(qh BK392.out 1).trans rfl;have hfz67_0:=qi BK392.out 0;have hfz67_1:=qi BK392.out 1;obtain ⟨Ao68,co68,eo68⟩:=Kd.R_slice HO391.out;subst eo68)|((with_reducible refine gate_callee (f:=52) rfl ?_);refine goesL_ (some 23) rfl rfl Try.func52 (by kernel_rfl) rfl #[.agg #[.int .i64 t388,.slice Ao68 t389.length co68]] rfl (by (try simp only [List.map_toArray,List.map_cons,List.map_nil]);first|done|rfl|(simp only [List.length_drop,List.length_take];rfl)) ?_;(with_reducible refine (impl_PageText.calls k t388 _ _ t389 t393 false _ ?side1 ?side2 A5.out).mono ?_);(case side1=>refine (Kd.R_reads' (e:=61) (base:=w.heap.size) (ok:=fun k_=>True) (n:=t389.length) (c:=co68) ?_).2.2;exact (by (with_reducible repeat (first|apply Kd.R_alloc|apply Kd.R_drewN|apply Kd.R_drew));exact (Kd.R_mono (Kd.R_far (p:=⟨gb392,1,none⟩) (Kd.R_far (p:=⟨gb392,0,none⟩) (Kd.R_types HO391.out BK392.out (by decide)) (fun _ hk=>hk.2) (.int .i64 t388)) (fun _ hk=>hk.2) (.slice Ao68 t389.length co68)) (fun _ h_=>h_.1))));(case side2=>exact (Kd.R_reads' HO391.out).2.1);rintro e w69 ⟨rfl,hb⟩;refine ⟨_,rfl,?_⟩;have n0_:=qn.mk (Kd.R_below (by (with_reducible repeat (first|apply Kd.R_alloc|apply Kd.R_drewN|apply Kd.R_drew));exact (Kd.R_mono (Kd.R_far (p:=⟨gb392,1,none⟩) (Kd.R_far (p:=⟨gb392,0,none⟩) (Kd.R_types HO391.out BK392.out (by decide)) (fun _ hk=>hk.2) (.int .i64 t388)) (fun _ hk=>hk.2) (.slice Ao68 t389.length co68)) (fun _ h_=>h_.1))) hb);have n1_:=qn.mk (ql (g:=gb392) (o:=.cells #[.int .i64 t388,.slice Ao68 t389.length co68] 50 (0,0)) (by (with_reducible repeat (first|refine qb ?_ _|refine qe ?_|refine qc ?_ _));refine blk_put (cs:=#[.int .i64 t388,.slice none 0 0]) ?_ 1 _ rfl;(with_reducible repeat (first|refine qb ?_ _|refine qe ?_|refine qc ?_ _));refine blk_put (cs:=#[.int .i64 0,.slice none 0 0]) ?_ 0 _ rfl;(with_reducible repeat (first|refine qb ?_ _|refine qe ?_|refine qc ?_ _));exact BK392.out) hb);have n2_:=hs_ HB hb;clear HO391;clear BK392;clear HB;have HO391:=n0_;have BK392:=n1_;have HB:=n2_;clear n0_ n1_ n2_;(try clear hb);(try clear hb2);(try clear hk);(try clear hi);have hcz70_0 : w69.cell? ⟨gb392,0,none⟩ = some (.int .i64 t388):=(qh BK392.out 0).trans rfl;have hcz70_1 : w69.cell? ⟨gb392,1,none⟩ = some (.slice Ao68 t389.length co68):=(qh BK392.out 1).trans rfl;have hfz70_0:=qi BK392.out 0;have hfz70_1:=qi BK392.out 1)|((with_reducible refine gate_callee (f:=53) rfl ?_);refine goesL_ (some 28) rfl rfl Try.func53 (by kernel_rfl) rfl #[.agg #[.int .i64 t388,.slice Ao68 t389.length co68]] rfl (by (try simp only [List.map_toArray,List.map_cons,List.map_nil]);first|done|rfl|(simp only [List.length_drop,List.length_take];rfl)) ?_;(with_reducible refine (spec_PageText.calls k t388 _ _ t389 t395 t396 _ ?side1 ?side2 A6.out).mono ?_);(case side1=>repeat (first|exact (Kd.R_reads' HO391.out).2.2|(with_reducible refine Kd.C_alloc ?_ _)|(with_reducible refine Kd.C_drewN ?_ _)|(with_reducible refine Kd.C_drew ?_)));(case side2=>exact (Kd.R_reads' HO391.out).2.1);rintro e w71 ⟨rfl,hb⟩;refine ⟨_,rfl,?_⟩;have n0_:=rb_ HO391 hb;have n1_:=bb_ BK392 hb;have n2_:=hs_ HB hb;clear HO391;clear BK392;clear HB;have HO391:=n0_;have BK392:=n1_;have HB:=n2_;clear n0_ n1_ n2_;(try clear hb);(try clear hb2);(try clear hk);(try clear hi))|((with_reducible refine gate_callee (f:=26) rfl ?_);refine goesL_ (some 33) rfl rfl Try.func26 (by kernel_rfl) rfl #[.string t393] rfl (by (try simp only [List.map_toArray,List.map_cons,List.map_nil]);first|done|rfl|(simp only [List.length_drop,List.length_take];rfl)) ?_;(with_reducible refine (impl_ReadPage.calls k t393 t397 t398 t401 _ A7.out).mono ?_);rintro e w72 ⟨v399,rfl,ho0,hb⟩;refine ⟨_,rfl,?_⟩;have n0_:=qn.mk (Kd.R_elder' (by (with_reducible repeat (first|apply Kd.R_alloc|apply Kd.R_drewN|apply Kd.R_drew));exact HO391.out) (Kd.R_base ho0) hb);have n1_:=qn.mk (Kd.R_lower (Kd.R_new' ho0 (Kd.R_lt (by (with_reducible repeat (first|apply Kd.R_alloc|apply Kd.R_drewN|apply Kd.R_drew));exact HO391.out))) (qj (by repeat (first|(with_reducible first|exact HB.out|apply qf|apply qa|apply qd|refine qg ?_ GE392.out)|exact HB.out))));have n2_:=bb_ BK392 hb;have n3_:=hs_ HB hb;clear HO391;clear BK392;clear HB;have HO391:=n0_;have HO400:=n1_;have BK392:=n2_;have HB:=n3_;clear n0_ n1_ n2_ n3_;(try clear hb);(try clear hb2);(try clear hk);(try clear hi);(try clear ho0))|((with_reducible refine gate_dst (N:=8) rfl ?_);(try (refine gate_guard (by rfl) ?_;dsimp only));refine box_event ?hg (N:=8) ?hd (cs:=#[.int .i64 0,.slice none 0 0]) (t:=50) ?hr ?_;(case hd=>rfl);(case hg=>rfl);(case hr=>first|(go_simp;done)|(go_simp;rfl));intro gb402 hg w73 hbox hb;have n0_:=rb_ HO391 hb;have n1_:=rb_ HO400 hb;have n2_:=bb_ BK392 hb;have n3_:=hs_ HB hb;have n4_:=qn.mk (hbox);have n5_:=qn.mk ((by rw [hg];exact (qj (by repeat (first|(with_reducible first|exact HB.out|apply qf|apply qa|apply qd|refine qg ?_ GE392.out)|exact HB.out))) : w.heap.size ≤ gb402));have n6_:=qn.mk ((by rw [hg];exact (qj (by repeat (first|(with_reducible first|exact HB.out|apply qf|apply qa|apply qd|refine qg ?_ GE392.out)|exact HB.out))) : w.heap.size ≤ gb402));have n7_:=qn.mk ((by rw [hg];exact nl_ BK392 : gb392 ≠ gb402));have n8_:=qn.mk ((by rw [hg];exact ng_ BK392 : gb402 ≠ gb392));clear HO391;clear HO400;clear BK392;clear HB;have HO391:=n0_;have HO400:=n1_;have BK392:=n2_;have HB:=n3_;have BK402:=n4_;have GW402:=n5_;have GE402:=n6_;have NB392_402:=n7_;have NB402_392:=n8_;clear n0_ n1_ n2_ n3_ n4_ n5_ n6_ n7_ n8_;clear hb hbox hg;have hnb74:=NB402_392.out;have hnc74:=NB392_402.out;have hcz75_0 : w73.cell? ⟨gb402,0,none⟩ = some (.int .i64 0):=(qh BK402.out 0).trans rfl;have hcz75_1 : w73.cell? ⟨gb402,1,none⟩ = some (.slice none 0 0):=(qh BK402.out 1).trans rfl;have hfz75_0:=qi BK402.out 0;have hfz75_1:=qi BK402.out 1;obtain ⟨Ao76,co76,eo76⟩:=Kd.R_slice HO400.out;subst eo76))
    go_ret
    exact ⟨by first|rfl|(simp [errW_none,errW_some] <;> rfl)|(simp [*,errW_none,errW_some] <;> rfl),by repeat (first|(with_reducible first|exact HB.out|apply qf|apply qa|apply qd|refine qg ?_ GE392.out|refine qg ?_ GE402.out)|exact HB.out)⟩

/-- THE ONE PURE STATEMENT of laws_FnPages: yours. -/
def laws_FnPages.Pure : Prop:=∀ (l0 : List Int),l0.length ≤ maxLen → l0.length * 1 ≤ 140737488351232 → (∀ x ∈ l0,(Lit.int .u8 x).wf = true) → ∃ k,laws_FnPages.f k l0 = some true
theorem laws_FnPages.walk (P : laws_FnPages.Pure) (a0 : Option Addr) (len0 cap0 : Nat) (z0 : List Int) (w : World) (w0 : (a0 = none ∧ len0 = 0 ∧ cap0 = 0 ∧ z0 = []) ∨ ∃ x,a0 = some x ∧ len0 ≤ cap0 ∧ cap0 ≤ maxLen ∧ z0.length = cap0 ∧ (∀ i,i < z0.length → w.cell? (x.add i) = some (.int .u8 (z0.getD i 0))) ∧ ∀ n ∈ z0,(Lit.int .u8 n).wf = true) (y0 : len0 * 1 ≤ 140737488351232) :
  Calls Try.prog 11 #[.slice a0 len0 cap0] w fun e w'=>e = .returned (.bool true) ∧ Below w.heap.size w w':=by
 obtain ⟨l0,rfl,hr0,hm0,hw0,hc0⟩:=ReadsInt.ofRowC w0
 obtain ⟨k,h⟩:=P l0 hm0 y0 hw0
 refine (laws_FnPages.calls k _ _ l0 true w (Kd.C_of_reads (d:=(0 : Int)) (h1:=fun _=>rfl) hr0) hc0 h).mono ?_
 rintro e w' ⟨rfl,hd⟩
 exact ⟨rfl,hd⟩

end Go.Proofs.Ytfmemcffbfahhaa.QFnPages
