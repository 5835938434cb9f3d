/- impl.PlaceTree walked by hand: validations, the items, levels of groups, each group a page. -/
import Derived.Test.YtcnoccefdejphaaZFnTreesx2
import Derived.Test.YtcnoccefdejphaaZFnTreesx2
import Derived.Test.YtcnoccefdejphaaZFnTreesx3
import Derived.Test.YtcnoccefdejphaaZFnTreesx25
namespace Go.Proofs.Ytcnoccefdejphaa.QFnTrees
open Go.RowKit Go.Proofs.YtcnoccefdejphaaW.PrintWords Go.Proofs.YtcnoccefdejphaaW.PrintLast Go.Proofs.YtcnoccefdejphaaW.PrintMore
attribute [local go_sem] max2_int min2_int max_two min_two max_three min_three max_four min_four
set_option linter.unusedVariables false
set_option linter.unusedSimpArgs false
def itemOf (p : S69) : S71:=⟨p.f0,p.f1,0⟩
noncomputable def impl_tree.groups (F : List Int) (kind : Int) : List (List (S71)) → List ByteArray → List (S96) → List Int → List Int → Int → List (S71) → Option (Bool × List ByteArray × List (S96) × List Int × List Int × Int × List (S71))
 | [],S,P,L,U,r,n=>some (true,S,P,L,U,r,n)
 | it :: gs,S,P,L,U,_,n=>(impl_page.f S P F L U kind it).bind fun q=>if q.1 < 0 then some (false,S,P,L,U,0,n) else if it.length = 0 then none else if n.length < 1000000 then impl_tree.groups F kind gs q.2.1 q.2.2.1 q.2.2.2.1 q.2.2.2.2 q.1 (n ++ [(⟨(rd_T71 it 0).f0,(⟨#[]⟩ : ByteArray),q.1⟩ : S71)]) else none
noncomputable def impl_tree.levels (F : List Int) : Nat → Int → List (S71) → List ByteArray → List (S96) → List Int → List Int → Int → Option (Bool × List ByteArray × List (S96) × List Int × Int)
 | 0,_,_,_,_,_,_,_=>none
 | n + 1,kind,items,S,P,L,U,root=>if items.length = 0 then some (true,S,P,U,root) else
  (lim fun k=>impl_CutItems.f k kind items).bind fun gs=>(impl_tree.groups F kind gs S P L U root []).bind fun q=>if q.1 = false then some (false,S,P,U,0) else if q.2.2.2.2.2.2.length = 1 then some (true,q.2.1,q.2.2.1,q.2.2.2.2.1,q.2.2.2.2.2.1) else impl_tree.levels F n 2 q.2.2.2.2.2.2 q.2.1 q.2.2.1 q.2.2.2.1 q.2.2.2.2.1 q.2.2.2.2.2.1
noncomputable def impl_tree.f (S : List ByteArray) (P : List (S96)) (F : List Int) (m : List (S69)) : Option (List ByteArray × List (S96) × Int × List Int × Bool) :=
 (lim fun k=>impl_DeviceOk.f k S P).bind fun a=>if a = false then some ([],[],0,[],false) else (lim fun k=>impl_MapOk.f k m).bind fun b=>if b = false then some ([],[],0,[],false) else
  if ∀ x ∈ F,impl_in.f x 0 (wrap64 ((S.length : Int) - 1)) = some true then (impl_copyDevice.f S P).bind fun d=>if m.length ≤ 1000000 then (impl_tree.levels F 1000 1 (m.map itemOf) d.1 d.2 F [] (-1)).bind fun q=>if q.1 = false then some ([],[],0,[],false) else some (q.2.1,q.2.2.1,q.2.2.2.2,q.2.2.2.1,true) else none
  else some ([],[],0,[],false)
theorem rd_mem {F : List Int} {i : Nat} (h : i < F.length) : rd F (i : Int) ∈ F:=by
 unfold rd
 rw [Int.toNat_natCast,List.getD_eq_getElem?_getD,List.getElem?_eq_getElem h]
 exact List.getElem_mem h
theorem in_some (a b c : Int) : ∃ r,impl_in.f a b c = some r:=by
 unfold impl_in.f
 split
 ·exact ⟨_,rfl⟩
 exact ⟨_,rfl⟩
theorem take_item {m : List (S69)} {i : Nat} (h : i < m.length) : (m.take (i + 1)).map itemOf = (m.take i).map itemOf ++ [(⟨(rd_T69 m (i : Int)).f0,(rd_T69 m (i : Int)).f1,0⟩ : S71)]:=by
 rw [List.take_succ_eq_append_getElem h,List.map_append,List.map_singleton]
 unfold rd_T69 itemOf
 rw [Int.toNat_natCast,List.getD_eq_getElem?_getD,List.getElem?_eq_getElem h]
 rfl
theorem drop_grp {gs : List (List (S71))} {j : Nat} (h : j < gs.length) : gs.drop j = rd_L6 gs (j : Int) :: gs.drop (j + 1):=by
 rw [List.drop_eq_getElem_cons h]
 unfold rd_L6
 rw [Int.toNat_natCast,List.getD_eq_getElem?_getD,List.getElem?_eq_getElem h]
 rfl
theorem t32_9 : ∀ q,q ∈ 9 :: Kd.string.E → q ≠ 32:=by intro q hq;obtain rfl : q = 9:=List.mem_singleton.1 hq;decide
theorem t32_96 : ∀ q,q ∈ 96 :: k96.E → q ≠ 32:=by intro q hq;obtain rfl : q = 96:=List.mem_singleton.1 (show q ∈ ([96] : List Nat) from hq);decide
theorem t32_3 : ∀ q,q ∈ 3 :: (Kd.int .i64).E → q ≠ 32:=by intro q hq;obtain rfl : q = 3:=List.mem_singleton.1 hq;decide
theorem CB.putS {w W : World} {g3 g6 g : Nat} {a b u v : Value} {o : Obj} (h : CB w W g3 g6 a b) (hb : W.heap[g]? = some o) (hn : g6 ≠ g) : ((W.setCell ⟨g6,0,none⟩ u).setCell ⟨g6,1,none⟩ v).heap[g]? = some o:=by
 rw [Below.heap_setCell _ _ _ _ (fun e=>hn e.symm),Below.heap_setCell _ _ _ _ (fun e=>hn e.symm)]
 exact hb
theorem CB.putR {w W : World} {g3 g6 : Nat} {a b u v x : Value} {α : Type} {d : Kd α} {e base : Nat} {ok : Nat → Prop} {xs : List α} (h : CB w W g3 g6 a b) (hr : d.R e W base ok x xs) (ht : ∀ q,q ∈ e :: d.E → q ≠ 32) : d.R e ((W.setCell ⟨g6,0,none⟩ u).setCell ⟨g6,1,none⟩ v) base ok x xs:=by
 have e1:=blk_put h.b6 0 u rfl
 exact Kd.R_set (Kd.R_set hr h.b6 ht _ _) (by simpa using e1) ht _ _
set_option maxHeartbeats 16000000 in
set_option maxRecDepth 100000 in
theorem impl_tree.calls (A0 : Option Addr) (c0 : Nat) (S : List ByteArray) (A1 : Option Addr) (c1 : Nat) (P : List (S96)) (Af : Option Addr) (cf : Nat) (F : List Int) (Am : Option Addr) (cm : Nat) (m : List (S69)) (r1 : List ByteArray) (r2 : List (S96)) (r3 : Int) (r4 : List Int) (r5 : Bool) (w : World)
  (hS : Kd.C Kd.string w A0 S.length S) (hS' : S.length ≤ c0) (hP : Kd.C k96 w A1 P.length P) (hP' : P.length ≤ c1) (hF : Kd.C (Kd.int .i64) w Af F.length F) (hF' : F.length ≤ cf) (hM : Kd.C k69 w Am m.length m) (hM' : m.length ≤ cm) (h : impl_tree.f S P F m = some (r1,r2,r3,r4,r5)) :
  Calls Try.prog 11 #[.agg #[.slice A0 S.length c0,.slice A1 P.length c1],.slice Af F.length cf,.slice Am m.length cm] w fun e w'=>∃ v0_ v1_ v3_ : Value,e = .returned (.tuple #[.agg #[v0_,v1_],.int .i64 r3,v3_,.bool r5]) ∧ Kd.R Kd.string 9 w' w.heap.size (fun _=>True) v0_ r1 ∧ Kd.R k96 96 w' w.heap.size (fun _=>True) v1_ r2 ∧ Kd.R (Kd.int .i64) 3 w' w.heap.size (fun _=>True) v3_ r4 ∧ Below w.heap.size w w':=by
 have hu32:=Try.underlying32
 have hu82:=Try.underlying82
 have hu69:=Try.underlying69
 have hu71:=Try.underlying71
 have hu76:=Try.underlying76
 have HS:=qo.mk hS
 have HS':=qo.mk hS'
 have HP:=qo.mk hP
 have HP':=qo.mk hP'
 have HF:=qo.mk hF
 have HF':=qo.mk hF'
 have HM:=qo.mk hM
 have HM':=qo.mk hM'
 clear hS hS' hP hP' hF hF' hM hM'
 unfold impl_tree.f at h
 replace h:=Option.bind_eq_some_iff.mp h
 obtain ⟨a,ha,h⟩:=h
 obtain ⟨ka,ha⟩:=(lim_ev ha).rounds
 by_cases ca : a = false
 ·subst ca
  rw [if_pos rfl] at h
  obtain ⟨rfl,rfl,rfl,rfl,rfl⟩ : [] = r1 ∧ [] = r2 ∧ 0 = r3 ∧ [] = r4 ∧ false = r5:=by simpa using h
  clear h
  go_enter Try.func11,Try.ntmps11
  go_wp2_with (first|((with_reducible refine gate_dst (N:=3) rfl ?_);refine box_event ?hg (N:=3) ?hd (cs:=#[.slice A0 S.length c0,.slice A1 P.length c1]) (t:=32) ?hr ?_;(case hd=>rfl);(case hg=>rfl);(case hr=>first|(go_simp;done)|(go_simp;rfl));intro g3 hg_ w3 hbox hb;have H3:=qo.mk hbox;have HB3:=qo.mk hb;clear hbox hb hg_)|((with_reducible refine gate_dst (N:=6) rfl ?_);refine box_event ?hg (N:=6) ?hd (cs:=#[.slice none 0 0,.slice none 0 0]) (t:=32) ?hr ?_;(case hd=>rfl);(case hg=>rfl);(case hr=>first|(go_simp;done)|(go_simp;rfl));intro g6 hg_ w6 hbox hb;have HC : qo (CB w w6 g3 g6 (.slice A0 S.length c0) (.slice A1 P.length c1)):=⟨⟨qn HB3.out hb,qm H3.out hb,hbox,by rw [hg_];exact HB3.out.size,by rw [hg_];have:=blk_lt H3.out;omega⟩⟩;clear hbox hb hg_ H3 HB3;have hf6:=HC.out.cells)|((with_reducible refine gate_callee (f:=40) rfl ?_);refine goesL_ (some 22) rfl rfl Try.func40 (by kernel_rfl) rfl #[.agg #[.slice A0 S.length c0,.slice A1 P.length c1]] rfl sm_ ?_;(with_reducible refine (impl_DeviceOk.calls ka _ _ S _ _ P _ _ ?side1 HS'.out ?side3 HP'.out ha).mono ?_);(case side1=>exact HC.out.c HS.out);(case side3=>exact HC.out.c HP.out);rintro e w7 ⟨rfl,hb⟩;refine ⟨_,rfl,?_⟩;have hc_:=HC.out.to hb;clear HC;have HC:=qo.mk hc_;have hcl_:=HC.out.cells;clear hb hc_))
  refine bodyPost_ret (results_list (rs:=[.cell 6 32,.tmp 7,.tmp 8,.tmp 9]) rfl (by simp) (.cell g6 32 #[.slice none 0 0,.slice none 0 0] (0,0) _ rfl HC.out.to.put Try.underlying32 rfl (by kernel_rfl) (.tmp (.tmp (.tmp .nil))))) rfl ?_
  exact ⟨_,_,_,rfl,Kd.R_nil _ _ _ _ _,Kd.R_nil _ _ _ _ _,Kd.R_nil _ _ _ _ _,HC.out.to.putB⟩
 obtain rfl : a = true:=by simpa using ca
 clear ca
 rw [if_neg (by decide)] at h
 replace h:=Option.bind_eq_some_iff.mp h
 obtain ⟨b,hb,h⟩:=h
 obtain ⟨kb,hb⟩:=(lim_ev hb).rounds
 have hmap:=qo.mk hb
 clear hb
 by_cases cb : b = false
 ·subst cb
  rw [if_pos rfl] at h
  obtain ⟨rfl,rfl,rfl,rfl,rfl⟩ : [] = r1 ∧ [] = r2 ∧ 0 = r3 ∧ [] = r4 ∧ false = r5:=by simpa using h
  clear h
  go_enter Try.func11,Try.ntmps11
  go_wp2_with (first|((with_reducible refine gate_dst (N:=3) rfl ?_);refine box_event ?hg (N:=3) ?hd (cs:=#[.slice A0 S.length c0,.slice A1 P.length c1]) (t:=32) ?hr ?_;(case hd=>rfl);(case hg=>rfl);(case hr=>first|(go_simp;done)|(go_simp;rfl));intro g3 hg_ w3 hbox hb;have H3:=qo.mk hbox;have HB3:=qo.mk hb;clear hbox hb hg_)|((with_reducible refine gate_dst (N:=6) rfl ?_);refine box_event ?hg (N:=6) ?hd (cs:=#[.slice none 0 0,.slice none 0 0]) (t:=32) ?hr ?_;(case hd=>rfl);(case hg=>rfl);(case hr=>first|(go_simp;done)|(go_simp;rfl));intro g6 hg_ w6 hbox hb;have HC : qo (CB w w6 g3 g6 (.slice A0 S.length c0) (.slice A1 P.length c1)):=⟨⟨qn HB3.out hb,qm H3.out hb,hbox,by rw [hg_];exact HB3.out.size,by rw [hg_];have:=blk_lt H3.out;omega⟩⟩;clear hbox hb hg_ H3 HB3;have hf6:=HC.out.cells)|((with_reducible refine gate_callee (f:=40) rfl ?_);refine goesL_ (some 22) rfl rfl Try.func40 (by kernel_rfl) rfl #[.agg #[.slice A0 S.length c0,.slice A1 P.length c1]] rfl sm_ ?_;(with_reducible refine (impl_DeviceOk.calls ka _ _ S _ _ P _ _ ?side1 HS'.out ?side3 HP'.out ha).mono ?_);(case side1=>exact HC.out.c HS.out);(case side3=>exact HC.out.c HP.out);rintro e w7 ⟨rfl,hb⟩;refine ⟨_,rfl,?_⟩;have hc_:=HC.out.to hb;clear HC;have HC:=qo.mk hc_;have hcl_:=HC.out.cells;clear hb hc_)|(go_at_call 41;(with_reducible refine (impl_MapOk.calls kb _ _ m _ _ ?side1 HM'.out hmap.out).mono ?_);(case side1=>exact HC.out.c HM.out);rintro e w8 ⟨rfl,hb⟩;have hc_:=HC.out.to hb;clear HC;have HC:=qo.mk hc_;have hcl_:=HC.out.cells;clear hb hc_))
  refine bodyPost_ret (results_list (rs:=[.cell 6 32,.tmp 7,.tmp 8,.tmp 9]) rfl (by simp) (.cell g6 32 #[.slice none 0 0,.slice none 0 0] (0,0) _ rfl HC.out.to.put Try.underlying32 rfl (by kernel_rfl) (.tmp (.tmp (.tmp .nil))))) rfl ?_
  exact ⟨_,_,_,rfl,Kd.R_nil _ _ _ _ _,Kd.R_nil _ _ _ _ _,Kd.R_nil _ _ _ _ _,HC.out.to.putB⟩
 obtain rfl : b = true:=by simpa using cb
 clear cb
 rw [if_neg (by decide)] at h
 have h':=qo.mk h
 clear h
 go_enter Try.func11,Try.ntmps11
 go_wp2_with (first|((with_reducible refine gate_dst (N:=3) rfl ?_);refine box_event ?hg (N:=3) ?hd (cs:=#[.slice A0 S.length c0,.slice A1 P.length c1]) (t:=32) ?hr ?_;(case hd=>rfl);(case hg=>rfl);(case hr=>first|(go_simp;done)|(go_simp;rfl));intro g3 hg_ w3 hbox hb;have H3:=qo.mk hbox;have HB3:=qo.mk hb;clear hbox hb hg_)|((with_reducible refine gate_dst (N:=6) rfl ?_);refine box_event ?hg (N:=6) ?hd (cs:=#[.slice none 0 0,.slice none 0 0]) (t:=32) ?hr ?_;(case hd=>rfl);(case hg=>rfl);(case hr=>first|(go_simp;done)|(go_simp;rfl));intro g6 hg_ w6 hbox hb;have HC : qo (CB w w6 g3 g6 (.slice A0 S.length c0) (.slice A1 P.length c1)):=⟨⟨qn HB3.out hb,qm H3.out hb,hbox,by rw [hg_];exact HB3.out.size,by rw [hg_];have:=blk_lt H3.out;omega⟩⟩;clear hbox hb hg_ H3 HB3;have hf6:=HC.out.cells)|((with_reducible refine gate_callee (f:=40) rfl ?_);refine goesL_ (some 22) rfl rfl Try.func40 (by kernel_rfl) rfl #[.agg #[.slice A0 S.length c0,.slice A1 P.length c1]] rfl sm_ ?_;(with_reducible refine (impl_DeviceOk.calls ka _ _ S _ _ P _ _ ?side1 HS'.out ?side3 HP'.out ha).mono ?_);(case side1=>exact HC.out.c HS.out);(case side3=>exact HC.out.c HP.out);rintro e w7 ⟨rfl,hb⟩;refine ⟨_,rfl,?_⟩;have hc_:=HC.out.to hb;clear HC;have HC:=qo.mk hc_;have hcl_:=HC.out.cells;clear hb hc_)|(go_at_call 41;(with_reducible refine (impl_MapOk.calls kb _ _ m _ _ ?side1 HM'.out hmap.out).mono ?_);(case side1=>exact HC.out.c HM.out);rintro e w8 ⟨rfl,hb⟩;have hc_:=HC.out.to hb;clear HC;have HC:=qo.mk hc_;have hcl_:=HC.out.cells;clear hb hc_))
 go_loopg [32] (F.length + 1) (fun kq v9 w'=>∃ i : Nat,v9 = .int .i64 (i : Int) ∧ qo (i + kq = F.length + 1 ∧ i ≤ F.length) ∧ qo (∀ j : Nat,j < i → impl_in.f (rd F (j : Int)) 0 (wrap64 ((S.length : Int) - 1)) = some true) ∧ qo (CB w w' g3 g6 (.slice A0 S.length c0) (.slice A1 P.length c1)))
 case atStart=>exact ⟨0,rfl,⟨by omega,Nat.zero_le _⟩,⟨fun j hj=>by omega⟩,⟨HC.out.to⟩⟩
 clear HC hf6
 obtain ⟨i,rfl,HI,HA,HC⟩:=hrel
 obtain ⟨k1,rfl⟩ : ∃ k,gk = k + 1:=⟨gk - 1,by have:=HI.out;omega⟩
 have hcl:=HC.out.cells
 by_cases cx : i < F.length
 ·have c0b0 : decide ((i : Int) < (F.length : Int)) = true:=decide_eq_true (by omega)
  have p0 : 0 ≤ (i : Int):=Int.natCast_nonneg i
  have q0 : (i : Int) < (F.length : Int):=by omega
  obtain ⟨ad,eA,hx0⟩:=Kd.at_int HF.out (i : Int) p0 q0
  subst eA
  have hx1:=(HC.out.hb.cell (World.block_lt_of_cell? _ _ hx0)).trans hx0
  rw [Int.toNat_natCast] at hx1
  obtain ⟨t,hin⟩:=in_some (rd F (i : Int)) 0 (wrap64 ((S.length : Int) - 1))
  have HN:=qo.mk hin
  clear hx0 hin
  by_cases ct : t = true
  ·subst ct
   have p1:=eq_true p0
   have q1:=eq_true q0
   go_wp2_with (first|((with_reducible refine gate_callee (f:=42) rfl ?_);refine goesL_ (some 41) rfl rfl Try.func42 (by kernel_rfl) rfl #[.int .i64 (rd F (i : Int)),.int .i64 0,.int .i64 (wrap64 ((S.length : Int) - 1))] rfl sm_ ?_;(with_reducible refine (impl_in.calls _ _ _ _ _ HN.out).mono ?_);rintro e w9 ⟨rfl,⟨nd9,rfl⟩⟩;refine ⟨_,rfl,?_⟩))
   go_roundg k1
   case measure=>omega
   case rel=>exact ⟨i + 1,by first|rfl|(simp;done)|(rw [show wrap64 ((i : Int) + 1) = ((i + 1 : Nat) : Int) from by unfold wrap64;have:=Kd.C_max HF.out;omega]),⟨by have:=HI.out;omega,by omega⟩,⟨fun j hj=>if e : j = i then by rw [e];exact HN.out else HA.out j (by omega)⟩,⟨HC.out.to⟩⟩
  obtain rfl : t = false:=by simpa using ct
  have hu:=h'.out
  rw [if_neg (fun hh=>by have:=hh _ (rd_mem cx);rw [HN.out] at this;simp at this)] at hu
  obtain ⟨rfl,rfl,rfl,rfl,rfl⟩ : [] = r1 ∧ [] = r2 ∧ 0 = r3 ∧ [] = r4 ∧ false = r5:=by simpa using hu
  clear hu
  go_wp2_with (first|((with_reducible refine gate_callee (f:=42) rfl ?_);refine goesL_ (some 41) rfl rfl Try.func42 (by kernel_rfl) rfl #[.int .i64 (rd F (i : Int)),.int .i64 0,.int .i64 (wrap64 ((S.length : Int) - 1))] rfl sm_ ?_;(with_reducible refine (impl_in.calls _ _ _ _ _ HN.out).mono ?_);rintro e w9 ⟨rfl,⟨nd9,rfl⟩⟩;refine ⟨_,rfl,?_⟩))
  refine bodyPost_ret (results_list (rs:=[.cell 6 32,.tmp 7,.tmp 8,.tmp 9]) rfl (by simp) (.cell g6 32 #[.slice none 0 0,.slice none 0 0] (0,0) _ rfl HC.out.to.put Try.underlying32 rfl (by kernel_rfl) (.tmp (.tmp (.tmp .nil))))) rfl ?_
  exact ⟨_,_,_,rfl,Kd.R_nil _ _ _ _ _,Kd.R_nil _ _ _ _ _,Kd.R_nil _ _ _ _ _,HC.out.to.putB⟩
 have c0b0 : decide ((i : Int) < (F.length : Int)) = false:=decide_eq_false (by omega)
 have c0b1 : decide (i < F.length) = false:=decide_eq_false cx
 have hu:=h'.out
 rw [if_pos (fun x hx=>by
  obtain ⟨j,hj,rfl⟩:=List.getElem_of_mem hx
  have:=HA.out j (by omega)
  unfold rd at this
  rw [Int.toNat_natCast,List.getD_eq_getElem?_getD,List.getElem?_eq_getElem hj] at this
  exact this)] at hu
 clear h' HA HI
 replace hu:=Option.bind_eq_some_iff.mp hu
 obtain ⟨⟨S1,P1⟩,hcd,hu⟩:=hu
 have HCD:=qo.mk hcd
 clear hcd
 by_cases cl : m.length ≤ 1000000
 ·rw [if_pos cl] at hu
  replace hu:=Option.bind_eq_some_iff.mp hu
  obtain ⟨q,hlv,hu⟩:=hu
  have HLV:=qo.mk hlv
  have HU:=qo.mk hu
  have HL:=qo.mk cl
  clear hlv hu cl cx
  go_wp2_with (first|((with_reducible refine gate_callee (f:=43) rfl ?_);refine goesL_ (some 46) rfl rfl Try.func43 (by kernel_rfl) rfl #[.agg #[.slice A0 S.length c0,.slice A1 P.length c1]] rfl sm_ ?_;(with_reducible refine (impl_copyDevice.calls _ _ S _ _ P S1 P1 _ ?side1 HS'.out ?side3 HP'.out HCD.out).mono ?_);(case side1=>exact HC.out.c HS.out);(case side3=>exact HC.out.c HP.out);rintro e w10 ⟨v0,v1,rfl,ho0,ho1,hb⟩;refine ⟨_,rfl,?_⟩;have HR0:=qo.mk (Kd.R_lower ho0 (qk HC.out.hb));have HR1:=qo.mk (Kd.R_lower ho1 (qk HC.out.hb));clear ho0 ho1;have hc_:=HC.out.to hb;clear HC;have HC:=qo.mk hc_;have hcl_:=HC.out.cells;clear hb hc_)|((with_reducible refine gate_dst (N:=50) rfl ?_);refine box_event ?hg (N:=50) ?hd (cs:=#[v0,v1,.slice Af F.length cf,.slice Af F.length cf,.slice none 0 0]) (t:=82) ?hr ?_;(case hd=>rfl);(case hg=>rfl);(case hr=>first|(go_simp;done)|(go_simp;rfl));intro gp hg_ w11 hbox hb;have HV : qo (IsP w w11 gp S1 P1 F F []):=⟨_,_,_,_,_,_,_,⟨hbox,by rw [hg_];exact qk HC.out.hb,Kd.R_below HR0.out hb,Kd.R_below HR1.out hb,HF.out,HF'.out,HF.out,HF'.out,Kd.R_nil _ _ _ _ _⟩⟩;clear hbox hg_ HR0 HR1;have hc_:=HC.out.to hb;clear HC;have HC:=qo.mk hc_;have hcl_:=HC.out.cells;clear hb hc_))
  go_loopg [13,53] (m.length + 1) (fun kq v13 v53 w'=>∃ i : Nat,v53 = .int .i64 (i : Int) ∧ qo (i + kq = m.length + 1 ∧ i ≤ m.length) ∧ qo (Kd.R k71 71 w' w.heap.size (fun _=>True) v13 ((m.take i).map itemOf)) ∧ qo (CB w w' g3 g6 (.slice A0 S.length c0) (.slice A1 P.length c1)) ∧ qo (IsP w w' gp S1 P1 F F []))
  case atStart=>exact ⟨0,rfl,⟨by omega,Nat.zero_le _⟩,⟨Kd.R_nil _ _ _ _ _⟩,⟨HC.out.to⟩,⟨HV.out.below⟩⟩
  clear HC HV hcl_
  obtain ⟨i,rfl,HI,HO,HC,HV⟩:=hrel
  obtain ⟨k1,rfl⟩ : ∃ k,gk = k + 1:=⟨gk - 1,by have:=HI.out;omega⟩
  have hcl:=HC.out.cells
  by_cases cx : i < m.length
  ·have c0b0 : decide ((i : Int) < (m.length : Int)) = true:=decide_eq_true (by omega)
   have p0 : 0 ≤ (i : Int):=Int.natCast_nonneg i
   have q0 : (i : Int) < (m.length : Int):=by omega
   obtain ⟨ad,eA,hx0,hx1⟩:=at_T69 (HC.out.c HM.out) (i : Int) p0 q0
   subst eA
   rw [Int.toNat_natCast] at hx0 hx1
   have p1:=eq_true p0
   have q1:=eq_true q0
   have HX:=qo.mk cx
   go_upto_region 14 with (fail)
   generalize hW : wr.alloc (.cells #[.string (rd_T69 m (i : Int)).f0,.string (rd_T69 m (i : Int)).f1] 69) = wx
   have hbx : Below wr.heap.size wr wx:=by rw [← hW];exact qf (Below.refl _ _) _
   have hb69 : wx.heap[wr.heap.size]? = some (.cells #[.string (rd_T69 m (i : Int)).f0,.string (rd_T69 m (i : Int)).f1] 69 (0,0)):=by rw [← hW];exact heap_alloc_new _ _
   have HB69:=qo.mk hb69
   have HC2:=qo.mk (HC.out.to hbx)
   have HV2:=qo.mk (HV.out.below hbx)
   have HO2:=qo.mk (Kd.R_below HO.out hbx)
   have hcl2:=HC2.out.cells
   generalize hG : wr.heap.size = gx
   rw [hG] at HB69
   have hx2 : wx.cell? ⟨gx,0,none⟩ = some (.string (rd_T69 m (i : Int)).f0):=(qh HB69.out 0).trans rfl
   have hx3 : wx.cell? ⟨gx,1,none⟩ = some (.string (rd_T69 m (i : Int)).f1):=(qh HB69.out 1).trans rfl
   have hx4:=qj HB69.out 0
   have hx5:=qj HB69.out 1
   clear hW hbx hb69 HC HV HO hcl hG hx0 hx1
   go_wp2_with (first|((with_reducible refine gate_builtin (b:=.append) (xs:=#[.tmp 57,.tmp 63]) rfl ?_);at_builtin;refine Kd.R_append k71 (w0:=w) w.heap.size rfl (.tmp 57) (.tmp 63) 68 71 (.agg #[(.string ⟨#[]⟩),(.string ⟨#[]⟩),(.int .i64 0)]) 40 rfl Try.underlying68 info71 rfl (by decide) (by omega) u13 ((m.take i).map itemOf) (⟨(rd_T69 m (i : Int)).f0,(rd_T69 m (i : Int)).f1,0⟩ : S71) [.string (rd_T69 m (i : Int)).f0,.string (rd_T69 m (i : Int)).f1,.int .i64 0] (fun _=>True) (fun _=>False) rfl rfl (k71_mkM _ _ _ (⟨(rd_T69 m (i : Int)).f0,(rd_T69 m (i : Int)).f1,0⟩ : S71)) (fun _ hk=>hk.elim) (fun _ _=>trivial) HO2.out HC2.out.hb (qk HC2.out.hb) (by have:=HL.out;rw [List.length_map,List.length_take];omega) ?_;intro v9 w9 ho hb hg hat;have HC3:=qo.mk (HC2.out.grown hb hg (row_ne HO2.out HC2.out.b3 (by decide)) (row_ne HO2.out HC2.out.b6 (by decide)));have HV3:=qo.mk (HV2.out.grown (Kd.R_typed HO2.out) hg);have HO3:=qo.mk ho;clear ho hb hg hat;have hcl3:=HC3.out.cells))
   go_roundg k1
   case measure=>omega
   case rel=>exact ⟨i + 1,by first|rfl|(simp;done)|(rw [show wrap64 ((i : Int) + 1) = ((i + 1 : Nat) : Int) from by unfold wrap64;have:=HL.out;omega]),⟨by have:=HI.out;omega,by omega⟩,⟨by rw [take_item HX.out];exact HO3.out⟩,⟨HC3.out.to⟩,⟨HV3.out.below⟩⟩
  obtain rfl : i = m.length:=by have:=HI.out;omega
  have c0b0 : decide ((m.length : Int) < (m.length : Int)) = false:=decide_eq_false (by omega)
  have c0b1 : decide (m.length < m.length) = false:=decide_eq_false cx
  have HO2 : qo (Kd.R k71 71 wr w.heap.size (fun _=>True) u13 (m.map itemOf)):=⟨by have:=HO.out;rwa [List.take_length] at this⟩
  clear HO HI cx
  go_wp2
  go_loopg [13,16,17] 1000 (fun kq v13 v16 v17 w'=>∃ (root kd : Int) (its : List (S71)) (S2 : List ByteArray) (P2 : List (S96)) (L2 U2 : List Int),v16 = .int .i64 root ∧ v17 = .int .i64 kd ∧ qo (impl_tree.levels F kq kd its S2 P2 L2 U2 root = some q) ∧ qo (Kd.R k71 71 w' w.heap.size (fun _=>True) v13 its) ∧ qo (CB w w' g3 g6 (.slice A0 S.length c0) (.slice A1 P.length c1)) ∧ qo (IsP w w' gp S2 P2 F L2 U2))
  case atStart=>exact ⟨_,_,_,_,_,_,_,rfl,rfl,HLV,HO2,⟨HC.out.to⟩,⟨HV.out.below⟩⟩
  clear HC HV HO2 HLV hcl
  obtain ⟨root,kd,its,S2,P2,L2,U2,rfl,rfl,HLV,HO,HC,HV⟩:=hrel
  have hcl:=HC.out.cells
  have hlv:=HLV.out
  clear HLV
  obtain ⟨Ai,ci,ei⟩:=Kd.R_slice HO.out
  subst ei
  cases gk with
  | zero =>
   rw [impl_tree.levels] at hlv
   cases hlv
  | succ k2 =>
   rw [impl_tree.levels] at hlv
   by_cases ce : its.length = 0
   ·rw [if_pos ce] at hlv
    obtain rfl:=Option.some.inj hlv
    have hu:=HU.out
    rw [if_neg (by simp)] at hu
    obtain ⟨rfl,rfl,rfl,rfl,rfl⟩ : S2 = r1 ∧ P2 = r2 ∧ root = r3 ∧ U2 = r4 ∧ true = r5:=by simpa using hu
    have c1b0 : decide (0 < (its.length : Int)) = false:=decide_eq_false (by omega)
    have c1b1 : decide (0 < its.length) = false:=decide_eq_false (by omega)
    clear hlv hu ce
    go_upto_region 31 with (fail)
    have hcl9:=HC.out.cells
    obtain ⟨v50,v51,A52,c52,A53,c53,v54,he⟩:=HV.out
    obtain ⟨A50,c50,e50⟩:=Kd.R_slice he.r0
    subst e50
    obtain ⟨A51,c51,e51⟩:=Kd.R_slice he.r1
    subst e51
    obtain ⟨A54,c54,e54⟩:=Kd.R_slice he.r4
    subst e54
    have HE:=qo.mk (he.below (below_drew (Below.refl _ _)))
    have HC9:=qo.mk (HC.out.to (below_drew (Below.refl _ _)))
    have HN9:=qo.mk (HV.out.ne HC.out.b6)
    clear he
    refine start_ (n:=13) (S:=fun w'=>w'.cell? ⟨gp,0,none⟩ = some (.slice A50 S2.length c50) ∧ w'.cell? ⟨gp,1,none⟩ = some (.slice A51 P2.length c51) ∧ w'.cell? ⟨gp,4,none⟩ = some (.slice A54 U2.length c54)) (ds:=[]) (Array.replicate 13 false) (by kernel_rfl) rfl rfl ⟨(qh HE.out.blk 0).trans rfl,(qh HE.out.blk 1).trans rfl,(qh HE.out.blk 4).trans rfl⟩ (fun hHeld=>?_)
    refine pa_ 0 99 (bz_ 13 1) ?_
    refine pa_ 1 100 (bz_ 13 3) ?_
    refine pa_ 2 101 (bz_ 13 7) ?_
    refine pa_ 4 103 (bz_ 13 23) ?_
    refine pa_ 5 104 (bz_ 13 55) ?_
    refine pa_ 6 105 (bz_ 13 119) ?_
    refine pa_ 7 106 (bz_ 13 247) ?_
    refine ta_ 3 102 (bz_ 13 255) hHeld (hy:=Or.inl ⟨by rfl,by rintro w' ⟨s0,s1,s2⟩;go_simp;with_reducible rfl⟩) (h:=?_)
    refine ta_ 8 107 (bz_ 13 511) hHeld (hy:=Or.inl ⟨by rfl,by rintro w' ⟨s0,s1,s2⟩;go_simp;with_reducible rfl⟩) (h:=?_)
    refine one_ (i:=9) (N:=none) (bz_ 13 1023) rfl rfl (by kernel_rfl) (by decide) (fun K hK=>?_)
    refine skip_ (w1:=?_) (by rfl) rfl ?_ ?_
    rotate_left
    ·go_simp
     rfl
    refine hK.out _ _ ⟨(qh (HC9.out.putS HE.out.blk HN9.out) 0).trans rfl,(qh (HC9.out.putS HE.out.blk HN9.out) 1).trans rfl,(qh (HC9.out.putS HE.out.blk HN9.out) 4).trans rfl⟩ (fun hHeld=>?_)
    clear hK K
    refine pa_ 10 7 (bz_ 13 2047) ?_
    refine pa_ 11 8 (bz_ 13 4095) ?_
    refine pa_ 12 9 (bz_ 13 8191) ?_
    refine done_ (by kernel_rfl) ?_
    go_wp2
    refine bodyPost_ret (results_list (rs:=[.cell 6 32,.tmp 7,.tmp 8,.tmp 9]) rfl (by simp) (.cell g6 32 #[.slice A50 S2.length c50,.slice A51 P2.length c51] (0,0) _ rfl HC9.out.put Try.underlying32 rfl (by kernel_rfl) (.tmp (.tmp (.tmp .nil))))) rfl ?_
    exact ⟨_,_,_,rfl,HC9.out.putR HE.out.r0 t32_9,HC9.out.putR HE.out.r1 t32_96,HC9.out.putR HE.out.r4 t32_3,HC9.out.putB⟩
   rw [if_neg ce] at hlv
   replace hlv:=Option.bind_eq_some_iff.mp hlv
   obtain ⟨gs,hgs,hlv⟩:=hlv
   obtain ⟨kc,hgs⟩:=(lim_ev hgs).rounds
   replace hlv:=Option.bind_eq_some_iff.mp hlv
   obtain ⟨q4,hgr,hlv⟩:=hlv
   have HGS:=qo.mk hgs
   have HGR:=qo.mk hgr
   have HLV:=qo.mk hlv
   have c1b0 : decide (0 < (its.length : Int)) = true:=decide_eq_true (by omega)
   have c1b1 : decide (0 < its.length) = true:=decide_eq_true (by omega)
   clear hgs hgr hlv ce
   go_wp2_with (first|((with_reducible refine gate_callee (f:=44) rfl ?_);refine goesL_ (some 71) rfl rfl Try.func44 (by kernel_rfl) rfl #[.int .i64 kd,.slice Ai its.length ci] rfl sm_ ?_;(with_reducible refine (impl_CutItems.calls kc kd _ _ its gs _ ?side1 ?side2 HGS.out).mono ?_);(case side1=>exact (Kd.R_reads' HO.out).2.2);(case side2=>exact (Kd.R_reads' HO.out).2.1);rintro e w14 ⟨vg,rfl,hs,hb⟩;refine ⟨_,rfl,?_⟩;obtain ⟨Ag,cg,eg⟩:=Kd.S_slice hs;subst eg;have HS2:=qo.mk (Kd.S_lower hs (qk HC.out.hb));clear hs;replace HV:=qo.mk (HV.out.below hb);have hc_:=HC.out.to hb;clear HC;have HC:=qo.mk hc_;have hcl_:=HC.out.cells;clear hb hc_))
   go_loopg [16,18,73] (gs.length + 1) (fun kq v16 v18 v73 w'=>∃ (j : Nat) (rt : Int) (S3 : List ByteArray) (P3 : List (S96)) (L3 U3 : List Int) (nx : List (S71)),v16 = .int .i64 rt ∧ v73 = .int .i64 (j : Int) ∧ qo (j + kq = gs.length + 1 ∧ j ≤ gs.length) ∧ qo (impl_tree.groups F kd (gs.drop j) S3 P3 L3 U3 rt nx = some q4) ∧ qo (Kd.R k71 71 w' w.heap.size (fun _=>True) v18 nx) ∧ qo (Kd.S (Kd.slice 71 k71) 68 w' w.heap.size (fun k_=>some k_ ≠ (v18 : Value).ownBlock) (.slice Ag gs.length cg) gs) ∧ qo (CB w w' g3 g6 (.slice A0 S.length c0) (.slice A1 P.length c1)) ∧ qo (IsP w w' gp S3 P3 F L3 U3))
   case atStart=>exact ⟨0,_,_,_,_,_,_,rfl,rfl,⟨by omega,Nat.zero_le _⟩,HGR,⟨Kd.R_nil _ _ _ _ _⟩,⟨Kd.S_mono HS2.out (fun _ _=>by simp [Value.ownBlock])⟩,⟨HC.out.to⟩,⟨HV.out.below⟩⟩
   clear HC HV HS2 HGR hcl hcl_
   obtain ⟨j,rt,S3,P3,L3,U3,nx,rfl,rfl,HI,HGR,HO,HS2,HC,HV⟩:=hrel
   have hcl:=HC.out.cells
   obtain ⟨k3,rfl⟩ : ∃ k,gk = k + 1:=⟨gk - 1,by have:=HI.out;omega⟩
   have hgr:=HGR.out
   clear HGR
   obtain ⟨An,cn,en⟩:=Kd.R_slice HO.out
   subst en
   by_cases cx : j < gs.length
   ·have c0b0 : decide ((j : Int) < (gs.length : Int)) = true:=decide_eq_true (by omega)
    have p0:=eq_true (show 0 ≤ (j : Int) from Int.natCast_nonneg j)
    have q0:=eq_true (show (j : Int) < (gs.length : Int) by omega)
    have q1:=eq_true cx
    obtain ⟨ad,A1g,c1g,eA,hx0,hl0,hr0⟩:=grp_at HS2.out j cx
    subst eA
    rw [drop_grp cx,impl_tree.groups] at hgr
    obtain ⟨it,hit⟩ : ∃ it,it = rd_L6 gs (j : Int):=⟨_,rfl⟩
    rw [← hit] at hgr hx0 hl0 hr0
    clear hit
    have HL0:=qo.mk hl0
    have HG:=qo.mk hr0
    clear hl0 hr0
    replace hgr:=Option.bind_eq_some_iff.mp hgr
    obtain ⟨⟨r,S4,P4,L4,U4⟩,hpg,hgr⟩:=hgr
    have HPG:=qo.mk hpg
    clear hpg
    by_cases cr : r < 0
    ·rw [if_pos cr] at hgr
     obtain rfl:=Option.some.inj hgr
     have hlv:=HLV.out
     rw [if_pos rfl] at hlv
     obtain rfl:=Option.some.inj hlv
     have hu:=HU.out
     rw [if_pos rfl] at hu
     obtain ⟨rfl,rfl,rfl,rfl,rfl⟩ : [] = r1 ∧ [] = r2 ∧ 0 = r3 ∧ [] = r4 ∧ false = r5:=by simpa using hu
     have c2b0 : decide (r < 0) = true:=decide_eq_true cr
     clear hgr hlv hu
     go_wp2_with (first|((with_reducible refine gate_callee (f:=45) rfl ?_);refine goesL_ (some 81) rfl rfl Try.func45 (by kernel_rfl) rfl #[.pointer (some ⟨gp,0,none⟩),.agg #[.int .i64 kd,.slice A1g it.length c1g]] rfl sm_ ?_;(with_reducible refine (impl_page.calls gp S3 P3 F L3 U3 kd _ _ it r S4 P4 L4 U4 w _ HV.out HC.out.hb ?hri HL0.out HPG.out).mono ?_);(case hri=>exact Kd.C_foot_own (HV.out.apart HG.out e82_71) (fun _ h=>h.2));rintro e w15 ⟨rfl,hi,hb,hk⟩;refine ⟨_,rfl,?_⟩;have n0_:=qo.mk (HC.out.keep hb hk (HV.out.ne HC.out.b3) (HV.out.ne HC.out.b6));have n1_:=qo.mk (HV.out.keepR hk HO.out e82_71);have n2_:=qo.mk (HV.out.keepS hk HS2.out e82_68);have n3_:=qo.mk (HV.out.keepR hk HG.out e82_71);clear HC HO HS2 HG HV;have HC:=n0_;have HO:=n1_;have HS2:=n2_;have HG:=n3_;have HV:=qo.mk hi;clear n0_ n1_ n2_ n3_ hi hb hk;have hcl3:=HC.out.cells;try (obtain ⟨ad5,e5,hx5,-⟩:=at_T71 (Kd.R_reads' HG.out).2.2 0 (Int.le_refl _) (by have:=HI0.out;omega);subst e5;rw [show ((0 : Int)).toNat = 0 from rfl,Nat.zero_mul,Addr.add_zero'] at hx5;have qi5 : (0 < it.length) = True:=eq_true (by have:=HI0.out;omega))))
     refine bodyPost_ret (results_list (rs:=[.cell 6 32,.tmp 7,.tmp 8,.tmp 9]) rfl (by simp) (.cell g6 32 #[.slice none 0 0,.slice none 0 0] (0,0) _ rfl HC.out.to.put Try.underlying32 rfl (by kernel_rfl) (.tmp (.tmp (.tmp .nil))))) rfl ?_
     exact ⟨_,_,_,rfl,Kd.R_nil _ _ _ _ _,Kd.R_nil _ _ _ _ _,Kd.R_nil _ _ _ _ _,HC.out.to.putB⟩
    rw [if_neg cr] at hgr
    have c2b0 : decide (r < 0) = false:=decide_eq_false cr
    by_cases ci0 : it.length = 0
    ·rw [if_pos ci0] at hgr
     cases hgr
    rw [if_neg ci0] at hgr
    by_cases cnx : nx.length < 1000000
    ·rw [if_pos cnx] at hgr
     have HNX:=qo.mk cnx
     have HGR:=qo.mk hgr
     have HI0:=qo.mk ci0
     have HX:=qo.mk cx
     clear hgr cnx ci0 cx
     go_wp2_with (first|((with_reducible refine gate_callee (f:=45) rfl ?_);refine goesL_ (some 81) rfl rfl Try.func45 (by kernel_rfl) rfl #[.pointer (some ⟨gp,0,none⟩),.agg #[.int .i64 kd,.slice A1g it.length c1g]] rfl sm_ ?_;(with_reducible refine (impl_page.calls gp S3 P3 F L3 U3 kd _ _ it r S4 P4 L4 U4 w _ HV.out HC.out.hb ?hri HL0.out HPG.out).mono ?_);(case hri=>exact Kd.C_foot_own (HV.out.apart HG.out e82_71) (fun _ h=>h.2));rintro e w15 ⟨rfl,hi,hb,hk⟩;refine ⟨_,rfl,?_⟩;have n0_:=qo.mk (HC.out.keep hb hk (HV.out.ne HC.out.b3) (HV.out.ne HC.out.b6));have n1_:=qo.mk (HV.out.keepR hk HO.out e82_71);have n2_:=qo.mk (HV.out.keepS hk HS2.out e82_68);have n3_:=qo.mk (HV.out.keepR hk HG.out e82_71);clear HC HO HS2 HG HV;have HC:=n0_;have HO:=n1_;have HS2:=n2_;have HG:=n3_;have HV:=qo.mk hi;clear n0_ n1_ n2_ n3_ hi hb hk;have hcl3:=HC.out.cells;try (obtain ⟨ad5,e5,hx5,-⟩:=at_T71 (Kd.R_reads' HG.out).2.2 0 (Int.le_refl _) (by have:=HI0.out;omega);subst e5;rw [show ((0 : Int)).toNat = 0 from rfl,Nat.zero_mul,Addr.add_zero'] at hx5;have qi5 : (0 < it.length) = True:=eq_true (by have:=HI0.out;omega)))|((with_reducible refine gate_builtin (b:=.append) (xs:=#[.tmp 85,.tmp 92]) rfl ?_);at_builtin;refine Kd.R_append k71 (w0:=w) w.heap.size rfl (.tmp 85) (.tmp 92) 68 71 (.agg #[(.string ⟨#[]⟩),(.string ⟨#[]⟩),(.int .i64 0)]) 40 rfl Try.underlying68 info71 rfl (by decide) (by omega) (.slice An nx.length cn) nx (⟨(rd_T71 it 0).f0,(⟨#[]⟩ : ByteArray),r⟩ : S71) [.string (rd_T71 it 0).f0,.string (⟨#[]⟩ : ByteArray),.int .i64 r] (fun _=>True) (fun _=>False) rfl rfl (k71_mkM _ _ _ (⟨(rd_T71 it 0).f0,(⟨#[]⟩ : ByteArray),r⟩ : S71)) (fun _ hk=>hk.elim) (fun _ _=>trivial) HO.out HC.out.hb (qk HC.out.hb) (by have:=HNX.out;omega) ?_;intro v9 w9 ho hb hg hat;have n0_:=qo.mk (HC.out.grown hb hg (row_ne HO.out HC.out.b3 (by decide)) (row_ne HO.out HC.out.b6 (by decide)));have n1_:=qo.mk (HV.out.grown (Kd.R_typed HO.out) hg);have n2_:=qo.mk (Kd.S_mono (Kd.S_after (ok:=fun _=>True) (Kd.S_mono HS2.out (fun _ hk=>⟨trivial,hk⟩)) hg hat) (fun _ hk=>hk.2));clear HC HV HS2 HO;have HC:=n0_;have HV:=n1_;have HS2:=n2_;have HO:=qo.mk ho;clear ho hb hg hat n0_ n1_ n2_;have hcl4:=HC.out.cells))
     go_roundg k3
     case measure=>omega
     case rel=>exact ⟨j + 1,_,_,_,_,_,_,rfl,by first|rfl|(simp;done)|(rw [show wrap64 ((j : Int) + 1) = ((j + 1 : Nat) : Int) from by unfold wrap64;have:=Kd.C_max (Kd.S_reads' HS2.out).2.2;have:=HX.out;omega]),⟨by have:=HI.out;omega,HX.out⟩,HGR,HO,HS2,⟨HC.out.to⟩,⟨HV.out.below⟩⟩
    rw [if_neg cnx] at hgr
    cases hgr
   have c0b0 : decide ((j : Int) < (gs.length : Int)) = false:=decide_eq_false (by omega)
   have c0b1 : decide (j < gs.length) = false:=decide_eq_false cx
   rw [List.drop_of_length_le (by omega),impl_tree.groups] at hgr
   obtain rfl:=Option.some.inj hgr
   have hlv:=HLV.out
   rw [if_neg (by simp)] at hlv
   by_cases cq1 : nx.length = 1
   ·rw [if_pos cq1] at hlv
    obtain rfl:=Option.some.inj hlv
    have hu:=HU.out
    rw [if_neg (by simp)] at hu
    obtain ⟨rfl,rfl,rfl,rfl,rfl⟩ : S3 = r1 ∧ P3 = r2 ∧ rt = r3 ∧ U3 = r4 ∧ true = r5:=by simpa using hu
    have c3b0 : ((nx.length : Int) == 1) = true:=beq_iff_eq.2 (by omega)
    clear hgr hlv hu
    go_upto_region 31 with (fail)
    have hcl9:=HC.out.cells
    obtain ⟨v50,v51,A52,c52,A53,c53,v54,he⟩:=HV.out
    obtain ⟨A50,c50,e50⟩:=Kd.R_slice he.r0
    subst e50
    obtain ⟨A51,c51,e51⟩:=Kd.R_slice he.r1
    subst e51
    obtain ⟨A54,c54,e54⟩:=Kd.R_slice he.r4
    subst e54
    have HE:=qo.mk (he.below (below_drew (Below.refl _ _)))
    have HC9:=qo.mk (HC.out.to (below_drew (Below.refl _ _)))
    have HN9:=qo.mk (HV.out.ne HC.out.b6)
    clear he
    refine start_ (n:=13) (S:=fun w'=>w'.cell? ⟨gp,0,none⟩ = some (.slice A50 S3.length c50) ∧ w'.cell? ⟨gp,1,none⟩ = some (.slice A51 P3.length c51) ∧ w'.cell? ⟨gp,4,none⟩ = some (.slice A54 U3.length c54)) (ds:=[]) (Array.replicate 13 false) (by kernel_rfl) rfl rfl ⟨(qh HE.out.blk 0).trans rfl,(qh HE.out.blk 1).trans rfl,(qh HE.out.blk 4).trans rfl⟩ (fun hHeld=>?_)
    refine pa_ 0 99 (bz_ 13 1) ?_
    refine pa_ 1 100 (bz_ 13 3) ?_
    refine pa_ 2 101 (bz_ 13 7) ?_
    refine pa_ 4 103 (bz_ 13 23) ?_
    refine pa_ 5 104 (bz_ 13 55) ?_
    refine pa_ 6 105 (bz_ 13 119) ?_
    refine pa_ 7 106 (bz_ 13 247) ?_
    refine ta_ 3 102 (bz_ 13 255) hHeld (hy:=Or.inl ⟨by rfl,by rintro w' ⟨s0,s1,s2⟩;go_simp;with_reducible rfl⟩) (h:=?_)
    refine ta_ 8 107 (bz_ 13 511) hHeld (hy:=Or.inl ⟨by rfl,by rintro w' ⟨s0,s1,s2⟩;go_simp;with_reducible rfl⟩) (h:=?_)
    refine one_ (i:=9) (N:=none) (bz_ 13 1023) rfl rfl (by kernel_rfl) (by decide) (fun K hK=>?_)
    refine skip_ (w1:=?_) (by rfl) rfl ?_ ?_
    rotate_left
    ·go_simp
     rfl
    refine hK.out _ _ ⟨(qh (HC9.out.putS HE.out.blk HN9.out) 0).trans rfl,(qh (HC9.out.putS HE.out.blk HN9.out) 1).trans rfl,(qh (HC9.out.putS HE.out.blk HN9.out) 4).trans rfl⟩ (fun hHeld=>?_)
    clear hK K
    refine pa_ 10 7 (bz_ 13 2047) ?_
    refine pa_ 11 8 (bz_ 13 4095) ?_
    refine pa_ 12 9 (bz_ 13 8191) ?_
    refine done_ (by kernel_rfl) ?_
    go_wp2
    refine bodyPost_ret (results_list (rs:=[.cell 6 32,.tmp 7,.tmp 8,.tmp 9]) rfl (by simp) (.cell g6 32 #[.slice A50 S3.length c50,.slice A51 P3.length c51] (0,0) _ rfl HC9.out.put Try.underlying32 rfl (by kernel_rfl) (.tmp (.tmp (.tmp .nil))))) rfl ?_
    exact ⟨_,_,_,rfl,HC9.out.putR HE.out.r0 t32_9,HC9.out.putR HE.out.r1 t32_96,HC9.out.putR HE.out.r4 t32_3,HC9.out.putB⟩
   rw [if_neg cq1] at hlv
   have HLV2:=qo.mk hlv
   have c3b0 : ((nx.length : Int) == 1) = false:=beq_eq_false_iff_ne.2 (by omega)
   clear hgr hlv
   go_wp2
   go_roundg k2
   case measure=>omega
   case rel=>exact ⟨_,_,_,_,_,_,_,rfl,rfl,HLV2,HO,⟨HC.out.to⟩,⟨HV.out.below⟩⟩
 rw [if_neg cl] at hu
 cases hu
end Go.Proofs.Ytcnoccefdejphaa.QFnTrees
