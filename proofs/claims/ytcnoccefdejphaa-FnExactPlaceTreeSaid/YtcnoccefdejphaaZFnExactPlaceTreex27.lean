/- spec.PlaceTree walked by hand: validations, the items, levels of groups, each group a page; the builder tells whether it is bad. -/
import Derived.Test.YtcnoccefdejphaaZFnExactPlaceTreex2
import Derived.Test.YtcnoccefdejphaaZFnExactPlaceTreex3
import Derived.Test.YtcnoccefdejphaaZFnExactPlaceTreex21
import Derived.Test.YtcnoccefdejphaaZFnExactPlaceTreex26
namespace Go.Proofs.Ytcnoccefdejphaa.QFnExactPlaceTree
open Go.RowKit Go.Proofs.YtcnoccefdejphaaW.PrintWords Go.Proofs.YtcnoccefdejphaaW.PrintLast Go.Proofs.YtcnoccefdejphaaW.PrintMore
attribute [local go_sem] max2_int min2_int max_two min_two max_three min_three max_four min_four
set_option linter.unusedVariables false
set_option linter.unusedSimpArgs false
noncomputable def spec_tree.groups (F : List Int) (S : List ByteArray) (kind : Int) : List (List (S71)) → List (S96) → List Int → List Int → Bool → Int → List (S71) → Option (List (S96) × List Int × List Int × Bool × Int × List (S71))
 | [],P,L,U,b,r,n=>some (P,L,U,b,r,n)
 | it :: gs,P,L,U,b,r,n=>if b = true then some (P,L,U,b,r,n) else (spec_l05Place.f S P L U b F kind it).bind fun q=>if it.length = 0 then none else if n.length < 1000000 then spec_tree.groups F S kind gs q.2.1 q.2.2.1 q.2.2.2.1 q.2.2.2.2 q.1 (n ++ [(⟨(rd_T71 it 0).f0,(⟨#[]⟩ : ByteArray),q.1⟩ : S71)]) else none
noncomputable def spec_tree.levels (F : List Int) (S : List ByteArray) : Nat → Int → List (S71) → List (S96) → List Int → List Int → Bool → Int → Option (List (S96) × List Int × Bool × Int)
 | 0,_,_,_,_,_,_,_=>none
 | n + 1,kind,items,P,L,U,b,root=>if items.length = 0 then some (P,U,b,root) else if b = true then some (P,U,b,root) else
  (lim fun k=>spec_CutItems.f k kind items).bind fun gs=>(spec_tree.groups F S kind gs P L U b root []).bind fun q=>spec_tree.levels F S n 2 (if q.2.2.2.2.2.length = 1 then [] else q.2.2.2.2.2) q.1 q.2.1 q.2.2.1 q.2.2.2.1 q.2.2.2.2.1
def spec_tree.chk (n : Int) : Bool → List Int → Bool
 | b,[]=>b
 | b,x :: xs=>if b = true then spec_tree.chk n (decide (spec_l01In.f x 0 n = some true)) xs else false
noncomputable def spec_tree.f (S : List ByteArray) (P : List (S96)) (F : List Int) (m : List (S69)) : Option (List ByteArray × List (S96) × Int × List Int × Bool) :=
 (lim fun k=>spec_DeviceOk.f k S P).bind fun a=>(if a = true then (lim fun k=>spec_MapOk.f k m) else some false).bind fun b=>if spec_tree.chk (wrap64 ((S.length : Int) - 1)) b F = false then some ([],[],0,[],false) else
  (spec_l03Copy.f S P).bind fun d=>if m.length ≤ 1000000 ∧ F.length ≤ 1048576 then (spec_tree.levels F d.1 1001 1 (m.map itemOf) d.2 F [] false (-1)).bind fun q=>if q.2.2.1 = true then some ([],[],0,[],false) else if q.2.1.length ≤ 1000000 then some (d.1,q.1,q.2.2.2,q.2.1,true) else none else none
theorem lin_some (a b c : Int) : ∃ r,spec_l01In.f a b c = some r:=by
 unfold spec_l01In.f
 split
 ·exact ⟨_,rfl⟩
 exact ⟨_,rfl⟩
theorem drop_int {F : List Int} {i : Nat} (h : i < F.length) : F.drop i = rd F (i : Int) :: F.drop (i + 1):=by
 rw [List.drop_eq_getElem_cons h]
 unfold rd
 rw [Int.toNat_natCast,List.getD_eq_getElem?_getD,List.getElem?_eq_getElem h]
 rfl
section
variable {w0 w W W1 : World} {g g3 g6 : Nat} {a b : Value} {f0 : List ByteArray} {f1 : List (S96)} {f2 f3 : List Int} {f4 : Bool}
theorem CB.kp (h : CB w W g3 g6 a b) (hb : Below w.heap.size w W1) (hk : Kp W W1 g) (h3 : g3 ≠ g) (h6 : g6 ≠ g) : CB w W1 g3 g6 a b:=⟨hb,hk.blk h.b3 h3 (by decide),hk.blk h.b6 h6 (by decide),h.ge6,h.ne⟩
theorem e67_71 : ∀ q,q ∈ 71 :: k71.E → q ≠ 67:=by intro q hq;obtain rfl : q = 71:=List.mem_singleton.1 (show q ∈ ([71] : List Nat) from hq);decide
theorem e96_71 : ∀ q,q ∈ 71 :: k71.E → q ≠ 96:=by intro q hq;obtain rfl : q = 71:=List.mem_singleton.1 (show q ∈ ([71] : List Nat) from hq);decide
theorem e67_68 : ∀ q,q ∈ 68 :: (Kd.slice 71 k71).E → q ≠ 67:=by
 intro q hq
 have hq : q ∈ ([68,71] : List Nat):=hq
 simp only [List.mem_cons,List.not_mem_nil,or_false] at hq
 rcases hq with rfl|rfl <;> decide
theorem e96_68 : ∀ q,q ∈ 68 :: (Kd.slice 71 k71).E → q ≠ 96:=by
 intro q hq
 have hq : q ∈ ([68,71] : List Nat):=hq
 simp only [List.mem_cons,List.not_mem_nil,or_false] at hq
 rcases hq with rfl|rfl <;> decide
theorem IsS67.kpR {α : Type} {d : Kd α} {e base : Nat} {ok : Nat → Prop} {v : Value} {xs : List α} (h : IsS67 w0 W g f0 f1 f2 f3 f4) (hk : Kp W W1 g) (ho : d.R e W base ok v xs) (ht : ∀ q,q ∈ e :: d.E → q ≠ 67) (ht2 : ∀ q,q ∈ e :: d.E → q ≠ 96) : d.R e W1 base ok v xs:=Kd.R_mono (R_kp (h.apart ho ht) hk (fun _ h=>h.2) ht2) (fun _ h=>h.1)
theorem IsS67.kpS {α : Type} {d : Kd α} {e base : Nat} {ok : Nat → Prop} {v : Value} {xs : List α} (h : IsS67 w0 W g f0 f1 f2 f3 f4) (hk : Kp W W1 g) (ho : d.S e W base ok v xs) (ht : ∀ q,q ∈ e :: d.E → q ≠ 67) (ht2 : ∀ q,q ∈ e :: d.E → q ≠ 96) : d.S e W1 base ok v xs:=Kd.S_mono (S_kp (h.apartS ho ht) hk (fun _ h=>h.2) ht2) (fun _ h=>h.1)
theorem IsS67.ne (h : IsS67 w0 W g f0 f1 f2 f3 f4) {c : Nat} {cs : Array Value} (hb : W.heap[c]? = some (.cells cs 32 (0,0))) : c ≠ g:=(h.ne_blk hb (by decide)).symm
theorem IsS67.to (h : IsS67 w0 W g f0 f1 f2 f3 f4) (hb : Below W.heap.size W W1:=by repeat (first|exact Below.refl _ _|apply qf|apply qa|apply qd)) : IsS67 w0 W1 g f0 f1 f2 f3 f4:=h.below hb
theorem IsS67.bad (h : IsS67 w0 W g f0 f1 f2 f3 f4) : W.cell? ⟨g,4,none⟩ = some (.bool f4) ∧ W.frozen? ⟨g,4,none⟩ = false:=⟨h.cell4,h.frozen4⟩
end
theorem n3_9 : ∀ q,q ∈ 9 :: Kd.string.E → q ≠ 3:=by intro q hq;obtain rfl : q = 9:=List.mem_singleton.1 hq;decide
theorem n3_96 : ∀ q,q ∈ 96 :: k96.E → q ≠ 3:=by intro q hq;obtain rfl : q = 96:=List.mem_singleton.1 (show q ∈ ([96] : List Nat) from hq);decide
theorem S_newrow {α β : Type} {d : Kd α} {d' : Kd β} {e e' base : Nat} {W W1 : World} {u v : Value} {xs : List α} {ys : List β} {ok' : Nat → Prop} (h : Kd.S d e W base (fun _=>True) u xs) (hb : Below W.heap.size W W1) (hv : d'.R e' W1 W.heap.size ok' v ys) : Kd.S d e W1 base (fun k=>some k ≠ v.ownBlock) u xs :=
 Kd.S_mono (Kd.S_below (Kd.S_bound h) hb) (fun k hk he=>by
  rcases Kd.R_base2 hv with h0|⟨k2,h2,h3⟩
  ·rw [h0] at he
   cases he
  rw [h2] at he
  injection he with he
  have:=hk.2.2.1
  omega)
set_option maxHeartbeats 16000000 in
set_option maxRecDepth 100000 in
theorem spec_tree.calls (A0 : Option Addr) (c0 : Nat) (S : List ByteArray) (A1 : Option Addr) (c1 : Nat) (P : List (S96)) (Af : Option Addr) (cf : Nat) (F : List Int) (Am : Option Addr) (cm : Nat) (m : List (S69)) (r1 : List ByteArray) (r2 : List (S96)) (r3 : Int) (r4 : List Int) (r5 : Bool) (w : World)
  (hS : Kd.C Kd.string w A0 S.length S) (hS' : S.length ≤ c0) (hP : Kd.C k96 w A1 P.length P) (hP' : P.length ≤ c1) (hF : Kd.C (Kd.int .i64) w Af F.length F) (hF' : F.length ≤ cf) (hM : Kd.C k69 w Am m.length m) (hM' : m.length ≤ cm) (h : spec_tree.f S P F m = some (r1,r2,r3,r4,r5)) :
  Calls Try.prog 7 #[.agg #[.slice A0 S.length c0,.slice A1 P.length c1],.slice Af F.length cf,.slice Am m.length cm] w fun e w'=>∃ v0_ v1_ v3_ : Value,e = .returned (.tuple #[.agg #[v0_,v1_],.int .i64 r3,v3_,.bool r5]) ∧ Kd.R Kd.string 9 w' w.heap.size (fun _=>True) v0_ r1 ∧ Kd.R k96 96 w' w.heap.size (fun _=>True) v1_ r2 ∧ Kd.R (Kd.int .i64) 3 w' w.heap.size (fun _=>True) v3_ r4 ∧ Below w.heap.size w w':=by
 have hu32:=Try.underlying32
 have hu67:=Try.underlying67
 have hu69:=Try.underlying69
 have hu71:=Try.underlying71
 have hu76:=Try.underlying76
 have HS:=qo.mk hS
 have HS':=qo.mk hS'
 have HP:=qo.mk hP
 have HP':=qo.mk hP'
 have HF:=qo.mk hF
 have HF':=qo.mk hF'
 have HM:=qo.mk hM
 have HM':=qo.mk hM'
 clear hS hS' hP hP' hF hF' hM hM'
 unfold spec_tree.f at h
 replace h:=Option.bind_eq_some_iff.mp h
 obtain ⟨a,ha,h⟩:=h
 obtain ⟨ka,ha⟩:=(lim_ev ha).rounds
 replace h:=Option.bind_eq_some_iff.mp h
 obtain ⟨b,hb,h⟩:=h
 have h':=qo.mk h
 have HBM:=qo.mk hb
 clear h hb
 go_enter Try.func7,Try.ntmps7
 go_upto_region 1 with (first|((with_reducible refine gate_dst (N:=3) rfl ?_);refine box_event ?hg (N:=3) ?hd (cs:=#[.slice A0 S.length c0,.slice A1 P.length c1]) (t:=32) ?hr ?_;(case hd=>rfl);(case hg=>rfl);(case hr=>first|(go_simp;done)|(go_simp;rfl));intro g3 hg_ w3 hbox hb;have H3:=qo.mk hbox;have HB3:=qo.mk hb;clear hbox hb hg_)|((with_reducible refine gate_dst (N:=6) rfl ?_);refine box_event ?hg (N:=6) ?hd (cs:=#[.slice none 0 0,.slice none 0 0]) (t:=32) ?hr ?_;(case hd=>rfl);(case hg=>rfl);(case hr=>first|(go_simp;done)|(go_simp;rfl));intro g6 hg_ w6 hbox hb;have HC : qo (CB w w6 g3 g6 (.slice A0 S.length c0) (.slice A1 P.length c1)):=⟨⟨qn HB3.out hb,qm H3.out hb,hbox,by rw [hg_];exact HB3.out.size,by rw [hg_];have:=blk_lt H3.out;omega⟩⟩;clear hbox hb hg_ H3 HB3;have hf6:=HC.out.cells))
 go_cut [10] (fun v10 wc=>v10 = .bool b ∧ qo (CB w wc g3 g6 (.slice A0 S.length c0) (.slice A1 P.length c1)))
 case first =>
  by_cases ca : a = true
  ·subst ca
   have hb:=HBM.out
   rw [if_pos rfl] at hb
   obtain ⟨kb,hb⟩:=(lim_ev hb).rounds
   have hmap:=qo.mk hb
   clear hb HBM h'
   go_wp2_with (first|((with_reducible refine gate_callee (f:=31) rfl ?_);refine goesL_ (some 20) rfl rfl Try.func31 (by kernel_rfl) rfl #[.agg #[.slice A0 S.length c0,.slice A1 P.length c1]] rfl sm_ ?_;(with_reducible refine (spec_DeviceOk.calls ka _ _ S _ _ P _ _ ?side1 HS'.out ?side3 HP'.out ha).mono ?_);(case side1=>exact HC.out.c HS.out);(case side3=>exact HC.out.c HP.out);rintro e w7 ⟨rfl,hb⟩;refine ⟨_,rfl,?_⟩;have hc_:=HC.out.to hb;clear HC;have HC:=qo.mk hc_;have hcl_:=HC.out.cells;clear hb hc_)|(go_at_call 32;(with_reducible refine (spec_MapOk.calls kb _ _ m _ _ ?side1 HM'.out hmap.out).mono ?_);(case side1=>exact HC.out.c HM.out);rintro e w8 ⟨rfl,hb⟩;have hc_:=HC.out.to hb;clear HC;have HC:=qo.mk hc_;have hcl_:=HC.out.cells;clear hb hc_))
   go_meet
   case rel=>exact ⟨rfl,⟨HC.out.to⟩⟩
  obtain rfl : a = false:=by simpa using ca
  have hb:=HBM.out
  rw [if_neg (by simp)] at hb
  obtain rfl:=Option.some.inj hb
  clear hb HBM ca h'
  go_wp2_with (first|((with_reducible refine gate_callee (f:=31) rfl ?_);refine goesL_ (some 20) rfl rfl Try.func31 (by kernel_rfl) rfl #[.agg #[.slice A0 S.length c0,.slice A1 P.length c1]] rfl sm_ ?_;(with_reducible refine (spec_DeviceOk.calls ka _ _ S _ _ P _ _ ?side1 HS'.out ?side3 HP'.out ha).mono ?_);(case side1=>exact HC.out.c HS.out);(case side3=>exact HC.out.c HP.out);rintro e w7 ⟨rfl,hb⟩;refine ⟨_,rfl,?_⟩;have hc_:=HC.out.to hb;clear HC;have HC:=qo.mk hc_;have hcl_:=HC.out.cells;clear hb hc_))
  go_meet
  case rel=>exact ⟨rfl,⟨HC.out.to⟩⟩
 clear HBM hf6 HC ha
 obtain ⟨rfl,HC⟩:=hcut
 go_wp2
 go_loopg [10,11] (F.length + 1) (fun kq v10 v11 w'=>∃ (i : Nat) (ok : Bool),v10 = .bool ok ∧ v11 = .int .i64 (i : Int) ∧ qo (i + kq = F.length + 1 ∧ i ≤ F.length) ∧ qo (spec_tree.chk (wrap64 ((S.length : Int) - 1)) ok (F.drop i) = spec_tree.chk (wrap64 ((S.length : Int) - 1)) b F) ∧ qo (CB w w' g3 g6 (.slice A0 S.length c0) (.slice A1 P.length c1)))
 case atStart=>exact ⟨0,b,rfl,rfl,⟨by omega,Nat.zero_le _⟩,⟨rfl⟩,⟨HC.out.to⟩⟩
 clear HC
 obtain ⟨i,ok,rfl,rfl,HI,HK,HC⟩:=hrel
 obtain ⟨k1,rfl⟩ : ∃ k,gk = k + 1:=⟨gk - 1,by have:=HI.out;omega⟩
 have hcl:=HC.out.cells
 have hk:=HK.out
 clear HK
 by_cases cx : i < F.length
 ·have c0b0 : decide ((i : Int) < (F.length : Int)) = true:=decide_eq_true (by omega)
  have c0b1 : decide (i < F.length) = true:=decide_eq_true cx
  rw [drop_int cx] at hk
  cases ok with
  | true =>
   have p0 : 0 ≤ (i : Int):=Int.natCast_nonneg i
   have q0 : (i : Int) < (F.length : Int):=by omega
   obtain ⟨ad,eA,hx0⟩:=Kd.at_int HF.out (i : Int) p0 q0
   subst eA
   have hx1:=(HC.out.hb.cell (World.block_lt_of_cell? _ _ hx0)).trans hx0
   rw [Int.toNat_natCast] at hx1
   obtain ⟨t,hin⟩:=lin_some (rd F (i : Int)) 0 (wrap64 ((S.length : Int) - 1))
   have HN:=qo.mk hin
   have HX1:=qo.mk hx1
   rw [spec_tree.chk,if_pos rfl,hin] at hk
   have HK:=qo.mk hk
   have HX:=qo.mk cx
   have p1:=eq_true p0
   have q1:=eq_true q0
   clear hx0 hin hk cx hx1
   go_upto_region 5 with (fail)
   refine start_ (n:=10) (S:=fun w'=>w'.cell? (ad.add i) = some (.int .i64 (rd F (i : Int))) ∧ w'.cell? ⟨g3,0,none⟩ = some (.slice A0 S.length c0)) (ds:=[8]) (Array.replicate 10 false) (by kernel_rfl) rfl rfl ⟨HX1.out,(HC.out.to (below_drew (Below.refl _ _))).cells.1⟩ (fun hHeld=>?_)
   refine pa_ 0 34 (bz_ 10 1) ?_
   refine pa_ 1 35 (bz_ 10 3) ?_
   refine pa_ 2 36 (bz_ 10 7) ?_
   refine pa_ 4 38 (bz_ 10 23) ?_
   refine ta_ 3 37 (bz_ 10 31) hHeld (hy:=Or.inl ⟨by rfl,by rintro w' ⟨s0,s1⟩;go_simp;with_reducible rfl⟩) (h:=?_)
   refine ta_ 5 39 (bz_ 10 63) hHeld (hy:=Or.inl ⟨by rfl,by rintro w' ⟨s0,s1⟩;go_simp;with_reducible rfl⟩) (h:=?_)
   refine pa_ 6 40 (bz_ 10 127) ?_
   refine pa_ 7 41 (bz_ 10 255) ?_
   refine last_ (i:=8) (N:=some 42) (bz_ 10 511) rfl rfl (by kernel_rfl) (by decide) (fun K hK=>?_)
   refine goes_ Try.func33 (by kernel_rfl) rfl #[.int .i64 (rd F (i : Int)),.int .i64 0,.int .i64 (wrap64 ((S.length : Int) - 1))] (by rfl) rfl rfl (by simp only [List.map_toArray,List.map_cons,List.map_nil];rfl) ?_
   with_reducible refine (spec_l01In.calls _ _ _ _ _ HN.out).mono ?_
   rintro e w9 ⟨rfl,⟨nd9,rfl⟩⟩
   refine ⟨_,rfl,?_⟩
   refine hK.out _ _ ?_
   clear hK K
   refine norm_ (a':=?_) ?_ ?_
   rotate_left
   ·show Act.put _ (some 42) _ = _
    simp only [Act.put,List.setIfInBounds_toArray,List.set_cons_zero,List.set_cons_succ,i64_w,i32_w]
    rfl
   refine pa_ 9 10 (bz_ 10 1023) ?_
   refine done_ (by kernel_rfl) ?_
   go_wp2
   go_roundg k1
   case measure=>omega
   case rel=>exact ⟨i + 1,t,rfl,by first|rfl|(simp;done)|(rw [show wrap64 ((i : Int) + 1) = ((i + 1 : Nat) : Int) from by unfold wrap64;have:=Kd.C_max HF.out;have:=HX.out;omega]),⟨by have:=HI.out;omega,HX.out⟩,⟨by have:=HK.out;rwa [show decide ((some t : Option Bool) = some true) = t from by cases t <;> decide] at this⟩,⟨HC.out.to⟩⟩
  | false =>
   rw [spec_tree.chk,if_neg (by simp)] at hk
   have hu:=h'.out
   rw [if_pos hk.symm] at hu
   obtain ⟨rfl,rfl,rfl,rfl,rfl⟩ : [] = r1 ∧ [] = r2 ∧ 0 = r3 ∧ [] = r4 ∧ false = r5:=by simpa using hu
   clear hu hk cx
   go_wp2_with (first|((with_reducible refine gate_dst (N:=46) rfl ?_);refine Kd.R_lit (Kd.int .i64) _ 3 ?hg (N:=46) ?hd (xs:=([] : List Int)) (inner:=[]) (ok:=fun _=>True) (okp:=fun _=>True) ?hr ?hp (fun _ hk=>hk) trivial (Below.refl _ _) (Nat.le_refl _) (by simp) ?_;(case hd=>rfl);(case hg=>rfl);(case hr=>first|(go_simp;done)|(go_simp;rfl));(case hp=>exact (Reps.none _ _));intro v46 w46 ho hb hg_ hnew_;clear hg_ hnew_;have HO:=qo.mk (Kd.R_lower ho (qk HC.out.hb));clear ho;have hc_:=HC.out.to hb;clear HC;have HC:=qo.mk hc_;have hcl_:=HC.out.cells;clear hb hc_))
   refine bodyPost_ret (results_list (rs:=[.cell 6 32,.tmp 7,.tmp 8,.tmp 9]) rfl (by simp) (.cell g6 32 #[.slice none 0 0,.slice none 0 0] (0,0) _ rfl HC.out.to.put Try.underlying32 rfl (by kernel_rfl) (.tmp (.tmp (.tmp .nil))))) rfl ?_
   exact ⟨_,_,_,rfl,Kd.R_nil _ _ _ _ _,Kd.R_nil _ _ _ _ _,HC.out.putR HO.out t32_3,HC.out.to.putB⟩
 obtain rfl : i = F.length:=by have:=HI.out;omega
 have c0b0 : decide ((F.length : Int) < (F.length : Int)) = false:=decide_eq_false (by omega)
 have c0b1 : decide (F.length < F.length) = false:=decide_eq_false cx
 rw [List.drop_length,spec_tree.chk] at hk
 cases ok with
 | false =>
  have hu:=h'.out
  rw [if_pos hk.symm] at hu
  obtain ⟨rfl,rfl,rfl,rfl,rfl⟩ : [] = r1 ∧ [] = r2 ∧ 0 = r3 ∧ [] = r4 ∧ false = r5:=by simpa using hu
  clear hu hk cx
  go_wp2_with (first|((with_reducible refine gate_dst (N:=46) rfl ?_);refine Kd.R_lit (Kd.int .i64) _ 3 ?hg (N:=46) ?hd (xs:=([] : List Int)) (inner:=[]) (ok:=fun _=>True) (okp:=fun _=>True) ?hr ?hp (fun _ hk=>hk) trivial (Below.refl _ _) (Nat.le_refl _) (by simp) ?_;(case hd=>rfl);(case hg=>rfl);(case hr=>first|(go_simp;done)|(go_simp;rfl));(case hp=>exact (Reps.none _ _));intro v46 w46 ho hb hg_ hnew_;clear hg_ hnew_;have HO:=qo.mk (Kd.R_lower ho (qk HC.out.hb));clear ho;have hc_:=HC.out.to hb;clear HC;have HC:=qo.mk hc_;have hcl_:=HC.out.cells;clear hb hc_))
  refine bodyPost_ret (results_list (rs:=[.cell 6 32,.tmp 7,.tmp 8,.tmp 9]) rfl (by simp) (.cell g6 32 #[.slice none 0 0,.slice none 0 0] (0,0) _ rfl HC.out.to.put Try.underlying32 rfl (by kernel_rfl) (.tmp (.tmp (.tmp .nil))))) rfl ?_
  exact ⟨_,_,_,rfl,Kd.R_nil _ _ _ _ _,Kd.R_nil _ _ _ _ _,HC.out.putR HO.out t32_3,HC.out.to.putB⟩
 | true =>
  have hu:=h'.out
  rw [if_neg (by rw [← hk];simp)] at hu
  replace hu:=Option.bind_eq_some_iff.mp hu
  obtain ⟨⟨S1,P1⟩,hcd,hu⟩:=hu
  have HCD:=qo.mk hcd
  clear hcd h' HI hk cx
  by_cases cl : m.length ≤ 1000000 ∧ F.length ≤ 1048576
  ·rw [if_pos cl] at hu
   replace hu:=Option.bind_eq_some_iff.mp hu
   obtain ⟨q,hlv,hu⟩:=hu
   have HLV:=qo.mk hlv
   have HU:=qo.mk hu
   have HL:=qo.mk cl
   clear hlv hu cl
   go_wp2_with (first|((with_reducible refine gate_callee (f:=34) rfl ?_);refine goesL_ (some 48) rfl rfl Try.func34 (by kernel_rfl) rfl #[.agg #[.slice A0 S.length c0,.slice A1 P.length c1]] rfl sm_ ?_;(with_reducible refine (spec_l03Copy.calls _ _ S _ _ P S1 P1 _ ?side1 HS'.out ?side3 HP'.out HCD.out).mono ?_);(case side1=>exact HC.out.c HS.out);(case side3=>exact HC.out.c HP.out);rintro e w10 ⟨v0,v1,rfl,ho0,ho1,hb⟩;refine ⟨_,rfl,?_⟩;have HR0:=qo.mk (Kd.R_lower ho0 (qk HC.out.hb));have HR1:=qo.mk (Kd.R_lower ho1 (qk HC.out.hb));clear ho0 ho1;have hc_:=HC.out.to hb;clear HC;have HC:=qo.mk hc_;have hcl_:=HC.out.cells;clear hb hc_)|((with_reducible refine gate_dst (N:=49) rfl ?_);refine Kd.R_lit (Kd.int .i64) _ 3 ?hg (N:=49) ?hd (xs:=([] : List Int)) (inner:=[]) (ok:=fun _=>True) (okp:=fun _=>True) ?hr ?hp (fun _ hk=>hk) trivial (Below.refl _ _) (Nat.le_refl _) (by simp) ?_;(case hd=>rfl);(case hg=>rfl);(case hr=>first|(go_simp;done)|(go_simp;rfl));(case hp=>exact (Reps.none _ _));intro v49 w49 ho hb hg_ hnew_;clear hg_ hnew_;have HO:=qo.mk (Kd.R_lower ho (qk HC.out.hb));clear ho;replace HR0:=qo.mk (Kd.R_below HR0.out hb);replace HR1:=qo.mk (Kd.R_below HR1.out hb);have hc_:=HC.out.to hb;clear HC;have HC:=qo.mk hc_;have hcl_:=HC.out.cells;clear hb hc_)|((with_reducible refine gate_builtin (b:=.append) (xs:=#[.tmp 49,.tmp 50]) rfl ?_);at_builtin;refine Kd.R_append_rows (Kd.int .i64) (w0:=w) w.heap.size rfl (.tmp 49) (.tmp 50) 26 3 (.int .i64 0) 8 rfl Try.underlying26 info3 rfl (by decide) (by omega) v49 [] F _ _ _ (fun _=>True) (fun _=>False) rfl rfl HO.out ?aR (fun _ _ h=>h) (fun _ h=>h.elim) (fun _ _=>trivial) HC.out.hb (qk HC.out.hb) (by have:=HL.out.2;simp only [List.length_nil];omega) ?_;(case aR=>exact HC.out.c HF.out);intro v51 w51 ho hb hg hat;rw [List.nil_append] at ho;have n0_:=qo.mk (HC.out.grown hb hg (row_ne HO.out HC.out.b3 (by decide)) (row_ne HO.out HC.out.b6 (by decide)));have n1_:=qo.mk (Kd.R_over' HR0.out (Kd.R_typed HO.out) n3_9 hg);have n2_:=qo.mk (Kd.R_over' HR1.out (Kd.R_typed HO.out) n3_96 hg);clear HC HR0 HR1 HO;have HC:=n0_;have HR0:=n1_;have HR1:=n2_;have HO:=qo.mk ho;clear n0_ n1_ n2_ ho hb hg hat;have hcl_:=HC.out.cells;obtain ⟨Av,cv,ev⟩:=Kd.R_slice HO.out;subst ev)|((with_reducible refine gate_dst (N:=53) rfl ?_);refine box_event ?hg (N:=53) ?hd (cs:=#[v0,v1,.slice Av F.length cv,.slice none 0 0,.bool false]) (t:=67) ?hr ?_;(case hd=>rfl);(case hg=>rfl);(case hr=>first|(go_simp;done)|(go_simp;rfl));intro gp hg_ w11 hbox hb;have HV : qo (IsS67 w w11 gp S1 P1 F [] false):=⟨_,_,_,_,⟨hbox,by rw [hg_];exact qk HC.out.hb,Kd.R_below HR0.out hb,Kd.R_below HR1.out hb,Kd.Q_of_R (Kd.R_below HO.out hb),Kd.R_nil _ _ _ _ _⟩⟩;clear hbox hg_ HR0 HR1 HO;have hc_:=HC.out.to hb;clear HC;have HC:=qo.mk hc_;have hcl_:=HC.out.cells;clear hb hc_)|((with_reducible refine gate_dst (N:=54) rfl ?_);refine Kd.R_lit k71 _ 71 ?hg (N:=54) ?hd (xs:=([] : List (S71))) (inner:=[]) (ok:=fun _=>True) (okp:=fun _=>True) ?hr ?hp (fun _ hk=>hk) trivial (Below.refl _ _) (Nat.le_refl _) (by simp) ?_;(case hd=>rfl);(case hg=>rfl);(case hr=>first|(go_simp;done)|(go_simp;rfl));(case hp=>exact (Reps.none _ _));intro v54 w54 ho hb hg_ hnew_;clear hg_ hnew_;have HO:=qo.mk (Kd.R_lower ho (qk HC.out.hb));clear ho;have n5_:=qo.mk (HV.out.to hb);clear HV;have HV:=n5_;clear n5_;have hbad_:=HV.out.bad;have hc_:=HC.out.to hb;clear HC;have HC:=qo.mk hc_;have hcl_:=HC.out.cells;clear hb hc_))
   go_loopg [13,14] (m.length + 1) (fun kq v13 v14 w'=>∃ i : Nat,v14 = .int .i64 (i : Int) ∧ qo (i + kq = m.length + 1 ∧ i ≤ m.length) ∧ qo (Kd.R k71 71 w' w.heap.size (fun _=>True) v13 ((m.take i).map itemOf)) ∧ qo (CB w w' g3 g6 (.slice A0 S.length c0) (.slice A1 P.length c1)) ∧ qo (IsS67 w w' gp S1 P1 F [] false))
   case atStart=>exact ⟨0,rfl,⟨by omega,Nat.zero_le _⟩,HO,⟨HC.out.to⟩,⟨HV.out.to⟩⟩
   clear HC HV HO hcl_
   obtain ⟨i,rfl,HI,HO,HC,HV⟩:=hrel
   obtain ⟨k2,rfl⟩ : ∃ k,gk = k + 1:=⟨gk - 1,by have:=HI.out;omega⟩
   have hcl:=HC.out.cells
   by_cases cx : i < m.length
   ·have c0b0 : decide ((i : Int) < (m.length : Int)) = true:=decide_eq_true (by omega)
    have c0b1 : decide (i < m.length) = true:=decide_eq_true cx
    have p0 : 0 ≤ (i : Int):=Int.natCast_nonneg i
    have q0 : (i : Int) < (m.length : Int):=by omega
    obtain ⟨ad,eA,hx0,hx1⟩:=at_T69 (HC.out.c HM.out) (i : Int) p0 q0
    subst eA
    rw [Int.toNat_natCast] at hx0 hx1
    have p1:=eq_true p0
    have q1:=eq_true q0
    have HX:=qo.mk cx
    have HX0:=qo.mk hx0
    have HX1:=qo.mk hx1
    clear hx0 hx1
    go_upto_region 13 with (fail)
    refine start_ (n:=15) (S:=fun w'=>w'.cell? (ad.add (i * 2)) = some (.string (rd_T69 m (i : Int)).f0) ∧ w'.cell? ⟨(ad.add (i * 2)).block,(ad.add (i * 2)).off + 1,none⟩ = some (.string (rd_T69 m (i : Int)).f1)) (ds:=[13]) (Array.replicate 15 false) (by kernel_rfl) rfl rfl ⟨HX0.out,HX1.out⟩ (fun hHeld=>?_)
    refine pa_ 0 61 (bz_ 15 1) ?_
    refine pa_ 1 62 (bz_ 15 3) ?_
    refine pa_ 2 63 (bz_ 15 7) ?_
    refine pa_ 3 64 (bz_ 15 15) ?_
    refine pa_ 4 65 (bz_ 15 31) ?_
    refine pa_ 6 67 (bz_ 15 95) ?_
    refine pa_ 7 68 (bz_ 15 223) ?_
    refine pa_ 8 69 (bz_ 15 479) ?_
    refine pa_ 9 70 (bz_ 15 991) ?_
    refine ta_ 5 66 (bz_ 15 1023) hHeld (hy:=Or.inl ⟨by rfl,by rintro w' ⟨s0,s1⟩;go_simp;with_reducible rfl⟩) (h:=?_)
    refine ta_ 10 71 (bz_ 15 2047) hHeld (hy:=Or.inl ⟨by rfl,by rintro w' ⟨s0,s1⟩;go_simp;with_reducible rfl⟩) (h:=?_)
    refine pa_ 11 72 (bz_ 15 4095) ?_
    refine one_ (i:=12) (N:=some 73) (bz_ 15 8191) rfl rfl (by kernel_rfl) (by decide) (fun K hK=>?_)
    refine value_ (w1:=?_) (v:=?_) (by rfl) rfl ?_ ?_
    rotate_left 2
    ·go_simp
     constructor
     ·rfl
     rfl
    refine hK.out _ _ ⟨(World.cell?_alloc_lt _ _ _ (World.block_lt_of_cell? _ _ hHeld.1)).trans hHeld.1,(World.cell?_alloc_lt _ _ _ (World.block_lt_of_cell? _ _ hHeld.2)).trans hHeld.2⟩ (fun hHeld=>?_)
    clear hK K
    refine norm_ (a':=?_) ?_ ?_
    rotate_left
    ·show Act.put _ (some 73) _ = _
     simp only [Act.put,List.setIfInBounds_toArray,List.set_cons_zero,List.set_cons_succ,i64_w,i32_w]
     rfl
    refine last_ (i:=13) (N:=some 74) (bz_ 15 16383) rfl rfl (by kernel_rfl) (by decide) (fun K hK=>?_)
    refine Kd.R_append_step k71 (w0:=w) w.heap.size (by rfl) (.tmp 61) (.tmp 73) 68 71 (.agg #[(.string ⟨#[]⟩),(.string ⟨#[]⟩),(.int .i64 0)]) 40 rfl Try.underlying68 info71 rfl (by decide) (by omega) u13 ((m.take i).map itemOf) (⟨(rd_T69 m (i : Int)).f0,(rd_T69 m (i : Int)).f1,0⟩ : S71) [.string (rd_T69 m (i : Int)).f0,.string (rd_T69 m (i : Int)).f1,.int .i64 0] (fun _=>True) (fun _=>False) rfl rfl (k71_mkM _ _ _ (⟨(rd_T69 m (i : Int)).f0,(rd_T69 m (i : Int)).f1,0⟩ : S71)) (fun _ hk=>hk.elim) (fun _ _=>trivial) (Kd.R_drew HO.out) ((HC.out.to (below_drew (Below.refl _ _))).hb) (qk (HC.out.to (below_drew (Below.refl _ _))).hb) (by have:=HL.out.1;rw [List.length_map,List.length_take];omega) ?_
    intro v9 w9 ho hb hg hat
    have n0_:=qo.mk ((HC.out.to (below_drew (Below.refl _ _))).grown hb hg (row_ne (Kd.R_drew HO.out) (HC.out.to (below_drew (Below.refl _ _))).b3 (by decide)) (row_ne (Kd.R_drew HO.out) (HC.out.to (below_drew (Below.refl _ _))).b6 (by decide)))
    have n1_:=qo.mk ((HV.out.to (below_drew (Below.refl _ _))).grown hg (Kd.R_typed (Kd.R_drew HO.out)) (by decide))
    clear HC HV HO
    have HC:=n0_
    have HV:=n1_
    have HO:=qo.mk ho
    clear ho hb hg hat n0_ n1_
    have hcl9:=HC.out.cells
    refine hK.out _ _ ?_
    clear hK K
    refine norm_ (a':=?_) ?_ ?_
    rotate_left
    ·show Act.put _ (some 74) _ = _
     simp only [Act.put,List.setIfInBounds_toArray,List.set_cons_zero,List.set_cons_succ,i64_w,i32_w]
     rfl
    refine pa_ 14 13 (bz_ 15 32767) ?_
    refine done_ (by kernel_rfl) ?_
    go_wp2
    go_roundg k2
    case measure=>omega
    case rel=>exact ⟨i + 1,by first|rfl|(simp;done)|(rw [show wrap64 ((i : Int) + 1) = ((i + 1 : Nat) : Int) from by unfold wrap64;have:=HL.out;omega]),⟨by have:=HI.out;omega,HX.out⟩,⟨by rw [take_item HX.out];exact HO.out⟩,⟨HC.out.to⟩,⟨HV.out.to⟩⟩
   obtain rfl : i = m.length:=by have:=HI.out;omega
   have c0b0 : decide ((m.length : Int) < (m.length : Int)) = false:=decide_eq_false (by omega)
   have c0b1 : decide (m.length < m.length) = false:=decide_eq_false cx
   have HO2 : qo (Kd.R k71 71 wr w.heap.size (fun _=>True) u13 (m.map itemOf)):=⟨by have:=HO.out;rwa [List.take_length] at this⟩
   clear HO HI cx
   go_wp2
   go_loopg [13,15,16] 1001 (fun kq v13 v15 v16 w'=>∃ (kd root : Int) (its : List (S71)) (P2 : List (S96)) (L2 U2 : List Int) (bd : Bool),v15 = .int .i64 kd ∧ v16 = .int .i64 root ∧ qo (spec_tree.levels F S1 kq kd its P2 L2 U2 bd root = some q) ∧ qo (Kd.R k71 71 w' w.heap.size (fun _=>True) v13 its) ∧ qo (CB w w' g3 g6 (.slice A0 S.length c0) (.slice A1 P.length c1)) ∧ qo (IsS67 w w' gp S1 P2 L2 U2 bd))
   case atStart=>exact ⟨_,_,_,_,_,_,_,rfl,rfl,HLV,HO2,⟨HC.out.to⟩,⟨HV.out.to⟩⟩
   clear HC HV HO2 HLV hcl
   obtain ⟨kd,root,its,P2,L2,U2,bd,rfl,rfl,HLV,HO,HC,HV⟩:=hrel
   have hcl:=HC.out.cells
   have hbad:=HV.out.bad
   have hlv:=HLV.out
   clear HLV
   obtain ⟨Ai,ci,ei⟩:=Kd.R_slice HO.out
   subst ei
   cases gk with
   | zero =>
    rw [spec_tree.levels] at hlv
    cases hlv
   | succ k2 =>
    rw [spec_tree.levels] at hlv
    by_cases ce : its.length = 0
    ·rw [if_pos ce] at hlv
     obtain rfl:=Option.some.inj hlv
     have c1b0 : decide (0 < (its.length : Int)) = false:=decide_eq_false (by omega)
     have c1b1 : decide (0 < its.length) = false:=decide_eq_false (by omega)
     have hu:=HU.out
     clear hlv ce
     cases bd with
     | true =>
      rw [if_pos rfl] at hu
      obtain ⟨rfl,rfl,rfl,rfl,rfl⟩ : [] = r1 ∧ [] = r2 ∧ 0 = r3 ∧ [] = r4 ∧ false = r5:=by simpa using hu
      clear hu
      go_wp2_with (first|((with_reducible refine gate_dst (N:=132) rfl ?_);refine Kd.R_lit (Kd.int .i64) _ 3 ?hg (N:=132) ?hd (xs:=([] : List Int)) (inner:=[]) (ok:=fun _=>True) (okp:=fun _=>True) ?hr ?hp (fun _ hk=>hk) trivial (Below.refl _ _) (Nat.le_refl _) (by simp) ?_;(case hd=>rfl);(case hg=>rfl);(case hr=>first|(go_simp;done)|(go_simp;rfl));(case hp=>exact (Reps.none _ _));intro v132 w132 ho hb hg_ hnew_;clear hg_ hnew_;clear HO;have HO:=qo.mk (Kd.R_lower ho (qk HC.out.hb));clear ho HV;have hc_:=HC.out.to hb;clear HC;have HC:=qo.mk hc_;have hcl_:=HC.out.cells;clear hb hc_))
      refine bodyPost_ret (results_list (rs:=[.cell 6 32,.tmp 7,.tmp 8,.tmp 9]) rfl (by simp) (.cell g6 32 #[.slice none 0 0,.slice none 0 0] (0,0) _ rfl HC.out.to.put Try.underlying32 rfl (by kernel_rfl) (.tmp (.tmp (.tmp .nil))))) rfl ?_
      exact ⟨_,_,_,rfl,Kd.R_nil _ _ _ _ _,Kd.R_nil _ _ _ _ _,HC.out.putR HO.out t32_3,HC.out.to.putB⟩
     | false =>
      rw [if_neg (by simp)] at hu
      by_cases cu : U2.length ≤ 1000000
      ·rw [if_pos cu] at hu
       obtain ⟨rfl,rfl,rfl,rfl,rfl⟩ : S1 = r1 ∧ P2 = r2 ∧ root = r3 ∧ U2 = r4 ∧ true = r5:=by simpa using hu
       have HUL:=qo.mk cu
       clear hu cu
       go_upto_region 29 with (fail)
       obtain ⟨v50,v51,v52,v54,he⟩:=HV.out
       obtain ⟨A50,c50,e50⟩:=Kd.R_slice he.r0
       subst e50
       obtain ⟨A51,c51,e51⟩:=Kd.R_slice he.r1
       subst e51
       obtain ⟨A54,c54,e54⟩:=Kd.R_slice he.r3
       subst e54
       have HE:=qo.mk (he.below (below_drew (Below.refl _ _)))
       have HC9:=qo.mk (HC.out.to (below_drew (Below.refl _ _)))
       clear he
       refine start_ (n:=15) (S:=fun w'=>w'.cell? ⟨gp,0,none⟩ = some (.slice A50 S1.length c50) ∧ w'.cell? ⟨gp,1,none⟩ = some (.slice A51 P2.length c51) ∧ w'.cell? ⟨gp,3,none⟩ = some (.slice A54 U2.length c54)) (ds:=[11]) (Array.replicate 15 false) (by kernel_rfl) rfl rfl ⟨(qh HE.out.blk 0).trans rfl,(qh HE.out.blk 1).trans rfl,(qh HE.out.blk 3).trans rfl⟩ (fun hHeld=>?_)
       refine pa_ 0 133 (bz_ 15 1) ?_
       refine pa_ 1 134 (bz_ 15 3) ?_
       refine pa_ 2 135 (bz_ 15 7) ?_
       refine pa_ 4 137 (bz_ 15 23) ?_
       refine pa_ 6 139 (bz_ 15 87) ?_
       refine pa_ 7 140 (bz_ 15 215) ?_
       refine pa_ 8 141 (bz_ 15 471) ?_
       refine ta_ 3 136 (bz_ 15 479) hHeld (hy:=Or.inl ⟨by rfl,by rintro w' ⟨s0,s1,s2⟩;go_simp;with_reducible rfl⟩) (h:=?_)
       refine ta_ 9 142 (bz_ 15 991) hHeld (hy:=Or.inl ⟨by rfl,by rintro w' ⟨s0,s1,s2⟩;go_simp;with_reducible rfl⟩) (h:=?_)
       refine one_ (i:=5) (N:=some 138) (bz_ 15 1023) rfl rfl (by kernel_rfl) (by decide) (fun K hK=>?_)
       refine Kd.R_lit_step (Kd.int .i64) _ 3 (by rfl) (N:=138) rfl (xs:=([] : List Int)) (inner:=[]) (ok:=fun _=>True) (okp:=fun _=>True) ?hr5 ?hp5 (fun _ hk=>hk) trivial (Below.refl _ _) (Nat.le_refl _) (by simp) ?_
       (case hr5=>first|(go_simp;done)|(go_simp;rfl))
       (case hp5=>exact Reps.none _ _)
       intro v138 w30 ho hb hg_ hnew_
       clear hg_ hnew_
       have HO138:=qo.mk (Kd.R_lower ho (qk HC9.out.hb))
       replace HE:=qo.mk (HE.out.below hb);replace HC9:=qo.mk (HC9.out.to hb);clear ho hb
       refine hK.out _ _ ⟨(qh HE.out.blk 0).trans rfl,(qh HE.out.blk 1).trans rfl,(qh HE.out.blk 3).trans rfl⟩ (fun hHeld=>?_)
       clear hK K
       refine norm_ (a':=?_) ?_ ?_
       rotate_left
       ·show Act.put _ (some 138) _ = _
        simp only [Act.put,List.setIfInBounds_toArray,List.set_cons_zero,List.set_cons_succ,i64_w,i32_w]
        rfl
       refine one_ (i:=10) (N:=some 143) (bz_ 15 2047) rfl rfl (by kernel_rfl) (by decide) (fun K hK=>?_)
       refine Kd.R_append_rows_step (Kd.int .i64) (Rr:=fun x cs=>cs = [Value.int .i64 x]) (w0:=w) w.heap.size (by rfl) (.tmp 138) (.tmp 142) 26 3 (.int .i64 0) 8 rfl Try.underlying26 info3 rfl (by decide) (by omega) v138 [] U2 A54 U2.length c54 (fun _=>True) (fun _=>False) (by rfl) (by rfl) HO138.out HE.out.c3 (fun x cs h=>h) (fun _ hk=>hk.elim) (fun _ _=>trivial) HC9.out.hb (qk HC9.out.hb) (by have:=HUL.out;simp only [List.length_nil];omega) ?_
       intro v143 w31 ho hb hg hat
       have n0_:=qo.mk (HC9.out.grown hb hg (row_ne HO138.out HC9.out.b3 (by decide)) (row_ne HO138.out HC9.out.b6 (by decide)))
       have HR0:=qo.mk (Kd.R_over' HE.out.r0 (Kd.R_typed HO138.out) n3_9 hg)
       have HR1:=qo.mk (Kd.R_over' HE.out.r1 (Kd.R_typed HO138.out) n3_96 hg)
       have HBG:=qo.mk (blk_grown HE.out.blk hg (row_ne HO138.out HE.out.blk (by decide)))
       have HO143:=qo.mk ho
       clear HC9 ho hb hg hat
       have HC9:=n0_
       clear n0_
       refine hK.out _ _ ⟨(qh HBG.out 0).trans rfl,(qh HBG.out 1).trans rfl,(qh HBG.out 3).trans rfl⟩ (fun hHeld=>?_)
       clear hK K
       refine norm_ (a':=?_) ?_ ?_
       rotate_left
       ·show Act.put _ (some 143) _ = _
        simp only [Act.put,List.setIfInBounds_toArray,List.set_cons_zero,List.set_cons_succ,i64_w,i32_w]
        rfl
       refine last_ (i:=11) (N:=none) (bz_ 15 4095) rfl rfl (by kernel_rfl) (by decide) (fun K hK=>?_)
       have hcl31:=HC9.out.cells
       refine skip_ (w1:=?_) (by rfl) rfl ?_ ?_
       rotate_left
       ·go_simp
        rfl
       refine hK.out _ _ ?_
       clear hK K
       refine pa_ 12 7 (bz_ 15 8191) ?_
       refine pa_ 13 8 (bz_ 15 16383) ?_
       refine pa_ 14 9 (bz_ 15 32767) ?_
       refine done_ (by kernel_rfl) ?_
       go_wp2
       refine bodyPost_ret (results_list (rs:=[.cell 6 32,.tmp 7,.tmp 8,.tmp 9]) rfl (by simp) (.cell g6 32 #[.slice A50 S1.length c50,.slice A51 P2.length c51] (0,0) _ rfl HC9.out.put Try.underlying32 rfl (by kernel_rfl) (.tmp (.tmp (.tmp .nil))))) rfl ?_
       exact ⟨_,_,_,rfl,HC9.out.putR HR0.out t32_9,HC9.out.putR HR1.out t32_96,HC9.out.putR HO143.out t32_3,HC9.out.putB⟩
      rw [if_neg cu] at hu
      cases hu
    rw [if_neg ce] at hlv
    have c1b0 : decide (0 < (its.length : Int)) = true:=decide_eq_true (by omega)
    have c1b1 : decide (0 < its.length) = true:=decide_eq_true (by omega)
    cases bd with
    | true =>
     rw [if_pos rfl] at hlv
     obtain rfl:=Option.some.inj hlv
     have hu:=HU.out
     rw [if_pos rfl] at hu
     obtain ⟨rfl,rfl,rfl,rfl,rfl⟩ : [] = r1 ∧ [] = r2 ∧ 0 = r3 ∧ [] = r4 ∧ false = r5:=by simpa using hu
     clear hu hlv ce
     go_wp2_with (first|((with_reducible refine gate_dst (N:=132) rfl ?_);refine Kd.R_lit (Kd.int .i64) _ 3 ?hg (N:=132) ?hd (xs:=([] : List Int)) (inner:=[]) (ok:=fun _=>True) (okp:=fun _=>True) ?hr ?hp (fun _ hk=>hk) trivial (Below.refl _ _) (Nat.le_refl _) (by simp) ?_;(case hd=>rfl);(case hg=>rfl);(case hr=>first|(go_simp;done)|(go_simp;rfl));(case hp=>exact (Reps.none _ _));intro v132 w132 ho hb hg_ hnew_;clear hg_ hnew_;clear HO;have HO:=qo.mk (Kd.R_lower ho (qk HC.out.hb));clear ho HV;have hc_:=HC.out.to hb;clear HC;have HC:=qo.mk hc_;have hcl_:=HC.out.cells;clear hb hc_))
     refine bodyPost_ret (results_list (rs:=[.cell 6 32,.tmp 7,.tmp 8,.tmp 9]) rfl (by simp) (.cell g6 32 #[.slice none 0 0,.slice none 0 0] (0,0) _ rfl HC.out.to.put Try.underlying32 rfl (by kernel_rfl) (.tmp (.tmp (.tmp .nil))))) rfl ?_
     exact ⟨_,_,_,rfl,Kd.R_nil _ _ _ _ _,Kd.R_nil _ _ _ _ _,HC.out.putR HO.out t32_3,HC.out.to.putB⟩
    | false =>
     rw [if_neg (by simp)] at hlv
     replace hlv:=Option.bind_eq_some_iff.mp hlv
     obtain ⟨gs,hgs,hlv⟩:=hlv
     obtain ⟨kc,hgs⟩:=(lim_ev hgs).rounds
     replace hlv:=Option.bind_eq_some_iff.mp hlv
     obtain ⟨q4,hgr,hlv⟩:=hlv
     have HGS:=qo.mk hgs
     have HGR:=qo.mk hgr
     have HLV:=qo.mk hlv
     clear hgs hgr hlv ce
     go_wp2_with (first|((with_reducible refine gate_callee (f:=35) rfl ?_);refine goesL_ (some 87) rfl rfl Try.func35 (by kernel_rfl) rfl #[.int .i64 kd,.slice Ai its.length ci] rfl sm_ ?_;(with_reducible refine (spec_CutItems.calls kc kd _ _ its gs _ ?side1 ?side2 HGS.out).mono ?_);(case side1=>exact (Kd.R_reads' HO.out).2.2);(case side2=>exact (Kd.R_reads' HO.out).2.1);rintro e w14 ⟨vg,rfl,hs,hb⟩;refine ⟨_,rfl,?_⟩;obtain ⟨Ag,cg,eg⟩:=Kd.S_slice hs;subst eg;have HS2:=qo.mk (Kd.S_lower hs (qk HC.out.hb));clear hs;have n5_:=qo.mk (HV.out.to hb);clear HV;have HV:=n5_;clear n5_;have hbad_:=HV.out.bad;have hc_:=HC.out.to hb;clear HC;have HC:=qo.mk hc_;have hcl_:=HC.out.cells;clear hb hc_)|((with_reducible refine gate_dst (N:=88) rfl ?_);refine Kd.R_lit k71 _ 71 ?hg (N:=88) ?hd (xs:=([] : List (S71))) (inner:=[]) (ok:=fun _=>True) (okp:=fun _=>True) ?hr ?hp (fun _ hk=>hk) trivial (Below.refl _ _) (Nat.le_refl _) (by simp) ?_;(case hd=>rfl);(case hg=>rfl);(case hr=>first|(go_simp;done)|(go_simp;rfl));(case hp=>exact (Reps.none _ _));intro v88 w88 ho hb hg_ hnew_;clear hg_ hnew_;clear HO;have HO:=qo.mk (Kd.R_lower ho (qk HC.out.hb));have n6_ : qo (Kd.S (Kd.slice 71 k71) 68 w88 w.heap.size (fun k_=>some k_ ≠ (v88 : Value).ownBlock) (.slice Ag gs.length cg) gs):=⟨S_newrow HS2.out hb ho⟩;clear HS2 ho;have HS2:=n6_;clear n6_;have n5_:=qo.mk (HV.out.to hb);clear HV;have HV:=n5_;clear n5_;have hbad_:=HV.out.bad;have hc_:=HC.out.to hb;clear HC;have HC:=qo.mk hc_;have hcl_:=HC.out.cells;clear hb hc_))
     go_loopg [13,16,18] (gs.length + 1) (fun kq v13 v16 v18 w'=>∃ (j : Nat) (rt : Int) (P3 : List (S96)) (L3 U3 : List Int) (bd : Bool) (nx : List (S71)),v16 = .int .i64 rt ∧ v18 = .int .i64 (j : Int) ∧ qo (j + kq = gs.length + 1 ∧ j ≤ gs.length) ∧ qo (spec_tree.groups F S1 kd (gs.drop j) P3 L3 U3 bd rt nx = some q4) ∧ qo (Kd.R k71 71 w' w.heap.size (fun _=>True) v13 nx) ∧ qo (Kd.S (Kd.slice 71 k71) 68 w' w.heap.size (fun k_=>some k_ ≠ (v13 : Value).ownBlock) (.slice Ag gs.length cg) gs) ∧ qo (CB w w' g3 g6 (.slice A0 S.length c0) (.slice A1 P.length c1)) ∧ qo (IsS67 w w' gp S1 P3 L3 U3 bd))
     case atStart=>exact ⟨0,_,_,_,_,_,_,rfl,rfl,⟨by omega,Nat.zero_le _⟩,HGR,HO,HS2,⟨HC.out.to⟩,⟨HV.out.to⟩⟩
     clear HC HV HS2 HGR HO hcl hcl_ hbad
     obtain ⟨j,rt,P3,L3,U3,bd,nx,rfl,rfl,HI,HGR,HO,HS2,HC,HV⟩:=hrel
     have hcl:=HC.out.cells
     have hbad:=HV.out.bad
     obtain ⟨k3,rfl⟩ : ∃ k,gk = k + 1:=⟨gk - 1,by have:=HI.out;omega⟩
     have hgr:=HGR.out
     clear HGR
     obtain ⟨An,cn,en⟩:=Kd.R_slice HO.out
     subst en
     by_cases cx : j < gs.length
     ·have c0b0 : decide ((j : Int) < (gs.length : Int)) = true:=decide_eq_true (by omega)
      have c0b1 : decide (j < gs.length) = true:=decide_eq_true cx
      have p0:=eq_true (show 0 ≤ (j : Int) from Int.natCast_nonneg j)
      have q0:=eq_true (show (j : Int) < (gs.length : Int) by omega)
      have q1:=eq_true cx
      obtain ⟨ad,A1g,c1g,eA,hx0,hl0,hr0⟩:=grp_at HS2.out j cx
      subst eA
      rw [drop_grp cx,spec_tree.groups] at hgr
      obtain ⟨it,hit⟩ : ∃ it,it = rd_L8 gs (j : Int):=⟨_,rfl⟩
      rw [← hit] at hgr hx0 hl0 hr0
      have HIT:=qo.mk hit
      clear hit
      have HL0:=qo.mk hl0
      have HG:=qo.mk hr0
      clear hl0 hr0
      cases bd with
      | true =>
       rw [if_pos rfl] at hgr
       obtain rfl:=Option.some.inj hgr
       have HLV2:=HLV
       clear hgr
       have hlv:=HLV2.out
       simp only at hlv
       by_cases cq1 : nx.length = 1
       ·rw [if_pos cq1] at hlv
        have HLV3:=qo.mk hlv
        have c3b0 : ((nx.length : Int) == 1) = true:=beq_iff_eq.2 (by omega)
        clear hlv
        go_wp2_with (first|((with_reducible refine gate_dst (N:=126) rfl ?_);refine Kd.R_lit k71 _ 71 ?hg (N:=126) ?hd (xs:=([] : List (S71))) (inner:=[]) (ok:=fun _=>True) (okp:=fun _=>True) ?hr ?hp (fun _ hk=>hk) trivial (Below.refl _ _) (Nat.le_refl _) (by simp) ?_;(case hd=>rfl);(case hg=>rfl);(case hr=>first|(go_simp;done)|(go_simp;rfl));(case hp=>exact (Reps.none _ _));intro v126 w126 ho hb hg_ hnew_;clear hg_ hnew_;clear HO;have HO:=qo.mk (Kd.R_lower ho (qk HC.out.hb));clear ho;have n5_:=qo.mk (HV.out.to hb);clear HV;have HV:=n5_;clear n5_;have hbad_:=HV.out.bad;have hc_:=HC.out.to hb;clear HC;have HC:=qo.mk hc_;have hcl_:=HC.out.cells;clear hb hc_))
        go_roundg k2
        case measure=>omega
        case rel=>exact ⟨_,_,_,_,_,_,_,rfl,rfl,HLV3,HO,⟨HC.out.to⟩,⟨HV.out.to⟩⟩
       rw [if_neg cq1] at hlv
       have HLV3:=qo.mk hlv
       have c3b0 : ((nx.length : Int) == 1) = false:=beq_eq_false_iff_ne.2 (by omega)
       clear hlv
       go_wp2
       go_roundg k2
       case measure=>omega
       case rel=>exact ⟨_,_,_,_,_,_,_,rfl,rfl,HLV3,HO,⟨HC.out.to⟩,⟨HV.out.to⟩⟩
      | false =>
       rw [if_neg (by simp)] at hgr
       replace hgr:=Option.bind_eq_some_iff.mp hgr
       obtain ⟨⟨r,P4,L4,U4,bd4⟩,hpg,hgr⟩:=hgr
       have HPG:=qo.mk hpg
       clear hpg
       by_cases ci0 : it.length = 0
       ·rw [if_pos ci0] at hgr
        cases hgr
       rw [if_neg ci0] at hgr
       by_cases cnx : nx.length < 1000000
       ·rw [if_pos cnx] at hgr
        have HNX:=qo.mk cnx
        have HGR:=qo.mk hgr
        have HI0:=qo.mk ci0
        have HX:=qo.mk cx
        have HX0:=qo.mk hx0
        clear hgr cnx ci0 cx
        go_wp2_with (first|((with_reducible refine gate_callee (f:=36) rfl ?_);refine goesL_ (some 110) rfl rfl Try.func36 (by kernel_rfl) rfl #[.pointer (some ⟨gp,0,none⟩),.slice Af F.length cf,.agg #[.int .i64 kd,.slice A1g it.length c1g]] rfl sm_ ?_;(with_reducible refine (spec_l05Place.calls gp S1 P3 L3 U3 false _ _ F kd _ _ it r P4 L4 U4 bd4 w _ HV.out HC.out.hb HF.out HF'.out ?hri HL0.out HPG.out).mono ?_);(case hri=>exact Kd.C_foot_own (HV.out.apart HG.out e67_71) (fun _ h=>h.2));rintro e w15 ⟨rfl,hi,hb,hk⟩;refine ⟨_,rfl,?_⟩;have n0_:=qo.mk (HC.out.kp hb hk (HV.out.ne HC.out.b3) (HV.out.ne HC.out.b6));have n1_:=qo.mk (HV.out.kpR hk HO.out e67_71 e96_71);have n2_:=qo.mk (HV.out.kpS hk HS2.out e67_68 e96_68);clear HC HO HS2 HG HV HL0;have HC:=n0_;have HO:=n1_;have HS2:=n2_;have HV:=qo.mk hi;clear n0_ n1_ n2_ hi hb hk;have hcl3:=HC.out.cells;have hbad3:=HV.out.bad;obtain ⟨ad6,A2g,c2g,eA6,hx6,hl6,hr6⟩:=grp_at HS2.out j HX.out;cases eA6;rw [← HIT.out] at hx6 hl6 hr6;have HG:=qo.mk hr6;clear hl6 hr6;obtain ⟨ad5,e5,hx5,-⟩:=at_T71 (Kd.R_reads' HG.out).2.2 0 (Int.le_refl _) (by have:=HI0.out;omega);subst e5;rw [show ((0 : Int)).toNat = 0 from rfl,Nat.zero_mul,Addr.add_zero'] at hx5;have qi5 : (0 < it.length) = True:=eq_true (by have:=HI0.out;omega))|((with_reducible refine gate_builtin (b:=.append) (xs:=#[.tmp 111,.tmp 121]) rfl ?_);at_builtin;refine Kd.R_append k71 (w0:=w) w.heap.size rfl (.tmp 111) (.tmp 121) 68 71 (.agg #[(.string ⟨#[]⟩),(.string ⟨#[]⟩),(.int .i64 0)]) 40 rfl Try.underlying68 info71 rfl (by decide) (by omega) (.slice An nx.length cn) nx (⟨(rd_T71 it 0).f0,(⟨#[]⟩ : ByteArray),r⟩ : S71) [.string (rd_T71 it 0).f0,.string (⟨#[]⟩ : ByteArray),.int .i64 r] (fun _=>True) (fun _=>False) rfl rfl (k71_mkM _ _ _ (⟨(rd_T71 it 0).f0,(⟨#[]⟩ : ByteArray),r⟩ : S71)) (fun _ hk=>hk.elim) (fun _ _=>trivial) HO.out HC.out.hb (qk HC.out.hb) (by have:=HNX.out;omega) ?_;intro v9 w9 ho hb hg hat;have n0_:=qo.mk (HC.out.grown hb hg (row_ne HO.out HC.out.b3 (by decide)) (row_ne HO.out HC.out.b6 (by decide)));have n1_:=qo.mk (HV.out.grown hg (Kd.R_typed HO.out) (by decide));have n2_:=qo.mk (Kd.S_mono (Kd.S_after (ok:=fun _=>True) (Kd.S_mono HS2.out (fun _ hk=>⟨trivial,hk⟩)) hg hat) (fun _ hk=>hk.2));clear HC HV HS2 HO HG;have HC:=n0_;have HV:=n1_;have HS2:=n2_;have HO:=qo.mk ho;clear ho hb hg hat n0_ n1_ n2_;have hcl4:=HC.out.cells;have hbad4:=HV.out.bad))
        go_roundg k3
        case measure=>omega
        case rel=>exact ⟨j + 1,_,_,_,_,_,_,rfl,by first|rfl|(simp;done)|(rw [show wrap64 ((j : Int) + 1) = ((j + 1 : Nat) : Int) from by unfold wrap64;have:=Kd.C_max (Kd.S_reads' HS2.out).2.2;have:=HX.out;omega]),⟨by have:=HI.out;omega,HX.out⟩,HGR,HO,HS2,⟨HC.out.to⟩,⟨HV.out.to⟩⟩
       rw [if_neg cnx] at hgr
       cases hgr
     have c0b0 : decide ((j : Int) < (gs.length : Int)) = false:=decide_eq_false (by omega)
     have c0b1 : decide (j < gs.length) = false:=decide_eq_false cx
     rw [List.drop_of_length_le (by omega),spec_tree.groups] at hgr
     obtain rfl:=Option.some.inj hgr
     have HLV2:=HLV
     clear hgr
     have hlv:=HLV2.out
     simp only at hlv
     by_cases cq1 : nx.length = 1
     ·rw [if_pos cq1] at hlv
      have HLV3:=qo.mk hlv
      have c3b0 : ((nx.length : Int) == 1) = true:=beq_iff_eq.2 (by omega)
      clear hlv
      go_wp2_with (first|((with_reducible refine gate_dst (N:=126) rfl ?_);refine Kd.R_lit k71 _ 71 ?hg (N:=126) ?hd (xs:=([] : List (S71))) (inner:=[]) (ok:=fun _=>True) (okp:=fun _=>True) ?hr ?hp (fun _ hk=>hk) trivial (Below.refl _ _) (Nat.le_refl _) (by simp) ?_;(case hd=>rfl);(case hg=>rfl);(case hr=>first|(go_simp;done)|(go_simp;rfl));(case hp=>exact (Reps.none _ _));intro v126 w126 ho hb hg_ hnew_;clear hg_ hnew_;clear HO;have HO:=qo.mk (Kd.R_lower ho (qk HC.out.hb));clear ho;have n5_:=qo.mk (HV.out.to hb);clear HV;have HV:=n5_;clear n5_;have hbad_:=HV.out.bad;have hc_:=HC.out.to hb;clear HC;have HC:=qo.mk hc_;have hcl_:=HC.out.cells;clear hb hc_))
      go_roundg k2
      case measure=>omega
      case rel=>exact ⟨_,_,_,_,_,_,_,rfl,rfl,HLV3,HO,⟨HC.out.to⟩,⟨HV.out.to⟩⟩
     rw [if_neg cq1] at hlv
     have HLV3:=qo.mk hlv
     have c3b0 : ((nx.length : Int) == 1) = false:=beq_eq_false_iff_ne.2 (by omega)
     clear hlv
     go_wp2
     go_roundg k2
     case measure=>omega
     case rel=>exact ⟨_,_,_,_,_,_,_,rfl,rfl,HLV3,HO,⟨HC.out.to⟩,⟨HV.out.to⟩⟩
  rw [if_neg cl] at hu
  cases hu
end Go.Proofs.Ytcnoccefdejphaa.QFnExactPlaceTree
