/- Lean functions for the Go functions that the law FnExactPlaceTree reaches, and that each Go function comes to just its Lean function's answer; by a program of this session. -/
import Derived.Test.YtcnoccefdejphaaZFnExactPlaceTreex0
import Derived.Test.YtcnoccefdejphaaZFnExactPlaceTreex1
namespace Go.Proofs.Ytcnoccefdejphaa.QFnExactPlaceTree
open Go.RowKit Go.Proofs.YtcnoccefdejphaaW.PrintWords Go.Proofs.YtcnoccefdejphaaW.PrintLast Go.Proofs.YtcnoccefdejphaaW.PrintMore
attribute [local go_sem] max2_int min2_int max_two min_two max_three min_three max_four min_four   -- for this text's walks alone
set_option linter.unusedVariables false
set_option linter.unusedSimpArgs false

/-! ### spec_l03Copy: function 34 -/
def spec_l03Copy.f (l0_0 : List ByteArray) (l0_1 : List (S96)) : Option (List ByteArray × (List (S96))):=(some (([] : List ByteArray) : List ByteArray)).bind fun y126=>(if y126.length + l0_0.length < 8796093022208 then ((some (([] : List (S96)) : List (S96))).bind fun y132=>(if y132.length + l0_1.length < 5864062014805 then (some ((y126 ++ l0_0),(y132 ++ l0_1))) else (none))) else (none))
def spec_l03Copy.T1 : Bool × List (List Nat × List Nat):=(true,[([],[]),([],[]),([1],[1]),([0,2],[0,2]),([],[]),([],[]),([5],[5]),([4,6,3],[4,6]),([3,7],[3,7]),([8,7,0,1,2,3,4,5,6,7,8],[8])])
def spec_l03Copy.B1 : List Nat:=[0,0,2,7,0,0,32,127,255,511]
theorem spec_l03Copy.tab1 : rtab .any (opsOf Try.f34 1) = spec_l03Copy.T1:=by kernel_rfl
theorem spec_l03Copy.bits1 : waitsOk spec_l03Copy.T1.2 spec_l03Copy.B1 = true:=by kernel_rfl
set_option maxHeartbeats 8000000 in
set_option maxRecDepth 100000 in
theorem spec_l03Copy.calls (A0_0 : Option Addr) (c0_0 : Nat) (l0_0 : List ByteArray) (A0_1 : Option Addr) (c0_1 : Nat) (l0_1 : List (S96)) (r1 : List ByteArray) (r2 : List (S96)) (w : World) (hr0_0 : Kd.C Kd.string w A0_0 l0_0.length l0_0) (hc0_0 : l0_0.length ≤ c0_0) (hr0_1 : Kd.C k96 w A0_1 l0_1.length l0_1) (hc0_1 : l0_1.length ≤ c0_1) (h : spec_l03Copy.f l0_0 l0_1 = some (r1,r2)) :
  Calls Try.prog 34 #[.agg #[.slice A0_0 l0_0.length c0_0,.slice A0_1 l0_1.length c0_1]] w fun e w'=>∃ v0_ v1_ : Value,e = .returned (.agg #[v0_,v1_]) ∧ Kd.R Kd.string 9 w' w.heap.size (fun _=>True) v0_ r1 ∧ Kd.R k96 96 w' w.heap.size (fun _=>True) v1_ r2 ∧ Below w.heap.size w w':=by
 have hu32:=Try.underlying32
 have HR0_0:=qo.mk hr0_0
 have HC0_0:=qo.mk hc0_0
 clear hr0_0 hc0_0
 have HR0_1:=qo.mk hr0_1
 have HC0_1:=qo.mk hc0_1
 clear hr0_1 hc0_1
 have HB:=qo.mk (Below.refl w.heap.size w)
 have H : ((some (([] : List ByteArray) : List ByteArray)).bind fun y126=>(if y126.length + l0_0.length < 8796093022208 then ((some (([] : List (S96)) : List (S96))).bind fun y132=>(if y132.length + l0_1.length < 5864062014805 then (some ((y126 ++ l0_0),(y132 ++ l0_1))) else (none))) else (none))) = some (r1,r2):=h
 clear h
 obtain ⟨y126,hy126⟩ : ∃ y_ : List ByteArray,y_ = (([] : List ByteArray)):=⟨_,rfl⟩
 replace H : (if y126.length + l0_0.length < 8796093022208 then ((some (([] : List (S96)) : List (S96))).bind fun y132=>(if y132.length + l0_1.length < 5864062014805 then (some ((y126 ++ l0_0),(y132 ++ l0_1))) else (none))) else (none)) = some (r1,r2):=by first|(rw [hy126];with_reducible exact H)|(have H2_:=(Option.bind_some _ _).symm.trans H;rw [hy126];with_reducible exact H2_)|(have H2_:=(Option.bind_some _ _).symm.trans H;with_reducible exact H2_)|with_reducible exact H|(rw [hy126];exact H)|exact H
 have Ny126:=qo.mk hy126
 clear hy126
 by_cases c2 : y126.length + l0_0.length < 8796093022208
 ·rw [if_pos c2] at H
  have LMc2:=qo.mk c2
  clear c2
  obtain ⟨y129,hy129⟩ : ∃ y_ : List ByteArray,y_ = (y126 ++ l0_0):=⟨_,rfl⟩
  replace H : ((some (([] : List (S96)) : List (S96))).bind fun y132=>(if y132.length + l0_1.length < 5864062014805 then (some (y129,(y132 ++ l0_1))) else (none))) = some (r1,r2):=by first|(rw [hy129];with_reducible exact H)|(have H2_:=(Option.bind_some _ _).symm.trans H;rw [hy129];with_reducible exact H2_)|(have H2_:=(Option.bind_some _ _).symm.trans H;with_reducible exact H2_)|with_reducible exact H|(rw [hy129];exact H)|exact H
  have Ny129:=qo.mk hy129
  clear hy129
  obtain ⟨y132,hy132⟩ : ∃ y_ : List (S96),y_ = (([] : List (S96))):=⟨_,rfl⟩
  replace H : (if y132.length + l0_1.length < 5864062014805 then (some (y129,(y132 ++ l0_1))) else (none)) = some (r1,r2):=by first|(rw [hy132];with_reducible exact H)|(have H2_:=(Option.bind_some _ _).symm.trans H;rw [hy132];with_reducible exact H2_)|(have H2_:=(Option.bind_some _ _).symm.trans H;with_reducible exact H2_)|with_reducible exact H|(rw [hy132];exact H)|exact H
  have Ny132:=qo.mk hy132
  clear hy132
  by_cases c3 : y132.length + l0_1.length < 5864062014805
  ·rw [if_pos c3] at H
   have LMc3:=qo.mk c3
   clear c3
   obtain ⟨y135,hy135⟩ : ∃ y_ : List (S96),y_ = (y132 ++ l0_1):=⟨_,rfl⟩
   replace H : (some (y129,y135)) = some (r1,r2):=by first|(rw [hy135];with_reducible exact H)|(have H2_:=(Option.bind_some _ _).symm.trans H;rw [hy135];with_reducible exact H2_)|(have H2_:=(Option.bind_some _ _).symm.trans H;with_reducible exact H2_)|with_reducible exact H|(rw [hy135];exact H)|exact H
   have Ny135:=qo.mk hy135
   clear hy135
   simp only [Option.some.injEq,Prod.mk.injEq] at H
   obtain ⟨rfl,rfl⟩:=H
   go_enter Try.func34,Try.ntmps34
   try go_wp2_with (first|((with_reducible refine gate_dst (N:=1) rfl ?_);refine box_event ?hg (N:=1) ?hd (cs:=#[.slice A0_0 l0_0.length c0_0,.slice A0_1 l0_1.length c0_1]) (t:=32) ?hr ?_;(case hd=>rfl);(case hg=>rfl);(case hr=>first|(go_simp;done)|(go_simp;rfl));intro gb124 hg w4 hbox hb;have BK124:=qo.mk (hbox);have GW124:=hl_ (w:=w) hg;have GE124:=hl_ (w:=w) hg;replace HB:=hs_ HB hb;clear hb hbox hg)|((with_reducible refine gate_dst (N:=2) rfl ?_);refine box_event ?hg (N:=2) ?hd (cs:=#[.slice none 0 0,.slice none 0 0]) (t:=32) ?hr ?_;(case hd=>rfl);(case hg=>rfl);(case hr=>first|(go_simp;done)|(go_simp;rfl));intro gb125 hg w5 hbox hb;have BK125:=qo.mk (hbox);have GW125:=hl_ (w:=w) hg;have GE125:=hl_ (w:=w) hg;have NB124_125:=qo.mk ((by rw [hg];exact nl_ BK124 : gb124 ≠ gb125));have NB125_124:=qo.mk ((by rw [hg];exact ng_ BK124 : gb125 ≠ gb124));replace BK124:=bb_ BK124 hb;replace HB:=hs_ HB hb;clear hb hbox hg))
   replace BK124:=qo.mk (qe BK124.out);replace BK125:=qo.mk (qe BK125.out);replace HB:=qo.mk (qd HB.out)
   refine start_ (n:=10) (S:=fun w'=>w'.cell? ⟨gb124,0,none⟩ = some (.slice A0_0 l0_0.length c0_0) ∧ w'.cell? ⟨gb124,1,none⟩ = some (.slice A0_1 l0_1.length c0_1)) (ds:=[]) (Array.replicate 10 false) (by kernel_rfl) rfl rfl ⟨(qh BK124.out 0).trans rfl,(qh BK124.out 1).trans rfl⟩ (fun hHeld=>?_);refine with_tabW spec_l03Copy.tab1 spec_l03Copy.bits1 (fun HT_ HW_=>?_)
   generalize w5.drew = w6 at BK124 BK125 HB hHeld ⊢
   refine pt_ 1 4 (bz_ 10 2) ?_
   refine pt_ 5 8 (bz_ 10 34) ?_
   refine tt_ 2 5 (bz_ 10 38) hHeld (hy:=Or.inl ⟨by rfl,by rintro w' ⟨s0,s1⟩;go_simp;with_reducible rfl⟩) (h:=?_)
   refine tt_ 6 9 (bz_ 10 102) hHeld (hy:=Or.inl ⟨by rfl,by rintro w' ⟨s0,s1⟩;go_simp;with_reducible rfl⟩) (h:=?_)
   refine join_ (σ:=Value × Value × Value) 3 (bz_ 10 127) (fun s_=>[(3,s_.1),(6,s_.2.1),(7,s_.2.2)]) (fun s_ w'=>(w'.cell? ⟨gb124,0,none⟩ = some (.slice A0_0 l0_0.length c0_0) ∧ w'.cell? ⟨gb124,1,none⟩ = some (.slice A0_1 l0_1.length c0_1)) ∧ (Kd.R Kd.string 9 w' w.heap.size (fun _=>True) s_.2.1 y129) ∧ (Kd.R k96 96 w' w.heap.size (fun _=>True) s_.2.2 y132) ∧ (w'.heap[gb124]? = some (.cells #[.slice A0_0 l0_0.length c0_0,.slice A0_1 l0_1.length c0_1] 32 (0,0))) ∧ (w'.heap[gb125]? = some (.cells #[.slice none 0 0,.slice none 0 0] 32 (0,0))) ∧ (Below w.heap.size w w')) ?_ ?_
   rotate_left
   ·intro hCont
    refine two_ (i:=0) (j:=4) (Ni:=some 3) (Nj:=some 7) (bz_ 10 103) (bz_ 10 118) rfl rfl rfl rfl (two_of HT_.out (by kernel_rfl)) (by decide) (by decide) (fun K hK=>?_) (fun K hK=>?_)
    ·skip
     refine Kd.R_lit_step Kd.string _ 9 ?hg (N:=3) ?hd (xs:=([] : List ByteArray)) (inner:=[]) (ok:=fun _=>True) (okp:=fun _=>True) ?hr ?hp (fun _ hk=>hk) trivial (Below.refl _ _) (Nat.le_refl _) (by simp) ?_;(case hd=>rfl);(case hg=>rfl);(case hr=>first|(go_simp;done)|(go_simp;rfl));(case hp=>exact (Reps.none _ _))
     intro v127 w7 ho8 hb hg_ hnew_
     clear hg_ hnew_
     (first|rw [← Ny126.out] at ho8|(simp only [Int.reduceToNat] at ho8;rw [← Ny126.out] at ho8))
     have HO128:=qo.mk (Kd.R_lower ho8 (qk hx_));replace BK124:=bb_ BK124 hb;replace BK125:=bb_ BK125 hb;replace HB:=hs_ HB hb
     clear hb ho8
     refine hK.out _ _ ⟨(qh BK124.out 0).trans rfl,(qh BK124.out 1).trans rfl⟩ (fun hHeld=>?_)
     clear hK K
     refine norm_ (a':=?_) ?_ ?_
     rotate_left
     ·show Act.put _ (some 3) _ = _
      simp only [Act.put,List.setIfInBounds_toArray,List.set_cons_zero,List.set_cons_succ,i64_w,i32_w]
      rfl
     refine two_ (i:=3) (j:=4) (Ni:=some 6) (Nj:=some 7) (bz_ 10 111) (bz_ 10 119) rfl rfl rfl rfl (two_of HT_.out (by kernel_rfl)) (by decide) (by decide) (fun K hK=>?_) (fun K hK=>?_)
     ·skip
      refine Kd.R_append_rows_step Kd.string (w0:=w) w.heap.size (by rfl) (.tmp 3) (.tmp 5) 22 9 (.string ⟨#[]⟩) 16 rfl Try.underlying22 info9 rfl (by decide) (by omega) v127 y126 l0_0 _ _ _ (fun _=>True) (fun _=>False) rfl rfl ?aO ?aR (fun _ _ h=>h) (fun _ h=>h.elim) ?aF ?aB ?aS ?aL ?_
      (case aR=>repeat (first|exact (Kd.C_below HR0_0.out HB.out)|(with_reducible refine Kd.C_alloc ?_ _)|(with_reducible refine Kd.C_drewN ?_ _)|(with_reducible refine Kd.C_drew ?_)))
      (case aB=>exact hx_)
      (case aF=>exact (fun _ _=>trivial))
      (case aO=>exact (by (with_reducible repeat (first|apply Kd.R_alloc|apply Kd.R_drewN|apply Kd.R_drew));exact HO128.out))
      (case aS=>exact (qk hx_))
      (case aL=>have:=LMc2.out;omega)
      intro v130 w9 ho hb hg hat
      rw [← Ny129.out] at ho
      replace BK124:=qo.mk (blk_grown (g:=gb124) (o:=.cells #[.slice A0_0 l0_0.length c0_0,.slice A0_1 l0_1.length c0_1] 32 (0,0)) (bx_ BK124).out hg (Kd.R_ne HO128.out BK124.out (by decide)));replace BK125:=qo.mk (blk_grown (g:=gb125) (o:=.cells #[.slice none 0 0,.slice none 0 0] 32 (0,0)) (bx_ BK125).out hg (Kd.R_ne HO128.out BK125.out (by decide)));replace HB:=qo.mk (hb);have HO131:=qo.mk (ho);clear HO128
      clear ho hb hg hat
      refine hK.out _ _ ⟨(qh BK124.out 0).trans rfl,(qh BK124.out 1).trans rfl⟩ (fun hHeld=>?_)
      clear hK K
      refine norm_ (a':=?_) ?_ ?_
      rotate_left
      ·show Act.put _ (some 6) _ = _
       simp only [Act.put,List.setIfInBounds_toArray,List.set_cons_zero,List.set_cons_succ,i64_w,i32_w]
       rfl
      refine one_ (i:=4) (N:=some 7) (bz_ 10 127) rfl rfl (one_of HT_.out (by kernel_rfl)) (by decide) (fun K hK=>?_)
      refine Kd.R_lit_step k96 _ 96 ?hg (N:=7) ?hd (xs:=([] : List (S96))) (inner:=[]) (ok:=fun _=>True) (okp:=fun _=>True) ?hr ?hp (fun _ hk=>hk) trivial (Below.refl _ _) (Nat.le_refl _) (by simp) ?_;(case hd=>rfl);(case hg=>rfl);(case hr=>first|(go_simp;done)|(go_simp;rfl));(case hp=>exact (Reps.none _ _))
      intro v133 w10 ho11 hb hg_ hnew_
      clear hg_ hnew_
      (first|rw [← Ny132.out] at ho11|(simp only [Int.reduceToNat] at ho11;rw [← Ny132.out] at ho11))
      replace HO131:=rb_ HO131 hb;have HO134:=qo.mk (Kd.R_lower ho11 (qk hx_));replace BK124:=bb_ BK124 hb;replace BK125:=bb_ BK125 hb;replace HB:=hs_ HB hb
      clear hb ho11
      refine hK.out _ _ ⟨(qh BK124.out 0).trans rfl,(qh BK124.out 1).trans rfl⟩ (fun hHeld=>?_)
      clear hK K
      refine norm_ (a':=?_) ?_ ?_
      rotate_left
      ·show Act.put _ (some 7) _ = _
       simp only [Act.put,List.setIfInBounds_toArray,List.set_cons_zero,List.set_cons_succ,i64_w,i32_w]
       rfl
      exact norm_ (by simp only [putAll,Act.put,List.setIfInBounds_toArray,List.set_cons_zero,List.set_cons_succ]) (hCont (v127,v130,v133) _ ⟨hHeld,(by (with_reducible repeat (first|apply Kd.R_alloc|apply Kd.R_drewN|apply Kd.R_drew));exact HO131.out),(by (with_reducible repeat (first|apply Kd.R_alloc|apply Kd.R_drewN|apply Kd.R_drew));exact HO134.out),(bx_ BK124).out,(bx_ BK125).out,hx_⟩)
     skip
     refine Kd.R_lit_step k96 _ 96 ?hg (N:=7) ?hd (xs:=([] : List (S96))) (inner:=[]) (ok:=fun _=>True) (okp:=fun _=>True) ?hr ?hp (fun _ hk=>hk) trivial (Below.refl _ _) (Nat.le_refl _) (by simp) ?_;(case hd=>rfl);(case hg=>rfl);(case hr=>first|(go_simp;done)|(go_simp;rfl));(case hp=>exact (Reps.none _ _))
     intro v133 w9 ho10 hb hg_ hnew_
     clear hg_ hnew_
     (first|rw [← Ny132.out] at ho10|(simp only [Int.reduceToNat] at ho10;rw [← Ny132.out] at ho10))
     replace HO128:=rb_ HO128 hb;have HO134:=qo.mk (Kd.R_lower ho10 (qk hx_));replace BK124:=bb_ BK124 hb;replace BK125:=bb_ BK125 hb;replace HB:=hs_ HB hb
     clear hb ho10
     refine hK.out _ _ ⟨(qh BK124.out 0).trans rfl,(qh BK124.out 1).trans rfl⟩ (fun hHeld=>?_)
     clear hK K
     refine norm_ (a':=?_) ?_ ?_
     rotate_left
     ·show Act.put _ (some 7) _ = _
      simp only [Act.put,List.setIfInBounds_toArray,List.set_cons_zero,List.set_cons_succ,i64_w,i32_w]
      rfl
     refine one_ (i:=3) (N:=some 6) (bz_ 10 127) rfl rfl (one_of HT_.out (by kernel_rfl)) (by decide) (fun K hK=>?_)
     refine Kd.R_append_rows_step Kd.string (w0:=w) w.heap.size (by rfl) (.tmp 3) (.tmp 5) 22 9 (.string ⟨#[]⟩) 16 rfl Try.underlying22 info9 rfl (by decide) (by omega) v127 y126 l0_0 _ _ _ (fun _=>True) (fun _=>False) rfl rfl ?aO ?aR (fun _ _ h=>h) (fun _ h=>h.elim) ?aF ?aB ?aS ?aL ?_
     (case aR=>repeat (first|exact (Kd.C_below HR0_0.out HB.out)|(with_reducible refine Kd.C_alloc ?_ _)|(with_reducible refine Kd.C_drewN ?_ _)|(with_reducible refine Kd.C_drew ?_)))
     (case aB=>exact hx_)
     (case aF=>exact (fun _ _=>trivial))
     (case aO=>exact (by (with_reducible repeat (first|apply Kd.R_alloc|apply Kd.R_drewN|apply Kd.R_drew));exact HO128.out))
     (case aS=>exact (qk hx_))
     (case aL=>have:=LMc2.out;omega)
     intro v130 w11 ho hb hg hat
     rw [← Ny129.out] at ho
     replace BK124:=qo.mk (blk_grown (g:=gb124) (o:=.cells #[.slice A0_0 l0_0.length c0_0,.slice A0_1 l0_1.length c0_1] 32 (0,0)) (bx_ BK124).out hg (Kd.R_ne HO128.out BK124.out (by decide)));replace BK125:=qo.mk (blk_grown (g:=gb125) (o:=.cells #[.slice none 0 0,.slice none 0 0] 32 (0,0)) (bx_ BK125).out hg (Kd.R_ne HO128.out BK125.out (by decide)));replace HO134:=qo.mk (Kd.R_over' (by (with_reducible repeat (first|apply Kd.R_alloc|apply Kd.R_drewN|apply Kd.R_drew));exact HO134.out) (Kd.R_typed (by (with_reducible repeat (first|apply Kd.R_alloc|apply Kd.R_drewN|apply Kd.R_drew));exact HO128.out)) (by decide) hg);replace HB:=qo.mk (hb);have HO131:=qo.mk (ho);clear HO128
     clear ho hb hg hat
     refine hK.out _ _ ⟨(qh BK124.out 0).trans rfl,(qh BK124.out 1).trans rfl⟩ (fun hHeld=>?_)
     clear hK K
     refine norm_ (a':=?_) ?_ ?_
     rotate_left
     ·show Act.put _ (some 6) _ = _
      simp only [Act.put,List.setIfInBounds_toArray,List.set_cons_zero,List.set_cons_succ,i64_w,i32_w]
      rfl
     exact norm_ (by simp only [putAll,Act.put,List.setIfInBounds_toArray,List.set_cons_zero,List.set_cons_succ]) (hCont (v127,v130,v133) _ ⟨hHeld,(by (with_reducible repeat (first|apply Kd.R_alloc|apply Kd.R_drewN|apply Kd.R_drew));exact HO131.out),(by (with_reducible repeat (first|apply Kd.R_alloc|apply Kd.R_drewN|apply Kd.R_drew));exact HO134.out),(bx_ BK124).out,(bx_ BK125).out,hx_⟩)
    skip
    refine Kd.R_lit_step k96 _ 96 ?hg (N:=7) ?hd (xs:=([] : List (S96))) (inner:=[]) (ok:=fun _=>True) (okp:=fun _=>True) ?hr ?hp (fun _ hk=>hk) trivial (Below.refl _ _) (Nat.le_refl _) (by simp) ?_;(case hd=>rfl);(case hg=>rfl);(case hr=>first|(go_simp;done)|(go_simp;rfl));(case hp=>exact (Reps.none _ _))
    intro v133 w7 ho8 hb hg_ hnew_
    clear hg_ hnew_
    (first|rw [← Ny132.out] at ho8|(simp only [Int.reduceToNat] at ho8;rw [← Ny132.out] at ho8))
    have HO134:=qo.mk (Kd.R_lower ho8 (qk hx_));replace BK124:=bb_ BK124 hb;replace BK125:=bb_ BK125 hb;replace HB:=hs_ HB hb
    clear hb ho8
    refine hK.out _ _ ⟨(qh BK124.out 0).trans rfl,(qh BK124.out 1).trans rfl⟩ (fun hHeld=>?_)
    clear hK K
    refine norm_ (a':=?_) ?_ ?_
    rotate_left
    ·show Act.put _ (some 7) _ = _
     simp only [Act.put,List.setIfInBounds_toArray,List.set_cons_zero,List.set_cons_succ,i64_w,i32_w]
     rfl
    refine one_ (i:=0) (N:=some 3) (bz_ 10 119) rfl rfl (one_of HT_.out (by kernel_rfl)) (by decide) (fun K hK=>?_)
    refine Kd.R_lit_step Kd.string _ 9 ?hg (N:=3) ?hd (xs:=([] : List ByteArray)) (inner:=[]) (ok:=fun _=>True) (okp:=fun _=>True) ?hr ?hp (fun _ hk=>hk) trivial (Below.refl _ _) (Nat.le_refl _) (by simp) ?_;(case hd=>rfl);(case hg=>rfl);(case hr=>first|(go_simp;done)|(go_simp;rfl));(case hp=>exact (Reps.none _ _))
    intro v127 w9 ho10 hb hg_ hnew_
    clear hg_ hnew_
    (first|rw [← Ny126.out] at ho10|(simp only [Int.reduceToNat] at ho10;rw [← Ny126.out] at ho10))
    replace HO134:=rb_ HO134 hb;have HO128:=qo.mk (Kd.R_lower ho10 (qk hx_));replace BK124:=bb_ BK124 hb;replace BK125:=bb_ BK125 hb;replace HB:=hs_ HB hb
    clear hb ho10
    refine hK.out _ _ ⟨(qh BK124.out 0).trans rfl,(qh BK124.out 1).trans rfl⟩ (fun hHeld=>?_)
    clear hK K
    refine norm_ (a':=?_) ?_ ?_
    rotate_left
    ·show Act.put _ (some 3) _ = _
     simp only [Act.put,List.setIfInBounds_toArray,List.set_cons_zero,List.set_cons_succ,i64_w,i32_w]
     rfl
    refine one_ (i:=3) (N:=some 6) (bz_ 10 127) rfl rfl (one_of HT_.out (by kernel_rfl)) (by decide) (fun K hK=>?_)
    refine Kd.R_append_rows_step Kd.string (w0:=w) w.heap.size (by rfl) (.tmp 3) (.tmp 5) 22 9 (.string ⟨#[]⟩) 16 rfl Try.underlying22 info9 rfl (by decide) (by omega) v127 y126 l0_0 _ _ _ (fun _=>True) (fun _=>False) rfl rfl ?aO ?aR (fun _ _ h=>h) (fun _ h=>h.elim) ?aF ?aB ?aS ?aL ?_
    (case aR=>repeat (first|exact (Kd.C_below HR0_0.out HB.out)|(with_reducible refine Kd.C_alloc ?_ _)|(with_reducible refine Kd.C_drewN ?_ _)|(with_reducible refine Kd.C_drew ?_)))
    (case aB=>exact hx_)
    (case aF=>exact (fun _ _=>trivial))
    (case aO=>exact (by (with_reducible repeat (first|apply Kd.R_alloc|apply Kd.R_drewN|apply Kd.R_drew));exact HO128.out))
    (case aS=>exact (qk hx_))
    (case aL=>have:=LMc2.out;omega)
    intro v130 w11 ho hb hg hat
    rw [← Ny129.out] at ho
    replace BK124:=qo.mk (blk_grown (g:=gb124) (o:=.cells #[.slice A0_0 l0_0.length c0_0,.slice A0_1 l0_1.length c0_1] 32 (0,0)) (bx_ BK124).out hg (Kd.R_ne HO128.out BK124.out (by decide)));replace BK125:=qo.mk (blk_grown (g:=gb125) (o:=.cells #[.slice none 0 0,.slice none 0 0] 32 (0,0)) (bx_ BK125).out hg (Kd.R_ne HO128.out BK125.out (by decide)));replace HO134:=qo.mk (Kd.R_over' (by (with_reducible repeat (first|apply Kd.R_alloc|apply Kd.R_drewN|apply Kd.R_drew));exact HO134.out) (Kd.R_typed (by (with_reducible repeat (first|apply Kd.R_alloc|apply Kd.R_drewN|apply Kd.R_drew));exact HO128.out)) (by decide) hg);replace HB:=qo.mk (hb);have HO131:=qo.mk (ho);clear HO128
    clear ho hb hg hat
    refine hK.out _ _ ⟨(qh BK124.out 0).trans rfl,(qh BK124.out 1).trans rfl⟩ (fun hHeld=>?_)
    clear hK K
    refine norm_ (a':=?_) ?_ ?_
    rotate_left
    ·show Act.put _ (some 6) _ = _
     simp only [Act.put,List.setIfInBounds_toArray,List.set_cons_zero,List.set_cons_succ,i64_w,i32_w]
     rfl
    exact norm_ (by simp only [putAll,Act.put,List.setIfInBounds_toArray,List.set_cons_zero,List.set_cons_succ]) (hCont (v127,v130,v133) _ ⟨hHeld,(by (with_reducible repeat (first|apply Kd.R_alloc|apply Kd.R_drewN|apply Kd.R_drew));exact HO131.out),(by (with_reducible repeat (first|apply Kd.R_alloc|apply Kd.R_drewN|apply Kd.R_drew));exact HO134.out),(bx_ BK124).out,(bx_ BK125).out,hx_⟩)
   rintro ⟨v127,v130,v133⟩ w12 ⟨hS_,h0_,h1_,h2_,h3_,h4_⟩
   have HO131 : qo (Kd.R Kd.string 9 w12 w.heap.size (fun _=>True) v130 y129):=⟨h0_⟩;have HO134 : qo (Kd.R k96 96 w12 w.heap.size (fun _=>True) v133 y132):=⟨h1_⟩;replace BK124 : qo (w12.heap[gb124]? = some (.cells #[.slice A0_0 l0_0.length c0_0,.slice A0_1 l0_1.length c0_1] 32 (0,0))):=⟨h2_⟩;replace BK125 : qo (w12.heap[gb125]? = some (.cells #[.slice none 0 0,.slice none 0 0] 32 (0,0))):=⟨h3_⟩;replace HB : qo (Below w.heap.size w w12):=⟨h4_⟩;clear h0_ h1_ h2_ h3_ h4_
   have hHeld : w12.cell? ⟨gb124,0,none⟩ = some (.slice A0_0 l0_0.length c0_0) ∧ w12.cell? ⟨gb124,1,none⟩ = some (.slice A0_1 l0_1.length c0_1):=hS_
   refine norm_ (a':=?_) ?_ ?_
   rotate_left
   ·simp only [putAll,Act.put,List.setIfInBounds_toArray,List.set_cons_zero,List.set_cons_succ]
    rfl
   refine one_ (i:=7) (N:=some 10) (bz_ 10 255) rfl rfl (one_of HT_.out (by kernel_rfl)) (by decide) (fun K hK=>?_)
   refine Kd.R_append_rows_step k96 (w0:=w) w.heap.size (by rfl) (.tmp 7) (.tmp 9) 30 96 (.agg #[(.int .i64 0),(.string ⟨#[]⟩)]) 24 rfl Try.underlying30 info96 rfl (by decide) (by omega) v133 y132 l0_1 _ _ _ (fun _=>True) (fun _=>False) rfl rfl ?aO ?aR (fun _ _ h=>h) (fun _ h=>h.elim) ?aF ?aB ?aS ?aL ?_
   (case aR=>repeat (first|exact (Kd.C_below HR0_1.out HB.out)|(with_reducible refine Kd.C_alloc ?_ _)|(with_reducible refine Kd.C_drewN ?_ _)|(with_reducible refine Kd.C_drew ?_)))
   (case aB=>exact hx_)
   (case aF=>exact (fun _ _=>trivial))
   (case aO=>exact (by (with_reducible repeat (first|apply Kd.R_alloc|apply Kd.R_drewN|apply Kd.R_drew));exact HO134.out))
   (case aS=>exact (qk hx_))
   (case aL=>have:=LMc3.out;omega)
   intro v136 w13 ho hb hg hat
   rw [← Ny135.out] at ho
   replace BK124:=qo.mk (blk_grown (g:=gb124) (o:=.cells #[.slice A0_0 l0_0.length c0_0,.slice A0_1 l0_1.length c0_1] 32 (0,0)) (bx_ BK124).out hg (Kd.R_ne HO134.out BK124.out (by decide)));replace BK125:=qo.mk (blk_grown (g:=gb125) (o:=.cells #[.slice none 0 0,.slice none 0 0] 32 (0,0)) (bx_ BK125).out hg (Kd.R_ne HO134.out BK125.out (by decide)));replace HO131:=qo.mk (Kd.R_over' (by (with_reducible repeat (first|apply Kd.R_alloc|apply Kd.R_drewN|apply Kd.R_drew));exact HO131.out) (Kd.R_typed (by (with_reducible repeat (first|apply Kd.R_alloc|apply Kd.R_drewN|apply Kd.R_drew));exact HO134.out)) (by decide) hg);replace HB:=qo.mk (hb);have HO137:=qo.mk (ho);clear HO134
   clear ho hb hg hat
   obtain ⟨Ao14,co14,eo14⟩:=Kd.R_slice HO137.out
   (first|subst eo14|(injection eo14 with f1_ f2_ f3_;have f4_:=f1_.symm;have f5_:=f3_.symm;clear f1_ f2_ f3_;subst f4_;subst f5_))
   obtain ⟨Ao15,co15,eo15⟩:=Kd.R_slice HO131.out
   (first|subst eo15|(injection eo15 with f1_ f2_ f3_;have f4_:=f1_.symm;have f5_:=f3_.symm;clear f1_ f2_ f3_;subst f4_;subst f5_))
   refine hK.out _ _ ⟨(qh BK124.out 0).trans rfl,(qh BK124.out 1).trans rfl⟩ (fun hHeld=>?_)
   clear hK K
   refine norm_ (a':=?_) ?_ ?_
   rotate_left
   ·show Act.put _ (some 10) _ = _
    simp only [Act.put,List.setIfInBounds_toArray,List.set_cons_zero,List.set_cons_succ,i64_w,i32_w]
    rfl
   refine pt_ 8 11 (bz_ 10 511) ?_
   refine one_ (i:=9) (N:=none) (bz_ 10 1023) rfl rfl (one_of HT_.out (by kernel_rfl)) (by decide) (fun K hK=>?_)
   have hs16 : w13.cell? ⟨gb125,0,none⟩ = some (.slice none 0 0):=(qh BK125.out 0).trans rfl
   have hfs16:=qj BK125.out 0
   have hns16_0:=NB124_125.out
   have hms16_0:=NB125_124.out
   have hs17 : w13.cell? ⟨gb125,1,none⟩ = some (.slice none 0 0):=(qh BK125.out 1).trans rfl
   have hfs17:=qj BK125.out 1
   have hns17_0:=NB124_125.out
   have hms17_0:=NB125_124.out
   refine skip_ (w1:=?_) (by rfl) rfl ?_ ?_
   rotate_left
   ·go_simp
    rfl
   refine hK.out _ _ ⟨((cell_far (p:=⟨gb125,_,none⟩) NB124_125.out _).trans (((cell_far (p:=⟨gb125,_,none⟩) NB124_125.out _).trans (hHeld.1)))),((cell_far (p:=⟨gb125,_,none⟩) NB124_125.out _).trans (((cell_far (p:=⟨gb125,_,none⟩) NB124_125.out _).trans (hHeld.2))))⟩ (fun hHeld=>?_)
   clear hK K
   refine done_ (done_of HT_.out (by kernel_rfl)) ?_
   try go_wp2
   refine bodyPost_ret (results_cell_row rfl _ _ gb125 32 #[.slice Ao15 y129.length co15,.slice Ao14 y135.length co14] (0,0) _ rfl (by (with_reducible repeat (first|refine qb ?_ _|refine qe ?_|refine qc ?_ _));refine blk_put (cs:=#[.slice Ao15 y129.length co15,.slice none 0 0]) ?_ 1 _ rfl;(with_reducible repeat (first|refine qb ?_ _|refine qe ?_|refine qc ?_ _));refine blk_put (cs:=#[.slice none 0 0,.slice none 0 0]) ?_ 0 _ rfl;(with_reducible repeat (first|refine qb ?_ _|refine qe ?_|refine qc ?_ _));exact BK125.out) Try.underlying32 rfl (by kernel_rfl)) rfl ?_
   exact ⟨_,_,rt_,by (with_reducible repeat (first|apply Kd.R_alloc|apply Kd.R_drewN|apply Kd.R_drew));exact Kd.R_mono (Kd.R_far (p:=⟨gb125,1,none⟩) (Kd.R_far (p:=⟨gb125,0,none⟩) (Kd.R_types HO131.out BK125.out (by decide)) (fun _ hk=>hk.2) (.slice Ao15 y129.length co15)) (fun _ hk=>hk.2) (.slice Ao14 y135.length co14)) (fun _ hk=>trivial),by (with_reducible repeat (first|apply Kd.R_alloc|apply Kd.R_drewN|apply Kd.R_drew));exact Kd.R_mono (Kd.R_far (p:=⟨gb125,1,none⟩) (Kd.R_far (p:=⟨gb125,0,none⟩) (Kd.R_types HO137.out BK125.out (by decide)) (fun _ hk=>hk.2) (.slice Ao15 y129.length co15)) (fun _ hk=>hk.2) (.slice Ao14 y135.length co14)) (fun _ hk=>trivial),hx_⟩
  rw [if_neg c3] at H
  exact absurd H (by simp)
 rw [if_neg c2] at H
 exact absurd H (by simp)

/-! ### spec_l01Var: function 86 -/
def spec_l01Var.l0 : Nat → Int → List Int → Option (ByteArray)
 | 0,_,_=>none
 | k + 1,x0,x3=>if x0 > 127 then (if x3.length < 140737488355328 then (spec_l01Var.l0 k (wrap64 (Int.tdiv x0 128)) (x3 ++ [(wrap64 ((Int.tmod x0 128) + 128)) % 256])) else (none)) else (if x3.length < 140737488355328 then (some (strOfNums (x3 ++ [(x0) % 256]))) else (none))
def spec_l01Var.f (k : Nat) (a0 : Int) : Option (ByteArray):=spec_l01Var.l0 k a0 (([] : List Int))
theorem spec_l01Var.mono_l : ∀ k,(∀ y0 y1,LeO (spec_l01Var.l0 k y0 y1) (spec_l01Var.l0 (k + 1) y0 y1))
 | 0=>fun _ _ r h=>by simp [spec_l01Var.l0] at h
 | k + 1=>by
  have ih0:=spec_l01Var.mono_l k
  intro y0 y1
  unfold spec_l01Var.l0
  repeat' first|(with_reducible first|exact ih0 _ _|exact LeO.refl _|exact LeO.none _|refine LeO.ite ?_ ?_|refine LeO.bind ?_ (fun _=>?_))|exact ih0 _ _|exact LeO.none _|refine LeO.ite ?_ ?_|refine LeO.bind ?_ (fun _=>?_)
theorem spec_l01Var.mono : ∀ a0 k,LeO (spec_l01Var.f k a0) (spec_l01Var.f (k + 1) a0):=by
 intro a0 k
 have ih0:=spec_l01Var.mono_l k
 unfold spec_l01Var.f
 repeat' first|(with_reducible first|exact ih0 _ _|exact LeO.refl _|exact LeO.none _|refine LeO.ite ?_ ?_|refine LeO.bind ?_ (fun _=>?_))|exact ih0 _ _|exact LeO.none _|refine LeO.ite ?_ ?_|refine LeO.bind ?_ (fun _=>?_)
set_option maxHeartbeats 8000000 in
set_option maxRecDepth 100000 in
theorem spec_l01Var.calls (k : Nat) (a0 : Int) (r : ByteArray) (w : World) (h : spec_l01Var.f k a0 = some r) :
  Calls Try.prog 86 #[.int .i64 a0] w fun e w'=>e = .returned (.string r) ∧ Below w.heap.size w w':=by
 have HB:=qo.mk (Below.refl w.heap.size w)
 have H : (spec_l01Var.l0 k a0 (([] : List Int))) = some r:=h
 clear h
 obtain ⟨y138,hy138⟩ : ∃ y_ : List Int,y_ = (([] : List Int)):=⟨_,rfl⟩
 replace H : (spec_l01Var.l0 k a0 y138) = some r:=by first|(rw [hy138];with_reducible exact H)|(have H2_:=(Option.bind_some _ _).symm.trans H;rw [hy138];with_reducible exact H2_)|(have H2_:=(Option.bind_some _ _).symm.trans H;with_reducible exact H2_)|with_reducible exact H|(rw [hy138];exact H)|exact H
 have Ny138:=qo.mk hy138
 clear hy138
 have H':=qo.mk H
 clear H
 go_enter Try.func86,Try.ntmps86
 go_wp2_with (first|((with_reducible refine gate_dst (N:=4) rfl ?_);refine Kd.R_lit (Kd.int .u8) _ 5 ?hg (N:=4) ?hd (xs:=([] : List Int)) (inner:=[]) (ok:=fun _=>True) (okp:=fun _=>True) ?hr ?hp (fun _ hk=>hk) trivial (Below.refl _ _) (Nat.le_refl _) (by simp) ?_;(case hd=>rfl);(case hg=>rfl);(case hr=>first|(go_simp;done)|(go_simp;rfl));(case hp=>exact (Reps.none _ _));intro v139 w2 ho3 hb hg_ hnew_;clear hg_ hnew_;(first|rw [← Ny138.out] at ho3|(simp only [Int.reduceToNat] at ho3;rw [← Ny138.out] at ho3));have HO140:=qo.mk (Kd.R_lower ho3 (qk hx_));replace HB:=hs_ HB hb;clear hb ho3))
 go_loopg [0,3] k (fun kq v0 v3 w'=>∃ (x0_1 : Int) (x3_1 : List Int),v0 = .int .i64 x0_1 ∧ qo (spec_l01Var.l0 kq x0_1 x3_1 = some r) ∧ qo (kq ≤ k) ∧ qo (Kd.R (Kd.int .u8) 5 w' w.heap.size (fun _=>True) v3 x3_1) ∧ qo (Below w.heap.size w w'))
 case atStart=>exact ⟨(a0),(y138),rs_,H',⟨Nat.le_refl _⟩,⟨by (with_reducible repeat (first|apply Kd.R_alloc|apply Kd.R_drewN|apply Kd.R_drew));exact HO140.out⟩,⟨hx_⟩⟩
 clear H'
 try clear p2
 obtain ⟨x0_1,x3_1,rfl,HA,HK1,HO_3,HB⟩:=hrel
 obtain _|k1:=gk
 ·exact absurd HA.out (by simp [spec_l01Var.l0])
 have H:=HA.out
 clear HA
 simp only [spec_l01Var.l0] at H
 by_cases c4 : x0_1 > 127
 ·rw [if_pos c4] at H
  have c4b0 : decide (127 < x0_1) = true:=decide_eq_true c4
  clear c4
  by_cases c5 : x3_1.length < 140737488355328
  ·rw [if_pos c5] at H
   have LMc5:=qo.mk c5
   clear c5
   obtain ⟨y141,hy141⟩ : ∃ y_ : List Int,y_ = (x3_1 ++ [(wrap64 ((Int.tmod x0_1 128) + 128)) % 256]):=⟨_,rfl⟩
   replace H : (spec_l01Var.l0 k1 (wrap64 (Int.tdiv x0_1 128)) y141) = some r:=by first|(rw [hy141];with_reducible exact H)|(have H2_:=(Option.bind_some _ _).symm.trans H;rw [hy141];with_reducible exact H2_)|(have H2_:=(Option.bind_some _ _).symm.trans H;with_reducible exact H2_)|with_reducible exact H|(rw [hy141];exact H)|exact H
   have Ny141:=qo.mk hy141
   clear hy141
   have H':=qo.mk H
   clear H
   go_wp2_with (first|((with_reducible refine gate_builtin (b:=.append) (xs:=#[.tmp 7,.tmp 12]) rfl ?_);at_builtin;refine Kd.R_append (Kd.int .u8) (w0:=w) w.heap.size rfl (.tmp 7) (.tmp 12) 46 5 (.int .u8 0) 1 rfl Try.underlying46 info5 rfl (by decide) (by omega) u3 x3_1 ((wrap64 ((Int.tmod x0_1 128) + 128)) % 256) [.int .u8 ((wrap64 ((Int.tmod x0_1 128) + 128)) % 256)] (fun _=>True) (fun _=>False) rfl rfl ?aP (fun _ hk=>hk.elim) ?aF ?aO ?aB ?aS ?aL ?_;(case aP=>exact rfl);(case aB=>exact hx_);(case aF=>exact (fun _ _=>trivial));(case aO=>exact (by (with_reducible repeat (first|apply Kd.R_alloc|apply Kd.R_drewN|apply Kd.R_drew));exact HO_3.out));(case aS=>exact (qk hx_));(case aL=>have:=LMc5.out;omega);intro v142 w6 ho hb hg hat;rw [← Ny141.out] at ho;replace HB:=qo.mk (hb);have HO143:=qo.mk (ho);clear HO_3;clear ho hb hg hat))
   go_roundg k1
   case measure=>have:=HK1.out;omega
   case rel=>exact ⟨(wrap64 (Int.tdiv x0_1 128)),(y141),rs_,H',⟨by have:=HK1.out;omega⟩,⟨by (with_reducible repeat (first|apply Kd.R_alloc|apply Kd.R_drewN|apply Kd.R_drew));exact HO143.out⟩,⟨hx_⟩⟩
  rw [if_neg c5] at H
  exact absurd H (by simp)
 rw [if_neg c4] at H
 have c4b0 : decide (127 < x0_1) = false:=decide_eq_false c4
 clear c4
 by_cases c7 : x3_1.length < 140737488355328
 ·rw [if_pos c7] at H
  have LMc7:=qo.mk c7
  clear c7
  obtain ⟨y144,hy144⟩ : ∃ y_ : List Int,y_ = (x3_1 ++ [(x0_1) % 256]):=⟨_,rfl⟩
  replace H : (some (strOfNums y144)) = some r:=by first|(rw [hy144];with_reducible exact H)|(have H2_:=(Option.bind_some _ _).symm.trans H;rw [hy144];with_reducible exact H2_)|(have H2_:=(Option.bind_some _ _).symm.trans H;with_reducible exact H2_)|with_reducible exact H|(rw [hy144];exact H)|exact H
  have Ny144:=qo.mk hy144
  clear hy144
  obtain rfl:=Option.some.inj H
  go_wp2_with (first|((with_reducible refine gate_builtin (b:=.append) (xs:=#[.tmp 16,.tmp 19]) rfl ?_);at_builtin;refine Kd.R_append (Kd.int .u8) (w0:=w) w.heap.size rfl (.tmp 16) (.tmp 19) 46 5 (.int .u8 0) 1 rfl Try.underlying46 info5 rfl (by decide) (by omega) u3 x3_1 ((x0_1) % 256) [.int .u8 ((x0_1) % 256)] (fun _=>True) (fun _=>False) rfl rfl ?aP (fun _ hk=>hk.elim) ?aF ?aO ?aB ?aS ?aL ?_;(case aP=>exact rfl);(case aB=>exact hx_);(case aF=>exact (fun _ _=>trivial));(case aO=>exact (by (with_reducible repeat (first|apply Kd.R_alloc|apply Kd.R_drewN|apply Kd.R_drew));exact HO_3.out));(case aS=>exact (qk hx_));(case aL=>have:=LMc7.out;omega);intro v145 w8 ho hb hg hat;rw [← Ny144.out] at ho;replace HB:=qo.mk (hb);have HO146:=qo.mk (ho);clear HO_3;clear ho hb hg hat;have hcv9:=own_string (P:=Try.prog) Try.underlying46 Try.underlying5 Try.underlying9 (Kd.own_of_R HO146.out)))
  go_ret
  exact ⟨rt_,hx_⟩
 rw [if_neg c7] at H
 exact absurd H (by simp)

/-! ### spec_l04Short: function 82 -/
def spec_l04Short.f (k : Nat) (a0 : ByteArray) : Option (ByteArray):=(spec_l01Var.f k (a0.size : Int)).bind fun t147=>(if t147.size + a0.size ≤ 9223372036854775807 then (some (t147 ++ a0)) else (none))
theorem spec_l04Short.mono : ∀ a0 k,LeO (spec_l04Short.f k a0) (spec_l04Short.f (k + 1) a0):=by
 intro a0 k
 unfold spec_l04Short.f
 repeat' first|(with_reducible first|exact spec_l01Var.mono _ _|exact LeO.refl _|exact LeO.none _|refine LeO.ite ?_ ?_|refine LeO.bind ?_ (fun _=>?_))|exact spec_l01Var.mono _ _|exact LeO.none _|refine LeO.ite ?_ ?_|refine LeO.bind ?_ (fun _=>?_)
set_option maxHeartbeats 8000000 in
set_option maxRecDepth 100000 in
theorem spec_l04Short.calls (k : Nat) (a0 : ByteArray) (r : ByteArray) (w : World) (h : spec_l04Short.f k a0 = some r) :
  Calls Try.prog 82 #[.string a0] w fun e w'=>e = .returned (.string r) ∧ Below w.heap.size w w':=by
 have HB:=qo.mk (Below.refl w.heap.size w)
 have H : ((spec_l01Var.f k (a0.size : Int)).bind fun t147=>(if t147.size + a0.size ≤ 9223372036854775807 then (some (t147 ++ a0)) else (none))) = some r:=h
 clear h
 replace H:=Option.bind_eq_some_iff.mp H
 obtain ⟨t147,A20,H⟩:=H
 replace H : (if t147.size + a0.size ≤ 9223372036854775807 then (some (t147 ++ a0)) else (none)) = some r:=H
 have A2:=qo.mk A20
 clear A20
 by_cases c3 : t147.size + a0.size ≤ 9223372036854775807
 ·rw [if_pos c3] at H
  have c3b0:=eq_true c3
  have c3b1 : decide (t147.size + a0.size ≤ 9223372036854775807) = true:=decide_eq_true c3
  try have c3b2 : (9223372036854775807 < t147.size + a0.size) = False:=eq_false (Nat.not_lt.2 c3)
  obtain rfl:=Option.some.inj H
  go_enter Try.func82,Try.ntmps82
  go_wp2_with (first|((with_reducible refine gate_callee (f:=86) rfl ?_);refine goesL_ (some 5) rfl rfl Try.func86 (by kernel_rfl) rfl #[.int .i64 (a0.size : Int)] rfl sm_ ?_;(with_reducible refine (spec_l01Var.calls k (a0.size : Int) t147 _ A2.out).mono ?_);rintro e w4 ⟨rfl,hb⟩;refine ⟨_,rfl,?_⟩;replace HB:=hs_ HB hb;(try clear hb);(try clear hb2);(try clear hk);(try clear hi)))
  go_ret
  exact ⟨rt_,hx_⟩
 rw [if_neg c3] at H
 exact absurd H (by simp)

/-! ### spec_VarText: function 83 -/
def spec_VarText.f (k : Nat) (a0 : Int) : Option (ByteArray × Bool):=(spec_l01In.f a0 0 1000000000).bind fun t148=>(if t148 = true then ((spec_l01Var.f k a0).bind fun t149=>(some (t149,true))) else (some ((⟨#[]⟩ : ByteArray),false)))
theorem spec_VarText.mono : ∀ a0 k,LeO (spec_VarText.f k a0) (spec_VarText.f (k + 1) a0):=by
 intro a0 k
 unfold spec_VarText.f
 repeat' first|(with_reducible first|exact spec_l01Var.mono _ _|exact LeO.refl _|exact LeO.none _|refine LeO.ite ?_ ?_|refine LeO.bind ?_ (fun _=>?_))|exact spec_l01Var.mono _ _|exact LeO.none _|refine LeO.ite ?_ ?_|refine LeO.bind ?_ (fun _=>?_)
set_option maxHeartbeats 8000000 in
set_option maxRecDepth 100000 in
theorem spec_VarText.calls (k : Nat) (a0 : Int) (r1 : ByteArray) (r2 : Bool) (w : World) (h : spec_VarText.f k a0 = some (r1,r2)) :
  Calls Try.prog 83 #[.int .i64 a0] w fun e w'=>e = .returned (.tuple #[.string r1,.bool r2]) ∧ Below w.heap.size w w':=by
 have HB:=qo.mk (Below.refl w.heap.size w)
 have H : ((spec_l01In.f a0 0 1000000000).bind fun t148=>(if t148 = true then ((spec_l01Var.f k a0).bind fun t149=>(some (t149,true))) else (some ((⟨#[]⟩ : ByteArray),false)))) = some (r1,r2):=h
 clear h
 replace H:=Option.bind_eq_some_iff.mp H
 obtain ⟨t148,A20,H⟩:=H
 replace H : (if t148 = true then ((spec_l01Var.f k a0).bind fun t149=>(some (t149,true))) else (some ((⟨#[]⟩ : ByteArray),false))) = some (r1,r2):=H
 have A2:=qo.mk A20
 clear A20
 by_cases c3 : t148 = true
 ·subst c3
  have H1 : ((spec_l01Var.f k a0).bind fun t149=>(some (t149,true))) = some (r1,r2):=by rw [if_pos rfl] at H;exact H
  clear H
  have H:=H1
  clear H1
  replace H:=Option.bind_eq_some_iff.mp H
  obtain ⟨t149,A40,H⟩:=H
  replace H : (some (t149,true)) = some (r1,r2):=H
  have A4:=qo.mk A40
  clear A40
  simp only [Option.some.injEq,Prod.mk.injEq] at H
  obtain ⟨rfl,rfl⟩:=H
  go_enter Try.func83,Try.ntmps83
  go_wp2_with (first|((with_reducible refine gate_callee (f:=33) rfl ?_);refine goesL_ (some 5) rfl rfl Try.func33 (by kernel_rfl) rfl #[.int .i64 a0,.int .i64 0,.int .i64 1000000000] rfl sm_ ?_;(with_reducible refine (spec_l01In.calls a0 0 1000000000 true _ A2.out).mono ?_);rintro e w' ⟨rfl,⟨nd,rfl⟩⟩;refine ⟨_,rfl,?_⟩)|((with_reducible refine gate_callee (f:=86) rfl ?_);refine goesL_ (some 8) rfl rfl Try.func86 (by kernel_rfl) rfl #[.int .i64 a0] rfl sm_ ?_;(with_reducible refine (spec_l01Var.calls k a0 t149 _ A4.out).mono ?_);rintro e w5 ⟨rfl,hb⟩;refine ⟨_,rfl,?_⟩;replace HB:=hs_ HB hb;(try clear hb);(try clear hb2);(try clear hk);(try clear hi)))
  go_ret2
  exact ⟨rt_,hx_⟩
 replace c3:=Bool.eq_false_iff.mpr c3
 subst c3
 have H1 : (some ((⟨#[]⟩ : ByteArray),false)) = some (r1,r2):=by rw [if_neg (show ¬ (false = true) by decide)] at H;exact H
 clear H
 have H:=H1
 clear H1
 simp only [Option.some.injEq,Prod.mk.injEq] at H
 obtain ⟨rfl,rfl⟩:=H
 go_enter Try.func83,Try.ntmps83
 go_wp2_with (first|((with_reducible refine gate_callee (f:=33) rfl ?_);refine goesL_ (some 5) rfl rfl Try.func33 (by kernel_rfl) rfl #[.int .i64 a0,.int .i64 0,.int .i64 1000000000] rfl sm_ ?_;(with_reducible refine (spec_l01In.calls a0 0 1000000000 false _ A2.out).mono ?_);rintro e w' ⟨rfl,⟨nd,rfl⟩⟩;refine ⟨_,rfl,?_⟩))
 go_ret2
 exact ⟨rt_,hx_⟩

/-! ### spec_ItemSize: function 62 -/
def spec_ItemSize.f (k : Nat) (a0 : Int) (a1_0 : ByteArray) (a1_1 : ByteArray) (a1_2 : Int) : Option (Int):=if a0 = 1 then ((spec_l04Short.f k a1_0).bind fun t151=>((spec_l04Short.f k a1_1).bind fun t152=>(some (wrap64 ((t151.size : Int) + (t152.size : Int)))))) else (if a0 = 2 then ((spec_VarText.f k a1_2).bind fun bt153=>(if bt153.2 = true then ((spec_l04Short.f k a1_0).bind fun t155=>(some (wrap64 ((t155.size : Int) + (bt153.1.size : Int))))) else ((spec_l04Short.f k a1_0).bind fun t156=>(some (t156.size : Int))))) else (some 0))
theorem spec_ItemSize.mono : ∀ a0 a1 a2 a3 k,LeO (spec_ItemSize.f k a0 a1 a2 a3) (spec_ItemSize.f (k + 1) a0 a1 a2 a3):=by
 intro a0 a1 a2 a3 k
 unfold spec_ItemSize.f
 repeat' first|(with_reducible first|exact spec_VarText.mono _ _|exact spec_l04Short.mono _ _|exact LeO.refl _|exact LeO.none _|refine LeO.ite ?_ ?_|refine LeO.bind ?_ (fun _=>?_))|exact spec_VarText.mono _ _|exact spec_l04Short.mono _ _|exact LeO.none _|refine LeO.ite ?_ ?_|refine LeO.bind ?_ (fun _=>?_)
def spec_ItemSize.T3 : Bool × List (List Nat × List Nat):=(true,[([],[]),([0],[0]),([1],[1]),([2],[2]),([],[]),([4],[4]),([5,2],[5]),([6],[6]),([3,7],[3,7]),([8,6,0,1,2,3,4,5,6,7,8],[8])])
def spec_ItemSize.B3 : List Nat:=[0,1,3,7,0,16,55,119,255,511]
theorem spec_ItemSize.tab3 : rtab .any (opsOf Try.f62 3) = spec_ItemSize.T3:=by kernel_rfl
theorem spec_ItemSize.bits3 : waitsOk spec_ItemSize.T3.2 spec_ItemSize.B3 = true:=by kernel_rfl
set_option maxHeartbeats 8000000 in
set_option maxRecDepth 100000 in
theorem spec_ItemSize.calls (k : Nat) (a0 : Int) (a1_0 : ByteArray) (a1_1 : ByteArray) (a1_2 : Int) (r : Int) (w : World) (h : spec_ItemSize.f k a0 a1_0 a1_1 a1_2 = some r) :
  Calls Try.prog 62 #[.int .i64 a0,.agg #[.string a1_0,.string a1_1,.int .i64 a1_2]] w fun e w'=>e = .returned (.int .i64 r) ∧ Below w.heap.size w w':=by
 have hu71:=Try.underlying71
 have HB:=qo.mk (Below.refl w.heap.size w)
 have H : (if a0 = 1 then ((spec_l04Short.f k a1_0).bind fun t151=>((spec_l04Short.f k a1_1).bind fun t152=>(some (wrap64 ((t151.size : Int) + (t152.size : Int)))))) else (if a0 = 2 then ((spec_VarText.f k a1_2).bind fun bt153=>(if bt153.2 = true then ((spec_l04Short.f k a1_0).bind fun t155=>(some (wrap64 ((t155.size : Int) + (bt153.1.size : Int))))) else ((spec_l04Short.f k a1_0).bind fun t156=>(some (t156.size : Int))))) else (some 0))) = some r:=h
 clear h
 by_cases c3 : a0 = 1
 ·rw [if_pos c3] at H
  have c3b0 : (a0 == 1) = true:=beq_iff_eq.mpr c3
  have c3b1 : (a0 != 1) = false:=bne_eq_false_iff_eq.mpr c3
  clear c3
  replace H:=Option.bind_eq_some_iff.mp H
  obtain ⟨t151,A40,H⟩:=H
  replace H : ((spec_l04Short.f k a1_1).bind fun t152=>(some (wrap64 ((t151.size : Int) + (t152.size : Int))))) = some r:=H
  have A4:=qo.mk A40
  clear A40
  replace H:=Option.bind_eq_some_iff.mp H
  obtain ⟨t152,A50,H⟩:=H
  replace H : (some (wrap64 ((t151.size : Int) + (t152.size : Int)))) = some r:=H
  have A5:=qo.mk A50
  clear A50
  obtain rfl:=Option.some.inj H
  go_enter Try.func62,Try.ntmps62
  try go_wp2_with (first|((with_reducible refine gate_dst (N:=3) rfl ?_);refine box_event ?hg (N:=3) ?hd (cs:=#[.string a1_0,.string a1_1,.int .i64 a1_2]) (t:=71) ?hr ?_;(case hd=>rfl);(case hg=>rfl);(case hr=>first|(go_simp;done)|(go_simp;rfl));intro gb150 hg w6 hbox hb;have BK150:=qo.mk (hbox);have GW150:=hl_ (w:=w) hg;have GE150:=hl_ (w:=w) hg;replace HB:=hs_ HB hb;clear hb hbox hg))
  replace BK150:=qo.mk (qe BK150.out);replace HB:=qo.mk (qd HB.out)
  refine start_ (n:=10) (S:=fun w'=>w'.cell? ⟨gb150,0,none⟩ = some (.string a1_0) ∧ w'.cell? ⟨gb150,1,none⟩ = some (.string a1_1) ∧ w'.cell? ⟨gb150,2,none⟩ = some (.int .i64 a1_2)) (ds:=[]) (Array.replicate 10 false) (by kernel_rfl) rfl rfl ⟨(qh BK150.out 0).trans rfl,(qh BK150.out 1).trans rfl,(qh BK150.out 2).trans rfl⟩ (fun hHeld=>?_);refine with_tabW spec_ItemSize.tab3 spec_ItemSize.bits3 (fun HT_ HW_=>?_)
  generalize w6.drew = w7 at BK150 HB hHeld ⊢
  refine pt_ 0 10 (bz_ 10 1) ?_
  refine pt_ 4 14 (bz_ 10 17) ?_
  refine tt_ 1 11 (bz_ 10 19) hHeld (hy:=Or.inl ⟨by rfl,by rintro w' ⟨s0,s1,s2⟩;go_simp;with_reducible rfl⟩) (h:=?_)
  refine tt_ 5 15 (bz_ 10 51) hHeld (hy:=Or.inl ⟨by rfl,by rintro w' ⟨s0,s1,s2⟩;go_simp;with_reducible rfl⟩) (h:=?_)
  refine one_ (i:=2) (N:=some 12) (bz_ 10 55) rfl rfl (one_of HT_.out (by kernel_rfl)) (by decide) (fun K hK=>?_)
  refine goes_ Try.func82 (by kernel_rfl) rfl #[.string a1_0] (by rfl) rfl rfl sm_ ?_
  with_reducible refine (spec_l04Short.calls k a1_0 t151 _ A4.out).mono ?_
  rintro e w8 ⟨rfl,hb⟩
  refine ⟨_,rfl,?_⟩
  replace BK150:=bb_ BK150 hb;replace HB:=hs_ HB hb
  (try clear hb)
  (try clear hb2)
  (try clear hk)
  (try clear hi)
  refine hK.out _ _ ⟨(qh BK150.out 0).trans rfl,(qh BK150.out 1).trans rfl,(qh BK150.out 2).trans rfl⟩ (fun hHeld=>?_)
  clear hK K
  refine norm_ (a':=?_) ?_ ?_
  rotate_left
  ·show Act.put _ (some 12) _ = _
   simp only [Act.put,List.setIfInBounds_toArray,List.set_cons_zero,List.set_cons_succ,i64_w,i32_w]
   rfl
  refine pt_ 3 13 (bz_ 10 63) ?_
  refine one_ (i:=6) (N:=some 16) (bz_ 10 127) rfl rfl (one_of HT_.out (by kernel_rfl)) (by decide) (fun K hK=>?_)
  refine goes_ Try.func82 (by kernel_rfl) rfl #[.string a1_1] (by rfl) rfl rfl sm_ ?_
  with_reducible refine (spec_l04Short.calls k a1_1 t152 _ A5.out).mono ?_
  rintro e w9 ⟨rfl,hb⟩
  refine ⟨_,rfl,?_⟩
  replace BK150:=bb_ BK150 hb;replace HB:=hs_ HB hb
  (try clear hb)
  (try clear hb2)
  (try clear hk)
  (try clear hi)
  refine hK.out _ _ ⟨(qh BK150.out 0).trans rfl,(qh BK150.out 1).trans rfl,(qh BK150.out 2).trans rfl⟩ (fun hHeld=>?_)
  clear hK K
  refine norm_ (a':=?_) ?_ ?_
  rotate_left
  ·show Act.put _ (some 16) _ = _
   simp only [Act.put,List.setIfInBounds_toArray,List.set_cons_zero,List.set_cons_succ,i64_w,i32_w]
   rfl
  refine pt_ 7 17 (bz_ 10 255) ?_
  refine pt_ 8 18 (bz_ 10 511) ?_
  refine pt_ 9 4 (bz_ 10 1023) ?_
  refine done_ (done_of HT_.out (by kernel_rfl)) ?_
  try go_wp2
  go_ret
  exact ⟨rt_,hx_⟩
 rw [if_neg c3] at H
 have c3b0 : (a0 == 1) = false:=beq_eq_false_iff_ne.mpr c3
 have c3b1 : (a0 != 1) = true:=bne_iff_ne.mpr c3
 by_cases c10 : a0 = 2
 ·rw [if_pos c10] at H
  have c10b0 : (a0 == 2) = true:=beq_iff_eq.mpr c10
  have c10b1 : (a0 != 2) = false:=bne_eq_false_iff_eq.mpr c10
  clear c10
  replace H:=Option.bind_eq_some_iff.mp H
  obtain ⟨⟨t153,t154⟩,A110,H⟩:=H
  replace H : (if t154 = true then ((spec_l04Short.f k a1_0).bind fun t155=>(some (wrap64 ((t155.size : Int) + (t153.size : Int))))) else ((spec_l04Short.f k a1_0).bind fun t156=>(some (t156.size : Int)))) = some r:=H
  have A11:=qo.mk A110
  clear A110
  by_cases c12 : t154 = true
  ·subst c12
   have H1 : ((spec_l04Short.f k a1_0).bind fun t155=>(some (wrap64 ((t155.size : Int) + (t153.size : Int))))) = some r:=by rw [if_pos rfl] at H;exact H
   clear H
   have H:=H1
   clear H1
   replace H:=Option.bind_eq_some_iff.mp H
   obtain ⟨t155,A130,H⟩:=H
   replace H : (some (wrap64 ((t155.size : Int) + (t153.size : Int)))) = some r:=H
   have A13:=qo.mk A130
   clear A130
   obtain rfl:=Option.some.inj H
   go_enter Try.func62,Try.ntmps62
   go_wp2_with (first|((with_reducible refine gate_dst (N:=3) rfl ?_);refine box_event ?hg (N:=3) ?hd (cs:=#[.string a1_0,.string a1_1,.int .i64 a1_2]) (t:=71) ?hr ?_;(case hd=>rfl);(case hg=>rfl);(case hr=>first|(go_simp;done)|(go_simp;rfl));intro gb150 hg w14 hbox hb;have BK150:=qo.mk (hbox);have GW150:=hl_ (w:=w) hg;have GE150:=hl_ (w:=w) hg;replace HB:=hs_ HB hb;clear hb hbox hg;obtain ⟨hcz15_0,hcz15_1,hcz15_2,hfz15_0,hfz15_1,hfz15_2⟩:=c3f_ BK150.out)|((with_reducible refine gate_callee (f:=83) rfl ?_);refine goesL_ (some 24) rfl rfl Try.func83 (by kernel_rfl) rfl #[.int .i64 a1_2] rfl sm_ ?_;(with_reducible refine (spec_VarText.calls k a1_2 t153 true _ A11.out).mono ?_);rintro e w16 ⟨rfl,hb⟩;refine ⟨_,rfl,?_⟩;replace BK150:=bb_ BK150 hb;replace HB:=hs_ HB hb;(try clear hb);(try clear hb2);(try clear hk);(try clear hi);obtain ⟨hcz17_0,hcz17_1,hcz17_2,hfz17_0,hfz17_1,hfz17_2⟩:=c3f_ BK150.out)|((with_reducible refine gate_callee (f:=82) rfl ?_);refine goesL_ (some 30) rfl rfl Try.func82 (by kernel_rfl) rfl #[.string a1_0] rfl sm_ ?_;(with_reducible refine (spec_l04Short.calls k a1_0 t155 _ A13.out).mono ?_);rintro e w18 ⟨rfl,hb⟩;refine ⟨_,rfl,?_⟩;replace BK150:=bb_ BK150 hb;replace HB:=hs_ HB hb;(try clear hb);(try clear hb2);(try clear hk);(try clear hi)))
   go_ret
   exact ⟨rt_,hx_⟩
  replace c12:=Bool.eq_false_iff.mpr c12
  subst c12
  have H1 : ((spec_l04Short.f k a1_0).bind fun t156=>(some (t156.size : Int))) = some r:=by rw [if_neg (show ¬ (false = true) by decide)] at H;exact H
  clear H
  have H:=H1
  clear H1
  replace H:=Option.bind_eq_some_iff.mp H
  obtain ⟨t156,A190,H⟩:=H
  replace H : (some (t156.size : Int)) = some r:=H
  have A19:=qo.mk A190
  clear A190
  obtain rfl:=Option.some.inj H
  go_enter Try.func62,Try.ntmps62
  go_wp2_with (first|((with_reducible refine gate_dst (N:=3) rfl ?_);refine box_event ?hg (N:=3) ?hd (cs:=#[.string a1_0,.string a1_1,.int .i64 a1_2]) (t:=71) ?hr ?_;(case hd=>rfl);(case hg=>rfl);(case hr=>first|(go_simp;done)|(go_simp;rfl));intro gb150 hg w20 hbox hb;have BK150:=qo.mk (hbox);have GW150:=hl_ (w:=w) hg;have GE150:=hl_ (w:=w) hg;replace HB:=hs_ HB hb;clear hb hbox hg;obtain ⟨hcz21_0,hcz21_1,hcz21_2,hfz21_0,hfz21_1,hfz21_2⟩:=c3f_ BK150.out)|((with_reducible refine gate_callee (f:=83) rfl ?_);refine goesL_ (some 24) rfl rfl Try.func83 (by kernel_rfl) rfl #[.int .i64 a1_2] rfl sm_ ?_;(with_reducible refine (spec_VarText.calls k a1_2 t153 false _ A11.out).mono ?_);rintro e w22 ⟨rfl,hb⟩;refine ⟨_,rfl,?_⟩;replace BK150:=bb_ BK150 hb;replace HB:=hs_ HB hb;(try clear hb);(try clear hb2);(try clear hk);(try clear hi);obtain ⟨hcz23_0,hcz23_1,hcz23_2,hfz23_0,hfz23_1,hfz23_2⟩:=c3f_ BK150.out)|((with_reducible refine gate_callee (f:=82) rfl ?_);refine goesL_ (some 37) rfl rfl Try.func82 (by kernel_rfl) rfl #[.string a1_0] rfl sm_ ?_;(with_reducible refine (spec_l04Short.calls k a1_0 t156 _ A19.out).mono ?_);rintro e w24 ⟨rfl,hb⟩;refine ⟨_,rfl,?_⟩;replace BK150:=bb_ BK150 hb;replace HB:=hs_ HB hb;(try clear hb);(try clear hb2);(try clear hk);(try clear hi)))
  go_ret
  exact ⟨rt_,hx_⟩
 rw [if_neg c10] at H
 have c10b0 : (a0 == 2) = false:=beq_eq_false_iff_ne.mpr c10
 have c10b1 : (a0 != 2) = true:=bne_iff_ne.mpr c10
 obtain rfl:=Option.some.inj H
 go_enter Try.func62,Try.ntmps62
 go_wp2_with (first|((with_reducible refine gate_dst (N:=3) rfl ?_);refine box_event ?hg (N:=3) ?hd (cs:=#[.string a1_0,.string a1_1,.int .i64 a1_2]) (t:=71) ?hr ?_;(case hd=>rfl);(case hg=>rfl);(case hr=>first|(go_simp;done)|(go_simp;rfl));intro gb150 hg w25 hbox hb;have BK150:=qo.mk (hbox);have GW150:=hl_ (w:=w) hg;have GE150:=hl_ (w:=w) hg;replace HB:=hs_ HB hb;clear hb hbox hg))
 go_ret
 exact ⟨rt_,hx_⟩

end Go.Proofs.Ytcnoccefdejphaa.QFnExactPlaceTree
