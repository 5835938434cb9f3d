/- Lean functions for the Go functions that the law FnExactPageText reaches, and that each Go function comes to just its Lean function's answer; by a program of this session. -/
import Derived.Test.YtcdofljgeiohgaaZFnExactPageTextx0
namespace Go.Proofs.Ytcdofljgeiohgaa.QFnExactPageText
open Go.RowKit Go.Proofs.YtcdofljgeiohgaaW.PrintWords Go.Proofs.YtcdofljgeiohgaaW.PrintLast Go.Proofs.YtcdofljgeiohgaaW.PrintMore
attribute [local go_sem] max2_int min2_int max_two min_two max_three min_three max_four min_four   -- for this text's walks alone
set_option linter.unusedVariables false
set_option linter.unusedSimpArgs false

/-! ### laws_toItem: function 70 -/
def laws_toItem.f (a0_0 : ByteArray) (a0_1 : ByteArray) (a0_2 : Int) : Option (ByteArray × ByteArray × Int):=some (a0_0,a0_1,a0_2)
set_option maxHeartbeats 8000000 in
set_option maxRecDepth 100000 in
theorem laws_toItem.calls (a0_0 : ByteArray) (a0_1 : ByteArray) (a0_2 : Int) (r1 : ByteArray) (r2 : ByteArray) (r3 : Int) (w : World) (h : laws_toItem.f a0_0 a0_1 a0_2 = some (r1,r2,r3)) :
    Calls Try.prog 70 #[.agg #[.string a0_0,.string a0_1,.int .i64 a0_2]] w fun e w'=>e = .returned (.agg #[.string r1,.string r2,.int .i64 r3]) ∧ Below w.heap.size w w':=by
  have hu120:=Try.underlying120
  have hu85:=Try.underlying85
  have HB:=qn.mk (Below.refl w.heap.size w)
  have H : (some (a0_0,a0_1,a0_2)) = some (r1,r2,r3):=h
  clear h
  simp only [Option.some.injEq,Prod.mk.injEq] at H
  obtain ⟨rfl,rfl,rfl⟩:=H
  go_enter Try.func70,Try.ntmps70
  go_wp2_with (first|((with_reducible refine gate_dst (N:=1) rfl ?_);refine box_event ?hg (N:=1) ?hd (cs:=#[.string a0_0,.string a0_1,.int .i64 a0_2]) (t:=120) ?hr ?_;(case hd=>rfl);(case hg=>rfl);(case hr=>first|(go_simp;done)|(go_simp;rfl));intro gb152 hg w2 hbox hb;have n0_:=hs_ HB hb;have n1_:=qn.mk (hbox);have n2_:=qn.mk ((by rw [hg];exact (qj (by repeat (first|(with_reducible first|exact HB.out|apply qf|apply qa|apply qd)|exact HB.out))) : w.heap.size ≤ gb152));have n3_:=qn.mk ((by rw [hg];exact (qj (by repeat (first|(with_reducible first|exact HB.out|apply qf|apply qa|apply qd)|exact HB.out))) : w.heap.size ≤ gb152));clear HB;have HB:=n0_;have BK152:=n1_;have GW152:=n2_;have GE152:=n3_;clear n0_ n1_ n2_ n3_;clear hb hbox hg)|((with_reducible refine gate_dst (N:=2) rfl ?_);refine box_event ?hg (N:=2) ?hd (cs:=#[.string (⟨#[]⟩ : ByteArray),.string (⟨#[]⟩ : ByteArray),.int .i64 0]) (t:=85) ?hr ?_;(case hd=>rfl);(case hg=>rfl);(case hr=>first|(go_simp;done)|(go_simp;rfl));intro gb153 hg w3 hbox hb;have n0_:=bb_ BK152 hb;have n1_:=hs_ HB hb;have n2_:=qn.mk (hbox);have n3_:=qn.mk ((by rw [hg];exact (qj (by repeat (first|(with_reducible first|exact HB.out|apply qf|apply qa|apply qd|refine qg ?_ GE152.out)|exact HB.out))) : w.heap.size ≤ gb153));have n4_:=qn.mk ((by rw [hg];exact (qj (by repeat (first|(with_reducible first|exact HB.out|apply qf|apply qa|apply qd|refine qg ?_ GE152.out)|exact HB.out))) : w.heap.size ≤ gb153));have n5_:=qn.mk ((by rw [hg];exact nl_ BK152 : gb152 ≠ gb153));have n6_:=qn.mk ((by rw [hg];exact ng_ BK152 : gb153 ≠ gb152));clear BK152;clear HB;have BK152:=n0_;have HB:=n1_;have BK153:=n2_;have GW153:=n3_;have GE153:=n4_;have NB152_153:=n5_;have NB153_152:=n6_;clear n0_ n1_ n2_ n3_ n4_ n5_ n6_;clear hb hbox hg)|((with_reducible refine gate_dst (N:=3) rfl ?_);refine box_event ?hg (N:=3) ?hd (cs:=#[.string (⟨#[]⟩ : ByteArray),.string (⟨#[]⟩ : ByteArray),.int .i64 0]) (t:=85) ?hr ?_;(case hd=>rfl);(case hg=>rfl);(case hr=>first|(go_simp;done)|(go_simp;rfl));intro gb154 hg w4 hbox hb;have n0_:=bb_ BK152 hb;have n1_:=bb_ BK153 hb;have n2_:=hs_ HB hb;have n3_:=qn.mk (hbox);have n4_:=qn.mk ((by rw [hg];exact (qj (by repeat (first|(with_reducible first|exact HB.out|apply qf|apply qa|apply qd|refine qg ?_ GE152.out|refine qg ?_ GE153.out)|exact HB.out))) : w.heap.size ≤ gb154));have n5_:=qn.mk ((by rw [hg];exact (qj (by repeat (first|(with_reducible first|exact HB.out|apply qf|apply qa|apply qd|refine qg ?_ GE152.out|refine qg ?_ GE153.out)|exact HB.out))) : w.heap.size ≤ gb154));have n6_:=qn.mk ((by rw [hg];exact nl_ BK152 : gb152 ≠ gb154));have n7_:=qn.mk ((by rw [hg];exact ng_ BK152 : gb154 ≠ gb152));have n8_:=qn.mk ((by rw [hg];exact nl_ BK153 : gb153 ≠ gb154));have n9_:=qn.mk ((by rw [hg];exact ng_ BK153 : gb154 ≠ gb153));clear BK152;clear BK153;clear HB;have BK152:=n0_;have BK153:=n1_;have HB:=n2_;have BK154:=n3_;have GW154:=n4_;have GE154:=n5_;have NB152_154:=n6_;have NB154_152:=n7_;have NB153_154:=n8_;have NB154_153:=n9_;clear n0_ n1_ n2_ n3_ n4_ n5_ n6_ n7_ n8_ n9_;clear hb hbox hg;have hnb5:=NB152_153.out;have hnc5:=NB153_152.out;have hnb6:=NB152_154.out;have hnc6:=NB154_152.out;have hcz7_0 : w4.cell? ⟨gb152,0,none⟩ = some (.string a0_0):=(qh BK152.out 0).trans rfl;have hcz7_1 : w4.cell? ⟨gb152,1,none⟩ = some (.string a0_1):=(qh BK152.out 1).trans rfl;have hcz7_2 : w4.cell? ⟨gb152,2,none⟩ = some (.int .i64 a0_2):=(qh BK152.out 2).trans rfl;have hfz7_0:=qi BK152.out 0;have hfz7_1:=qi BK152.out 1;have hfz7_2:=qi BK152.out 2;have hnb8:=NB154_153.out;have hnc8:=NB153_154.out;have hcz9_0 : w4.cell? ⟨gb154,0,none⟩ = some (.string (⟨#[]⟩ : ByteArray)):=(qh BK154.out 0).trans rfl;have hcz9_1 : w4.cell? ⟨gb154,1,none⟩ = some (.string (⟨#[]⟩ : ByteArray)):=(qh BK154.out 1).trans rfl;have hcz9_2 : w4.cell? ⟨gb154,2,none⟩ = some (.int .i64 0):=(qh BK154.out 2).trans rfl;have hfz9_0:=qi BK154.out 0;have hfz9_1:=qi BK154.out 1;have hfz9_2:=qi BK154.out 2;have hcz10_0 : w4.cell? ⟨gb153,0,none⟩ = some (.string (⟨#[]⟩ : ByteArray)):=(qh BK153.out 0).trans rfl;have hcz10_1 : w4.cell? ⟨gb153,1,none⟩ = some (.string (⟨#[]⟩ : ByteArray)):=(qh BK153.out 1).trans rfl;have hcz10_2 : w4.cell? ⟨gb153,2,none⟩ = some (.int .i64 0):=(qh BK153.out 2).trans rfl;have hfz10_0:=qi BK153.out 0;have hfz10_1:=qi BK153.out 1;have hfz10_2:=qi BK153.out 2))
  refine bodyPost_ret (results_cell_row rfl _ _ gb153 85 #[.string a0_0,.string a0_1,.int .i64 a0_2] (0,0) _ rfl (by (with_reducible repeat (first|refine qb ?_ _|refine qe ?_|refine qc ?_ _));refine blk_put (cs:=#[.string a0_0,.string a0_1,.int .i64 0]) ?_ 2 _ rfl;(with_reducible repeat (first|refine qb ?_ _|refine qe ?_|refine qc ?_ _));refine blk_put (cs:=#[.string a0_0,.string (⟨#[]⟩ : ByteArray),.int .i64 0]) ?_ 1 _ rfl;(with_reducible repeat (first|refine qb ?_ _|refine qe ?_|refine qc ?_ _));refine blk_put (cs:=#[.string (⟨#[]⟩ : ByteArray),.string (⟨#[]⟩ : ByteArray),.int .i64 0]) ?_ 0 _ rfl;(with_reducible repeat (first|refine qb ?_ _|refine qe ?_|refine qc ?_ _));refine blk_far ?_ NB153_154.out _;(with_reducible repeat (first|refine qb ?_ _|refine qe ?_|refine qc ?_ _));refine blk_far ?_ NB153_154.out _;(with_reducible repeat (first|refine qb ?_ _|refine qe ?_|refine qc ?_ _));refine blk_far ?_ NB153_154.out _;(with_reducible repeat (first|refine qb ?_ _|refine qe ?_|refine qc ?_ _));exact BK153.out) Try.underlying85 rfl (by kernel_rfl)) rfl ?_
  exact ⟨by first|rfl|(simp [errW_none,errW_some] <;> rfl)|(simp [*,errW_none,errW_some] <;> rfl),by repeat (first|(with_reducible first|exact HB.out|apply qf|apply qa|apply qd|refine qg ?_ GE152.out|refine qg ?_ GE153.out|refine qg ?_ GE154.out)|exact HB.out)⟩

/-! ### laws_toItemS: function 42 -/
def laws_toItemS.l0 : Nat → List (S120) → List (S85) → Int → Option ((List (S85)))
  | 0,_,_,_=>none
  | k + 1,x0,x3,x4=>if x4 < (x0.length : Int) then (if 0 ≤ x4 then ((laws_toItem.f ((rd_T120 x0 x4).f0) ((rd_T120 x0 x4).f1) ((rd_T120 x0 x4).f2)).bind fun bt159=>(if x4 < (x3.length : Int) then (laws_toItemS.l0 k x0 (x3.set (x4 : Int).toNat (⟨bt159.1,bt159.2.1,bt159.2.2⟩ : S85)) (wrap64 (x4 + 1))) else (none))) else (none)) else (some x3)
def laws_toItemS.f (k : Nat) (l0 : List (S120)) : Option ((List (S85))):=if 0 ≤ (l0.length : Int) then (if ((l0.length : Int) : Int).toNat ≤ 7036874417766 then (laws_toItemS.l0 k l0 (List.replicate ((l0.length : Int) : Int).toNat z85) 0) else (none)) else (none)
theorem laws_toItemS.mono_l : ∀ k,(∀ y0 y1 y2,LeO (laws_toItemS.l0 k y0 y1 y2) (laws_toItemS.l0 (k + 1) y0 y1 y2))
  | 0=>fun _ _ _ r h=>by simp [laws_toItemS.l0] at h
  | k + 1=>by
    have ih0:=laws_toItemS.mono_l k
    · intro y0 y1 y2
      unfold laws_toItemS.l0
      repeat' first
      | (with_reducible exact ih0 _ _ _)
      | (with_reducible exact LeO.refl _)
      | (with_reducible exact LeO.none _)
      | (with_reducible refine LeO.ite ?_ ?_)
      | (with_reducible refine LeO.bind ?_ (fun _=>?_))
      | exact ih0 _ _ _
      | exact LeO.none _
      | refine LeO.ite ?_ ?_
      | refine LeO.bind ?_ (fun _=>?_)
theorem laws_toItemS.mono : ∀ a0 k,LeO (laws_toItemS.f k a0) (laws_toItemS.f (k + 1) a0):=by
  intro a0 k
  have ih0:=laws_toItemS.mono_l k
  unfold laws_toItemS.f
  repeat' first
      | (with_reducible exact ih0 _ _ _)
      | (with_reducible exact LeO.refl _)
      | (with_reducible exact LeO.none _)
      | (with_reducible refine LeO.ite ?_ ?_)
      | (with_reducible refine LeO.bind ?_ (fun _=>?_))
      | exact ih0 _ _ _
      | exact LeO.none _
      | refine LeO.ite ?_ ?_
      | refine LeO.bind ?_ (fun _=>?_)
set_option maxHeartbeats 8000000 in
set_option maxRecDepth 100000 in
theorem laws_toItemS.calls (k : Nat) (A0 : Option Addr) (c0 : Nat) (l0 : List (S120)) (r : List (S85)) (w : World) (hr0 : Kd.C k120 w A0 l0.length l0) (hc0 : l0.length ≤ c0) (h : laws_toItemS.f k l0 = some r) :
    Calls Try.prog 42 #[.slice A0 l0.length c0] w fun e w'=>∃ v0_ : Value,e = .returned (v0_) ∧ Kd.R k85 85 w' w.heap.size (fun _=>True) v0_ r ∧ Below w.heap.size w w':=by
  have hu120:=Try.underlying120
  have hu85:=Try.underlying85
  have HR0:=qn.mk hr0
  have HC0:=qn.mk hc0
  clear hr0 hc0
  have HB:=qn.mk (Below.refl w.heap.size w)
  have H : (if 0 ≤ (l0.length : Int) then (if ((l0.length : Int) : Int).toNat ≤ 7036874417766 then (laws_toItemS.l0 k l0 (List.replicate ((l0.length : Int) : Int).toNat z85) 0) else (none)) else (none)) = some r:=h
  clear h
  by_cases c2 : 0 ≤ (l0.length : Int)
  · rw [if_pos c2] at H
    have c2b0:=eq_true c2
    have c2b1 : decide (0 ≤ (l0.length : Int)) = true:=decide_eq_true c2
    clear c2
    by_cases c3 : ((l0.length : Int) : Int).toNat ≤ 7036874417766
    · rw [if_pos c3] at H
      have c3b0:=eq_true c3
      have c3b1 : decide (((l0.length : Int) : Int).toNat ≤ 7036874417766) = true:=decide_eq_true c3
      clear c3
      obtain ⟨y155,hy155⟩ : ∃ y_ : List (S85),y_ = (List.replicate ((l0.length : Int) : Int).toNat z85):=⟨_,rfl⟩
      replace H : (laws_toItemS.l0 k l0 y155 0) = some r:=by first|(rw [hy155];with_reducible exact H)|(have H2_:=(Option.bind_some _ _).symm.trans H;rw [hy155];with_reducible exact H2_)|(have H2_:=(Option.bind_some _ _).symm.trans H;with_reducible exact H2_)|with_reducible exact H|(rw [hy155];exact H)|exact H
      have Ny155:=qn.mk hy155
      clear hy155
      have H':=qn.mk H
      clear H
      go_enter Try.func42,Try.ntmps42
      go_wp2_with (first|((with_reducible refine gate_dst (N:=7) rfl ?_);refine Kd.R_make k85 _ 85 rfl (N:=7) rfl 44 _ _ rfl (l0.length : Int) rfl rfl Try.underlying44 (.agg #[(.string ⟨#[]⟩),(.string ⟨#[]⟩),(.int .i64 0)]) 40 info85 rfl (by decide) (by omega) z85 (ok:=fun _=>True) (okp:=fun _=>True) (k85_mkM _ _ _ z85 ) (fun _ hk=>hk) trivial (of_decide_eq_true (by first|(with_reducible assumption)|assumption)) (Nat.le_trans (Nat.mul_le_mul_right _ (of_decide_eq_true (by first|(with_reducible assumption)|assumption) : (l0.length : Int).toNat ≤ 7036874417766)) (by omega)) (Below.refl _ _) (Nat.le_refl _) ?_;intro v156 w4 ho5 hb hg_ hnew_;clear hg_ hnew_;(first|rw [← Ny155.out] at ho5|(simp only [Int.reduceToNat] at ho5;rw [← Ny155.out] at ho5));have n0_:=qn.mk (Kd.R_lower ho5 (qj (by repeat (first|(with_reducible first|exact HB.out|apply qf|apply qa|apply qd)|exact HB.out))));have n1_:=hs_ HB hb;clear HB;have HO157:=n0_;have HB:=n1_;clear n0_ n1_;clear hb ho5))
      go_loopg [4] k (fun kq v4 w'=>∃ (x3_1 : List (S85)) (x4_1 : Int),v4 = .int .i64 x4_1 ∧ qn (laws_toItemS.l0 kq l0 x3_1 x4_1 = some r) ∧ qn (kq ≤ k) ∧ qn (Kd.R k85 85 w' w.heap.size (fun _=>True) v156 x3_1) ∧ qn (Below w.heap.size w w'))
      case atStart=>exact ⟨(y155),(0),(by first|rfl|(simp;done)|(simp [*];done)),H',⟨Nat.le_refl _⟩,⟨by (with_reducible repeat (first|apply Kd.R_alloc|apply Kd.R_drewN|apply Kd.R_drew));exact HO157.out⟩,⟨by repeat (first|(with_reducible first|exact HB.out|apply qf|apply qa|apply qd)|exact HB.out)⟩⟩
      case round =>
        clear H'
        try clear c2
        try clear c2b0
        try clear c2b1
        try clear p2
        try clear c3
        try clear c3b0
        try clear c3b1
        try clear c4
        obtain ⟨x3_1,x4_1,rfl,HA,HK1,HO_3,HB⟩:=hrel
        cases gk with
        | zero=>exact absurd HA.out (by simp [laws_toItemS.l0])
        | succ k1 =>
          have H:=HA.out
          clear HA
          simp only [laws_toItemS.l0] at H
          by_cases c6 : x4_1 < (l0.length : Int)
          · rw [if_pos c6] at H
            have c6b0 : decide (x4_1 < (l0.length : Int)) = true:=decide_eq_true c6
            clear c6
            by_cases c7 : 0 ≤ x4_1
            · rw [if_pos c7] at H
              have c7b0 : decide (0 ≤ x4_1) = true:=decide_eq_true c7
              clear c7
              replace H:=Option.bind_eq_some_iff.mp H
              obtain ⟨⟨t159,t160,t161⟩,A80,H⟩:=H
              replace H : (if x4_1 < (x3_1.length : Int) then (laws_toItemS.l0 k1 l0 (x3_1.set (x4_1 : Int).toNat (⟨t159,t160,t161⟩ : S85)) (wrap64 (x4_1 + 1))) else (none)) = some r:=H
              have A8:=qn.mk A80
              clear A80
              by_cases c9 : x4_1 < (x3_1.length : Int)
              · rw [if_pos c9] at H
                have c9b0 : decide (x4_1 < (x3_1.length : Int)) = true:=decide_eq_true c9
                clear c9
                obtain ⟨y162,hy162⟩ : ∃ y_ : List (S85),y_ = (x3_1.set (x4_1 : Int).toNat (⟨t159,t160,t161⟩ : S85)):=⟨_,rfl⟩
                replace H : (laws_toItemS.l0 k1 l0 y162 (wrap64 (x4_1 + 1))) = some r:=by first|(rw [hy162];with_reducible exact H)|(have H2_:=(Option.bind_some _ _).symm.trans H;rw [hy162];with_reducible exact H2_)|(have H2_:=(Option.bind_some _ _).symm.trans H;with_reducible exact H2_)|with_reducible exact H|(rw [hy162];exact H)|exact H
                have Ny162:=qn.mk hy162
                clear hy162
                have H':=qn.mk H
                clear H
                have p158 : 0 ≤ (x4_1 : Int):=of_decide_eq_true (by first|(with_reducible assumption)|assumption)
                have q158 : x4_1 < (l0.length : Int):=of_decide_eq_true (by first|(with_reducible assumption)|assumption)
                obtain ⟨ad158,e158,hx158_0,hx158_1,hx158_2⟩:=at_T120 HR0.out x4_1 p158 q158
                cases e158
                replace hx158_0:=cb_ HB hx158_0
                replace hx158_1:=cb_ HB hx158_1
                replace hx158_2:=cb_ HB hx158_2
                replace p158:=eq_true p158
                replace q158:=eq_true q158
                go_wp2_with (first|((with_reducible refine gate_callee (f:=70) rfl ?_);refine goesL_ (some 20) rfl rfl Try.func70 (by kernel_rfl) rfl #[.agg #[.string ((rd_T120 l0 x4_1).f0),.string ((rd_T120 l0 x4_1).f1),.int .i64 ((rd_T120 l0 x4_1).f2)]] rfl (by (try simp only [List.map_toArray,List.map_cons,List.map_nil]);first|done|rfl|(simp only [List.length_drop,List.length_take];rfl)) ?_;(with_reducible refine (laws_toItem.calls ((rd_T120 l0 x4_1).f0) ((rd_T120 l0 x4_1).f1) ((rd_T120 l0 x4_1).f2) t159 t160 t161 _ A8.out).mono ?_);rintro e w11 ⟨rfl,hb⟩;refine ⟨_,rfl,?_⟩;have n0_:=rb_ HO_3 hb;have n1_:=hs_ HB hb;clear HO_3;clear HB;have HO_3:=n0_;have HB:=n1_;clear n0_ n1_;(try clear hb);(try clear hb2);(try clear hk);(try clear hi);have p10 : 0 ≤ (x4_1 : Int):=of_decide_eq_true (by first|(with_reducible assumption)|assumption);have q10 : (x4_1 : Int) < ((x3_1.length : Int) : Int):=of_decide_eq_true (by first|(with_reducible assumption)|assumption);obtain ⟨go10,co10,eo10,gb10,gl10,cl10,HG10⟩:=Kd.R_form HO_3.out (by omega);(first|cases eo10|(injection eo10 with ea_ en_ ec_;(first|subst ea_|(injection ea_ with ea_;subst ea_));subst ec_;clear en_));have GB10:=qn.mk gb10;have GG10:=qn.mk HG10;clear gb10 gl10 HG10;obtain ⟨ce10,hcl10,hM10,hcc10,hfr10⟩:=Kd.R_elem HO_3.out z85 (x4_1 : Int) p10 q10;obtain rfl:=k85_openM hM10;have hx10_0 : w11.cell? ⟨go10,(x4_1 : Int).toNat * 3,none⟩ = some (.string ((rd_T85 x3_1 x4_1).f0)):=hcc10 0 _ rfl;have hx10_1 : w11.cell? ⟨go10,(x4_1 : Int).toNat * 3 + 1,none⟩ = some (.string ((rd_T85 x3_1 x4_1).f1)):=hcc10 1 _ rfl;have hx10_2 : w11.cell? ⟨go10,(x4_1 : Int).toNat * 3 + 2,none⟩ = some (.int .i64 ((rd_T85 x3_1 x4_1).f2)):=hcc10 2 _ rfl;have hf10_0 : w11.frozen? ⟨go10,(x4_1 : Int).toNat * 3,none⟩ = false:=hfr10 0;have hf10_1 : w11.frozen? ⟨go10,(x4_1 : Int).toNat * 3 + 1,none⟩ = false:=hfr10 1;have hf10_2 : w11.frozen? ⟨go10,(x4_1 : Int).toNat * 3 + 2,none⟩ = false:=hfr10 2;clear hcl10 hcc10 hfr10 hM10;replace p10:=eq_true p10;replace q10:=eq_true q10;have HX12:=qn.mk (show Kd.R k85 85 w11 w.heap.size (fun _=>True) (.slice (some ⟨go10,0,none⟩) x3_1.length co10) x3_1 from (by (with_reducible repeat (first|apply Kd.R_alloc|apply Kd.R_drewN|apply Kd.R_drew));exact HO_3.out));obtain ⟨ce12,hcl12,hM12,hcc12,hfr12⟩:=Kd.R_elem HX12.out z85 (x4_1 : Int) (of_decide_eq_true (by first|(with_reducible assumption)|assumption)) (by have h_ : (x4_1 : Int) < ((x3_1.length : Int) : Int):=of_decide_eq_true (by first|(with_reducible assumption)|assumption);first|exact h_|(have e_:=(Kd.R_reads' HO_3.out).1;omega)|simpa using h_);obtain rfl:=k85_openM hM12;have HP12:=Kd.R_seg HX12.out (x4_1 : Int) (of_decide_eq_true (by first|(with_reducible assumption)|assumption)) (by have h_ : (x4_1 : Int) < ((x3_1.length : Int) : Int):=of_decide_eq_true (by first|(with_reducible assumption)|assumption);first|exact h_|(have e_:=(Kd.R_reads' HO_3.out).1;omega)|simpa using h_) (seg:=[.string t159,.string t160,.int .i64 t161]) (j:=0) hcl12 hcc12 (show 3 ≤ 3 from by decide) (x':=(⟨t159,t160,t161⟩ : S85)) (k85_mkM _ _ _ (⟨t159,t160,t161⟩ : S85) ) (fun _ hk=>hk);have hx12_0:=hcc12 0 _ rfl;(try simp only [show (k85).sz = 3 from rfl,Nat.mul_one,Nat.add_zero] at hx12_0);have hf12_0:=hfr12 0;(try simp only [show (k85).sz = 3 from rfl,Nat.mul_one,Nat.add_zero] at hf12_0);have hx12_1:=hcc12 1 _ rfl;(try simp only [show (k85).sz = 3 from rfl,Nat.mul_one,Nat.add_zero] at hx12_1);have hf12_1:=hfr12 1;(try simp only [show (k85).sz = 3 from rfl,Nat.mul_one,Nat.add_zero] at hf12_1);have hx12_2:=hcc12 2 _ rfl;(try simp only [show (k85).sz = 3 from rfl,Nat.mul_one,Nat.add_zero] at hx12_2);have hf12_2:=hfr12 2;(try simp only [show (k85).sz = 3 from rfl,Nat.mul_one,Nat.add_zero] at hf12_2);clear hcl12 hcc12 hfr12 hM12)|((with_reducible refine gate_store (t:=85) (p:=21) rfl ?_);refine store_event (t:=85) (p:=21) (v:=?vo_w13) (w1:=(((w11.setCell ⟨go10,(x4_1 : Int).toNat * 3,none⟩ (.string t159)).setCell ⟨go10,(x4_1 : Int).toNat * 3 + 1,none⟩ (.string t160)).setCell ⟨go10,(x4_1 : Int).toNat * 3 + 2,none⟩ (.int .i64 t161))) ?hg ?ho ?hn ?hr ?_;(case ho=>rfl);(case hg=>rfl);(case hn=>rfl);(case hr=>first|(go_simp;done)|(go_simp;rfl));intro w13 hw;have hg : w11.grownBy w13 (some go10):=(by rw [hw];exact HP12.2);have hp_ : Kd.R k85 85 w13 w.heap.size (fun _=>True) (.slice (some ⟨go10,0,none⟩) x3_1.length co10) y162:=(by rw [hw,Ny162.out];exact HP12.1);clear HP12;have n0_:=qn.mk (hp_);have n1_:=qn.mk ((by rw [hw];exact qg (qg (qg (HB.out) GB10.out) GB10.out) GB10.out : Below w.heap.size w w13));clear HO_3;clear HB;have HO_3:=n0_;have HB:=n1_;clear n0_ n1_;clear hg hw hp_))
                go_roundg k1
                case measure=>have:=HK1.out;omega
                case rel=>exact ⟨(y162),(wrap64 (x4_1 + 1)),(by first|rfl|(simp;done)|(simp [*];done)),H',⟨by have:=HK1.out;omega⟩,⟨by (with_reducible repeat (first|apply Kd.R_alloc|apply Kd.R_drewN|apply Kd.R_drew));exact HO_3.out⟩,⟨by repeat (first|(with_reducible first|exact HB.out|apply qf|apply qa|apply qd)|exact HB.out)⟩⟩
              · rw [if_neg c9] at H
                exact absurd H (by simp)
            · rw [if_neg c7] at H
              exact absurd H (by simp)
          · rw [if_neg c6] at H
            have c6b0 : decide (x4_1 < (l0.length : Int)) = false:=decide_eq_false c6
            clear c6
            obtain rfl:=Option.some.inj H
            go_wp2
            go_ret
            exact ⟨_,by first|rfl|(simp [errW_none,errW_some] <;> rfl)|(simp [*,errW_none,errW_some] <;> rfl),by (with_reducible repeat (first|apply Kd.R_alloc|apply Kd.R_drewN|apply Kd.R_drew));exact HO_3.out,by repeat (first|(with_reducible first|exact HB.out|apply qf|apply qa|apply qd)|exact HB.out)⟩
    · rw [if_neg c3] at H
      exact absurd H (by simp)
  · rw [if_neg c2] at H
    exact absurd H (by simp)

/-! ### laws_toPage: function 15 -/
def laws_toPage.f (k : Nat) (a0_0 : Int) (l0_1 : List (S120)) : Option (Int × (List (S85))):=(laws_toItemS.f k l0_1).bind fun t166=>(some (a0_0,t166))
theorem laws_toPage.mono : ∀ a0 a1 k,LeO (laws_toPage.f k a0 a1) (laws_toPage.f (k + 1) a0 a1):=by
  intro a0 a1 k
  unfold laws_toPage.f
  repeat' first
      | (with_reducible exact laws_toItemS.mono _ _)
      | (with_reducible exact LeO.refl _)
      | (with_reducible exact LeO.none _)
      | (with_reducible refine LeO.ite ?_ ?_)
      | (with_reducible refine LeO.bind ?_ (fun _=>?_))
      | exact laws_toItemS.mono _ _
      | exact LeO.none _
      | refine LeO.ite ?_ ?_
      | refine LeO.bind ?_ (fun _=>?_)
set_option maxHeartbeats 8000000 in
set_option maxRecDepth 100000 in
theorem laws_toPage.calls (k : Nat) (a0_0 : Int) (A0_1 : Option Addr) (c0_1 : Nat) (l0_1 : List (S120)) (r1 : Int) (r2 : List (S85)) (w : World) (hr0_1 : Kd.C k120 w A0_1 l0_1.length l0_1) (hc0_1 : l0_1.length ≤ c0_1) (h : laws_toPage.f k a0_0 l0_1 = some (r1,r2)) :
    Calls Try.prog 15 #[.agg #[.int .i64 a0_0,.slice A0_1 l0_1.length c0_1]] w fun e w'=>∃ v1_ : Value,e = .returned (.agg #[.int .i64 r1,v1_]) ∧ Kd.R k85 85 w' w.heap.size (fun _=>True) v1_ r2 ∧ Below w.heap.size w w':=by
  have hu41:=Try.underlying41
  have hu46:=Try.underlying46
  have HR0_1:=qn.mk hr0_1
  have HC0_1:=qn.mk hc0_1
  clear hr0_1 hc0_1
  have HB:=qn.mk (Below.refl w.heap.size w)
  have H : ((laws_toItemS.f k l0_1).bind fun t166=>(some (a0_0,t166))) = some (r1,r2):=h
  clear h
  replace H:=Option.bind_eq_some_iff.mp H
  obtain ⟨t166,A20,H⟩:=H
  replace H : (some (a0_0,t166)) = some (r1,r2):=H
  have A2:=qn.mk A20
  clear A20
  simp only [Option.some.injEq,Prod.mk.injEq] at H
  obtain ⟨rfl,rfl⟩:=H
  go_enter Try.func15,Try.ntmps15
  go_wp2_with (first|((with_reducible refine gate_dst (N:=1) rfl ?_);refine box_event ?hg (N:=1) ?hd (cs:=#[.int .i64 a0_0,.slice A0_1 l0_1.length c0_1]) (t:=41) ?hr ?_;(case hd=>rfl);(case hg=>rfl);(case hr=>first|(go_simp;done)|(go_simp;rfl));intro gb163 hg w3 hbox hb;have n0_:=hs_ HB hb;have n1_:=qn.mk (hbox);have n2_:=qn.mk ((by rw [hg];exact (qj (by repeat (first|(with_reducible first|exact HB.out|apply qf|apply qa|apply qd)|exact HB.out))) : w.heap.size ≤ gb163));have n3_:=qn.mk ((by rw [hg];exact (qj (by repeat (first|(with_reducible first|exact HB.out|apply qf|apply qa|apply qd)|exact HB.out))) : w.heap.size ≤ gb163));clear HB;have HB:=n0_;have BK163:=n1_;have GW163:=n2_;have GE163:=n3_;clear n0_ n1_ n2_ n3_;clear hb hbox hg)|((with_reducible refine gate_dst (N:=2) rfl ?_);refine box_event ?hg (N:=2) ?hd (cs:=#[.int .i64 0,.slice none 0 0]) (t:=46) ?hr ?_;(case hd=>rfl);(case hg=>rfl);(case hr=>first|(go_simp;done)|(go_simp;rfl));intro gb164 hg w4 hbox hb;have n0_:=bb_ BK163 hb;have n1_:=hs_ HB hb;have n2_:=qn.mk (hbox);have n3_:=qn.mk ((by rw [hg];exact (qj (by repeat (first|(with_reducible first|exact HB.out|apply qf|apply qa|apply qd|refine qg ?_ GE163.out)|exact HB.out))) : w.heap.size ≤ gb164));have n4_:=qn.mk ((by rw [hg];exact (qj (by repeat (first|(with_reducible first|exact HB.out|apply qf|apply qa|apply qd|refine qg ?_ GE163.out)|exact HB.out))) : w.heap.size ≤ gb164));have n5_:=qn.mk ((by rw [hg];exact nl_ BK163 : gb163 ≠ gb164));have n6_:=qn.mk ((by rw [hg];exact ng_ BK163 : gb164 ≠ gb163));clear BK163;clear HB;have BK163:=n0_;have HB:=n1_;have BK164:=n2_;have GW164:=n3_;have GE164:=n4_;have NB163_164:=n5_;have NB164_163:=n6_;clear n0_ n1_ n2_ n3_ n4_ n5_ n6_;clear hb hbox hg)|((with_reducible refine gate_dst (N:=3) rfl ?_);refine box_event ?hg (N:=3) ?hd (cs:=#[.int .i64 0,.slice none 0 0]) (t:=46) ?hr ?_;(case hd=>rfl);(case hg=>rfl);(case hr=>first|(go_simp;done)|(go_simp;rfl));intro gb165 hg w5 hbox hb;have n0_:=bb_ BK163 hb;have n1_:=bb_ BK164 hb;have n2_:=hs_ HB hb;have n3_:=qn.mk (hbox);have n4_:=qn.mk ((by rw [hg];exact (qj (by repeat (first|(with_reducible first|exact HB.out|apply qf|apply qa|apply qd|refine qg ?_ GE163.out|refine qg ?_ GE164.out)|exact HB.out))) : w.heap.size ≤ gb165));have n5_:=qn.mk ((by rw [hg];exact (qj (by repeat (first|(with_reducible first|exact HB.out|apply qf|apply qa|apply qd|refine qg ?_ GE163.out|refine qg ?_ GE164.out)|exact HB.out))) : w.heap.size ≤ gb165));have n6_:=qn.mk ((by rw [hg];exact nl_ BK163 : gb163 ≠ gb165));have n7_:=qn.mk ((by rw [hg];exact ng_ BK163 : gb165 ≠ gb163));have n8_:=qn.mk ((by rw [hg];exact nl_ BK164 : gb164 ≠ gb165));have n9_:=qn.mk ((by rw [hg];exact ng_ BK164 : gb165 ≠ gb164));clear BK163;clear BK164;clear HB;have BK163:=n0_;have BK164:=n1_;have HB:=n2_;have BK165:=n3_;have GW165:=n4_;have GE165:=n5_;have NB163_165:=n6_;have NB165_163:=n7_;have NB164_165:=n8_;have NB165_164:=n9_;clear n0_ n1_ n2_ n3_ n4_ n5_ n6_ n7_ n8_ n9_;clear hb hbox hg;have hnb6:=NB163_164.out;have hnc6:=NB164_163.out;have hnb7:=NB163_165.out;have hnc7:=NB165_163.out;have hcz8_0 : w5.cell? ⟨gb163,0,none⟩ = some (.int .i64 a0_0):=(qh BK163.out 0).trans rfl;have hcz8_1 : w5.cell? ⟨gb163,1,none⟩ = some (.slice A0_1 l0_1.length c0_1):=(qh BK163.out 1).trans rfl;have hfz8_0:=qi BK163.out 0;have hfz8_1:=qi BK163.out 1;have hnb9:=NB165_164.out;have hnc9:=NB164_165.out;have hcz10_0 : w5.cell? ⟨gb165,0,none⟩ = some (.int .i64 0):=(qh BK165.out 0).trans rfl;have hcz10_1 : w5.cell? ⟨gb165,1,none⟩ = some (.slice none 0 0):=(qh BK165.out 1).trans rfl;have hfz10_0:=qi BK165.out 0;have hfz10_1:=qi BK165.out 1)|((with_reducible refine gate_callee (f:=42) rfl ?_);refine goesL_ (some 9) rfl rfl Try.func42 (by kernel_rfl) rfl #[.slice A0_1 l0_1.length c0_1] rfl (by (try simp only [List.map_toArray,List.map_cons,List.map_nil]);first|done|rfl|(simp only [List.length_drop,List.length_take];rfl)) ?_;(with_reducible refine (laws_toItemS.calls k _ _ l0_1 t166 _ ?side1 ?side2 A2.out).mono ?_);(case side1=>exact Kd.C_below HR0_1.out (by repeat (first|(with_reducible first|exact HB.out|apply qf|apply qa|apply qd|refine qg ?_ GE163.out|refine qg ?_ GE164.out|refine qg ?_ GE165.out)|exact HB.out)));(case side2=>exact HC0_1.out);rintro e w11 ⟨v167,rfl,ho0,hb⟩;refine ⟨_,rfl,?_⟩;have n0_:=qn.mk (Kd.R_lower ho0 (qj (by repeat (first|(with_reducible first|exact HB.out|apply qf|apply qa|apply qd|refine qg ?_ GE163.out|refine qg ?_ GE164.out|refine qg ?_ GE165.out)|exact HB.out))));have n1_:=qn.mk (ql (g:=gb163) (o:=.cells #[.int .i64 a0_0,.slice A0_1 l0_1.length c0_1] 41 (0,0)) (by (with_reducible repeat (first|refine qb ?_ _|refine qe ?_|refine qc ?_ _));refine blk_far ?_ NB163_165.out _;(with_reducible repeat (first|refine qb ?_ _|refine qe ?_|refine qc ?_ _));exact BK163.out) hb);have n2_:=qn.mk (ql (g:=gb164) (o:=.cells #[.int .i64 0,.slice none 0 0] 46 (0,0)) (by (with_reducible repeat (first|refine qb ?_ _|refine qe ?_|refine qc ?_ _));refine blk_far ?_ NB164_165.out _;(with_reducible repeat (first|refine qb ?_ _|refine qe ?_|refine qc ?_ _));exact BK164.out) hb);have n3_:=qn.mk (ql (g:=gb165) (o:=.cells #[.int .i64 a0_0,.slice none 0 0] 46 (0,0)) (by (with_reducible repeat (first|refine qb ?_ _|refine qe ?_|refine qc ?_ _));refine blk_put (cs:=#[.int .i64 0,.slice none 0 0]) ?_ 0 _ rfl;(with_reducible repeat (first|refine qb ?_ _|refine qe ?_|refine qc ?_ _));exact BK165.out) hb);have n4_:=hs_ HB hb;clear BK163;clear BK164;clear BK165;clear HB;have HO168:=n0_;have BK163:=n1_;have BK164:=n2_;have BK165:=n3_;have HB:=n4_;clear n0_ n1_ n2_ n3_ n4_;(try clear hb);(try clear hb2);(try clear hk);(try clear hi);(try clear ho0);obtain ⟨Ao12,co12,eo12⟩:=Kd.R_slice HO168.out;subst eo12;have hcz13_0 : w11.cell? ⟨gb165,0,none⟩ = some (.int .i64 a0_0):=(qh BK165.out 0).trans rfl;have hcz13_1 : w11.cell? ⟨gb165,1,none⟩ = some (.slice none 0 0):=(qh BK165.out 1).trans rfl;have hfz13_0:=qi BK165.out 0;have hfz13_1:=qi BK165.out 1;have hcz14_0 : w11.cell? ⟨gb164,0,none⟩ = some (.int .i64 0):=(qh BK164.out 0).trans rfl;have hcz14_1 : w11.cell? ⟨gb164,1,none⟩ = some (.slice none 0 0):=(qh BK164.out 1).trans rfl;have hfz14_0:=qi BK164.out 0;have hfz14_1:=qi BK164.out 1))
  refine bodyPost_ret (results_cell_row rfl _ _ gb164 46 #[.int .i64 a0_0,.slice Ao12 t166.length co12] (0,0) _ rfl (by (with_reducible repeat (first|refine qb ?_ _|refine qe ?_|refine qc ?_ _));refine blk_put (cs:=#[.int .i64 a0_0,.slice none 0 0]) ?_ 1 _ rfl;(with_reducible repeat (first|refine qb ?_ _|refine qe ?_|refine qc ?_ _));refine blk_put (cs:=#[.int .i64 0,.slice none 0 0]) ?_ 0 _ rfl;(with_reducible repeat (first|refine qb ?_ _|refine qe ?_|refine qc ?_ _));refine blk_far ?_ NB164_165.out _;(with_reducible repeat (first|refine qb ?_ _|refine qe ?_|refine qc ?_ _));exact BK164.out) Try.underlying46 rfl (by kernel_rfl)) rfl ?_
  exact ⟨_,by first|rfl|(simp [errW_none,errW_some] <;> rfl)|(simp [*,errW_none,errW_some] <;> rfl),by (with_reducible repeat (first|apply Kd.R_alloc|apply Kd.R_drewN|apply Kd.R_drew));exact Kd.R_mono (Kd.R_far (p:=⟨gb164,1,none⟩) (Kd.R_far (p:=⟨gb164,0,none⟩) (Kd.R_far (p:=⟨gb165,1,none⟩) (Kd.R_types (Kd.R_types HO168.out BK165.out (by decide)) BK164.out (by decide)) (fun _ hk=>hk.1.2) (.slice Ao12 t166.length co12)) (fun _ hk=>hk.2) (.int .i64 a0_0)) (fun _ hk=>hk.2) (.slice Ao12 t166.length co12)) (fun _ hk=>trivial),by repeat (first|(with_reducible first|exact HB.out|apply qf|apply qa|apply qd|refine qg ?_ GE163.out|refine qg ?_ GE164.out|refine qg ?_ GE165.out)|exact HB.out)⟩

/-! ### impl_SumMore: function 82 -/
mutual
def impl_SumMore.l0 : Nat → Int → ByteArray → Int → Int → Option (Int)
  | 0,_,_,_,_=>none
  | k + 1,x0,x1,x8,x9=>if x9 < x8 then (if 0 ≤ x9 then (if x9 < (x1.size : Int) then (impl_SumMore.l1 k (Go.bits .xor .u32 x0 ((bt x1 x9) % 4294967296)) x1 x8 x9 0) else (none)) else (none)) else (some x0)
def impl_SumMore.l1 : Nat → Int → ByteArray → Int → Int → Int → Option (Int)
  | 0,_,_,_,_,_=>none
  | k + 1,x0,x1,x8,x9,x18=>if x18 < 8 then (if (Go.bits .and .u32 x0 1) = 1 then (impl_SumMore.l1 k (Go.bits .xor .u32 (x0 / 2) 3558460437) x1 x8 x9 (wrap64 (x18 + 1))) else (impl_SumMore.l1 k (x0 / 2) x1 x8 x9 (wrap64 (x18 + 1)))) else (impl_SumMore.l0 k x0 x1 x8 (wrap64 (x9 + 1)))
end
def impl_SumMore.f (k : Nat) (a0 : Int) (a1 : ByteArray) : Option (Int):=impl_SumMore.l0 k a0 a1 (a1.size : Int) 0
theorem impl_SumMore.mono_l : ∀ k,(∀ y0 y1 y2 y3,LeO (impl_SumMore.l0 k y0 y1 y2 y3) (impl_SumMore.l0 (k + 1) y0 y1 y2 y3)) ∧ (∀ y0 y1 y2 y3 y4,LeO (impl_SumMore.l1 k y0 y1 y2 y3 y4) (impl_SumMore.l1 (k + 1) y0 y1 y2 y3 y4))
  | 0=>⟨fun _ _ _ _ r h=>by simp [impl_SumMore.l0] at h,fun _ _ _ _ _ r h=>by simp [impl_SumMore.l1] at h⟩
  | k + 1=>by
    obtain ⟨ih0,ih1⟩:=impl_SumMore.mono_l k
    refine ⟨?_,?_⟩
    · intro y0 y1 y2 y3
      unfold impl_SumMore.l0
      repeat' first
      | (with_reducible exact ih0 _ _ _ _)
      | (with_reducible exact ih1 _ _ _ _ _)
      | (with_reducible exact LeO.refl _)
      | (with_reducible exact LeO.none _)
      | (with_reducible refine LeO.ite ?_ ?_)
      | (with_reducible refine LeO.bind ?_ (fun _=>?_))
      | exact ih0 _ _ _ _
      | exact ih1 _ _ _ _ _
      | exact LeO.none _
      | refine LeO.ite ?_ ?_
      | refine LeO.bind ?_ (fun _=>?_)
    · intro y0 y1 y2 y3 y4
      unfold impl_SumMore.l1
      repeat' first
      | (with_reducible exact ih0 _ _ _ _)
      | (with_reducible exact ih1 _ _ _ _ _)
      | (with_reducible exact LeO.refl _)
      | (with_reducible exact LeO.none _)
      | (with_reducible refine LeO.ite ?_ ?_)
      | (with_reducible refine LeO.bind ?_ (fun _=>?_))
      | exact ih0 _ _ _ _
      | exact ih1 _ _ _ _ _
      | exact LeO.none _
      | refine LeO.ite ?_ ?_
      | refine LeO.bind ?_ (fun _=>?_)
theorem impl_SumMore.mono : ∀ a0 a1 k,LeO (impl_SumMore.f k a0 a1) (impl_SumMore.f (k + 1) a0 a1):=by
  intro a0 a1 k
  obtain ⟨ih0,ih1⟩:=impl_SumMore.mono_l k
  unfold impl_SumMore.f
  repeat' first
      | (with_reducible exact ih0 _ _ _ _)
      | (with_reducible exact ih1 _ _ _ _ _)
      | (with_reducible exact LeO.refl _)
      | (with_reducible exact LeO.none _)
      | (with_reducible refine LeO.ite ?_ ?_)
      | (with_reducible refine LeO.bind ?_ (fun _=>?_))
      | exact ih0 _ _ _ _
      | exact ih1 _ _ _ _ _
      | exact LeO.none _
      | refine LeO.ite ?_ ?_
      | refine LeO.bind ?_ (fun _=>?_)
set_option maxHeartbeats 8000000 in
set_option maxRecDepth 100000 in
theorem impl_SumMore.calls (k : Nat) (a0 : Int) (a1 : ByteArray) (r : Int) (w : World) (h : impl_SumMore.f k a0 a1 = some r) :
    Calls Try.prog 82 #[.int .u32 a0,.string a1] w fun e w'=>e = .returned (.int .u32 r) ∧ Drawn0 w w':=by
  have H : (impl_SumMore.l0 k a0 a1 (a1.size : Int) 0) = some r:=h
  clear h
  have H':=qn.mk H
  clear H
  go_enter Try.func82,Try.ntmps82
  go_wp2
  go_loopg [0,9] k (fun kq v0 v9 w'=>∃ (x0_1 : Int) (x9_1 : Int),v0 = .int .u32 x0_1 ∧ v9 = .int .i64 x9_1 ∧ qn (impl_SumMore.l0 kq x0_1 a1 (a1.size : Int) x9_1 = some r) ∧ qn (kq ≤ k) ∧ Drawn0 w w')
  case atStart=>exact ⟨(a0),(0),(by first|rfl|(simp;done)|(simp [*];done)),(by first|rfl|(simp;done)|(simp [*];done)),H',⟨Nat.le_refl _⟩,by repeat (first|exact Drawn0.refl _|apply Drawn0.step)⟩
  case round =>
    clear H'
    try clear p2
    obtain ⟨x0_1,x9_1,rfl,rfl,HA,HK1,⟨m1,rfl⟩⟩:=hrel
    cases gk with
    | zero=>exact absurd HA.out (by simp [impl_SumMore.l0])
    | succ k1 =>
      have H:=HA.out
      clear HA
      simp only [impl_SumMore.l0] at H
      by_cases c3 : x9_1 < (a1.size : Int)
      · rw [if_pos c3] at H
        have c3b0 : decide (x9_1 < (a1.size : Int)) = true:=decide_eq_true c3
        clear c3
        by_cases c4 : 0 ≤ x9_1
        · rw [if_pos c4] at H
          have c4b0 : decide (0 ≤ x9_1) = true:=decide_eq_true c4
          clear c4
          by_cases c5 : x9_1 < (a1.size : Int)
          · rw [if_pos c5] at H
            have c5b0 : decide (x9_1 < (a1.size : Int)) = true:=decide_eq_true c5
            clear c5
            have H':=qn.mk H
            clear H
            have p6 : 0 ≤ (x9_1 : Int):=of_decide_eq_true (by first|(with_reducible assumption)|assumption)
            have q6 : x9_1 < (a1.size : Int):=of_decide_eq_true (by first|(with_reducible assumption)|assumption)
            have hx6:=bt_at a1 x9_1
            replace p6:=eq_true p6
            replace q6:=eq_true q6
            go_wp2
            go_loopg [0,18] k1 (fun kq v0 v18 w'=>∃ (x0_2 : Int) (x18_2 : Int),v0 = .int .u32 x0_2 ∧ v18 = .int .i64 x18_2 ∧ qn (impl_SumMore.l1 kq x0_2 a1 (a1.size : Int) x9_1 x18_2 = some r) ∧ qn (kq ≤ k1) ∧ Drawn0 w w')
            case atStart=>exact ⟨(Go.bits .xor .u32 x0_1 ((bt a1 x9_1) % 4294967296)),(0),(by first|rfl|(simp;done)|(simp [*];done)),(by first|rfl|(simp;done)|(simp [*];done)),H',⟨Nat.le_refl _⟩,by repeat (first|exact Drawn0.refl _|apply Drawn0.step)⟩
            case round =>
              clear H'
              try clear p2
              try clear c3
              try clear c3b0
              try clear c4
              try clear c4b0
              try clear c5
              try clear c5b0
              try clear p6
              try clear q6
              try clear hx6
              try clear p2
              try clear p6
              try clear q6
              obtain ⟨x0_2,x18_2,rfl,rfl,HA,HK2,⟨m2,rfl⟩⟩:=hrel
              cases gk with
              | zero=>exact absurd HA.out (by simp [impl_SumMore.l1])
              | succ k2 =>
                have H:=HA.out
                clear HA
                simp only [impl_SumMore.l1] at H
                by_cases c7 : x18_2 < 8
                · rw [if_pos c7] at H
                  have c7b0 : decide (x18_2 < 8) = true:=decide_eq_true c7
                  clear c7
                  by_cases c8 : (Go.bits .and .u32 x0_2 1) = 1
                  · rw [if_pos c8] at H
                    have c8b0 : ((Go.bits .and .u32 x0_2 1) == 1) = true:=beq_iff_eq.mpr c8
                    have c8b1 : ((Go.bits .and .u32 x0_2 1) != 1) = false:=bne_eq_false_iff_eq.mpr c8
                    clear c8
                    have H':=qn.mk H
                    clear H
                    go_wp2
                    go_roundg k2
                    case measure=>have:=HK1.out;have:=HK2.out;omega
                    case rel=>exact ⟨(Go.bits .xor .u32 (x0_2 / 2) 3558460437),(wrap64 (x18_2 + 1)),(by first|rfl|(simp;done)|(simp [*];done)),(by first|rfl|(simp;done)|(simp [*];done)),H',⟨by have:=HK1.out;have:=HK2.out;omega⟩,by repeat (first|exact Drawn0.refl _|apply Drawn0.step)⟩
                  · rw [if_neg c8] at H
                    have c8b0 : ((Go.bits .and .u32 x0_2 1) == 1) = false:=beq_eq_false_iff_ne.mpr c8
                    have c8b1 : ((Go.bits .and .u32 x0_2 1) != 1) = true:=bne_iff_ne.mpr c8
                    have H':=qn.mk H
                    clear H
                    go_wp2
                    go_roundg k2
                    case measure=>have:=HK1.out;have:=HK2.out;omega
                    case rel=>exact ⟨(x0_2 / 2),(wrap64 (x18_2 + 1)),(by first|rfl|(simp;done)|(simp [*];done)),(by first|rfl|(simp;done)|(simp [*];done)),H',⟨by have:=HK1.out;have:=HK2.out;omega⟩,by repeat (first|exact Drawn0.refl _|apply Drawn0.step)⟩
                · rw [if_neg c7] at H
                  have c7b0 : decide (x18_2 < 8) = false:=decide_eq_false c7
                  clear c7
                  have H':=qn.mk H
                  clear H
                  go_wp2
                  go_roundg k2
                  case measure=>have:=HK1.out;have:=HK2.out;omega
                  case rel=>exact ⟨(x0_2),(wrap64 (x9_1 + 1)),(by first|rfl|(simp;done)|(simp [*];done)),(by first|rfl|(simp;done)|(simp [*];done)),H',⟨by have:=HK1.out;have:=HK2.out;omega⟩,by repeat (first|exact Drawn0.refl _|apply Drawn0.step)⟩
          · rw [if_neg c5] at H
            exact absurd H (by simp)
        · rw [if_neg c4] at H
          exact absurd H (by simp)
      · rw [if_neg c3] at H
        have c3b0 : decide (x9_1 < (a1.size : Int)) = false:=decide_eq_false c3
        clear c3
        obtain rfl:=Option.some.inj H
        go_wp2
        go_ret
        exact ⟨by first|rfl|(simp;done)|(simp [*];done),by repeat (first|exact Drawn0.refl _|apply Drawn0.step)⟩

/-! ### impl_SumOf: function 65 -/
def impl_SumOf.f (k : Nat) (a0 : ByteArray) : Option (Int):=(impl_SumMore.f k 4294967295 a0).bind fun t169=>(some t169)
theorem impl_SumOf.mono : ∀ a0 k,LeO (impl_SumOf.f k a0) (impl_SumOf.f (k + 1) a0):=by
  intro a0 k
  unfold impl_SumOf.f
  repeat' first
      | (with_reducible exact impl_SumMore.mono _ _ _)
      | (with_reducible exact LeO.refl _)
      | (with_reducible exact LeO.none _)
      | (with_reducible refine LeO.ite ?_ ?_)
      | (with_reducible refine LeO.bind ?_ (fun _=>?_))
      | exact impl_SumMore.mono _ _ _
      | exact LeO.none _
      | refine LeO.ite ?_ ?_
      | refine LeO.bind ?_ (fun _=>?_)
set_option maxHeartbeats 8000000 in
set_option maxRecDepth 100000 in
theorem impl_SumOf.calls (k : Nat) (a0 : ByteArray) (r : Int) (w : World) (h : impl_SumOf.f k a0 = some r) :
    Calls Try.prog 65 #[.string a0] w fun e w'=>e = .returned (.int .u32 r) ∧ Drawn0 w w':=by
  have H : ((impl_SumMore.f k 4294967295 a0).bind fun t169=>(some t169)) = some r:=h
  clear h
  replace H:=Option.bind_eq_some_iff.mp H
  obtain ⟨t169,A20,H⟩:=H
  replace H : (some t169) = some r:=H
  have A2:=qn.mk A20
  clear A20
  obtain rfl:=Option.some.inj H
  go_enter Try.func65,Try.ntmps65
  go_wp2_with (first|((with_reducible refine gate_callee (f:=82) rfl ?_);refine goesL_ (some 4) rfl rfl Try.func82 (by kernel_rfl) rfl #[.int .u32 4294967295,.string a0] rfl (by (try simp only [List.map_toArray,List.map_cons,List.map_nil]);first|done|rfl|(simp only [List.length_drop,List.length_take];rfl)) ?_;(with_reducible refine (impl_SumMore.calls k 4294967295 a0 t169 _ A2.out).mono ?_);rintro e w' ⟨rfl,⟨nd,rfl⟩⟩;refine ⟨_,rfl,?_⟩))
  go_ret
  exact ⟨by first|rfl|(simp;done)|(simp [*];done),by repeat (first|exact Drawn0.refl _|apply Drawn0.step)⟩

/-! ### impl_Sealed: function 29 -/
def impl_Sealed.f (k : Nat) (a0 : ByteArray) : Option (ByteArray × Bool):=if (a0.size : Int) > 8000 then (some ((⟨#[]⟩ : ByteArray),false)) else ((impl_SumOf.f k a0).bind fun t170=>((some (([(t170 / 16777216) % 256,(t170 / 65536) % 256,(t170 / 256) % 256,(t170) % 256] : List Int) : List Int)).bind fun y171=>(if a0.size + (strOfNums y171).size ≤ 9223372036854775807 then (some (a0 ++ (strOfNums y171),true)) else (none))))
theorem impl_Sealed.mono : ∀ a0 k,LeO (impl_Sealed.f k a0) (impl_Sealed.f (k + 1) a0):=by
  intro a0 k
  unfold impl_Sealed.f
  repeat' first
      | (with_reducible exact impl_SumOf.mono _ _)
      | (with_reducible exact LeO.refl _)
      | (with_reducible exact LeO.none _)
      | (with_reducible refine LeO.ite ?_ ?_)
      | (with_reducible refine LeO.bind ?_ (fun _=>?_))
      | exact impl_SumOf.mono _ _
      | exact LeO.none _
      | refine LeO.ite ?_ ?_
      | refine LeO.bind ?_ (fun _=>?_)
set_option maxHeartbeats 8000000 in
set_option maxRecDepth 100000 in
theorem impl_Sealed.calls (k : Nat) (a0 : ByteArray) (r1 : ByteArray) (r2 : Bool) (w : World) (h : impl_Sealed.f k a0 = some (r1,r2)) :
    Calls Try.prog 29 #[.string a0] w fun e w'=>e = .returned (.tuple #[.string r1,.bool r2]) ∧ Below w.heap.size w w':=by
  have HB:=qn.mk (Below.refl w.heap.size w)
  have H : (if (a0.size : Int) > 8000 then (some ((⟨#[]⟩ : ByteArray),false)) else ((impl_SumOf.f k a0).bind fun t170=>((some (([(t170 / 16777216) % 256,(t170 / 65536) % 256,(t170 / 256) % 256,(t170) % 256] : List Int) : List Int)).bind fun y171=>(if a0.size + (strOfNums y171).size ≤ 9223372036854775807 then (some (a0 ++ (strOfNums y171),true)) else (none))))) = some (r1,r2):=h
  clear h
  by_cases c2 : (a0.size : Int) > 8000
  · rw [if_pos c2] at H
    have c2b0 : decide (8000 < (a0.size : Int)) = true:=decide_eq_true c2
    have c2b1 : decide (8000 < a0.size) = true:=decide_eq_true (by omega)
    clear c2
    simp only [Option.some.injEq,Prod.mk.injEq] at H
    obtain ⟨rfl,rfl⟩:=H
    go_enter Try.func29,Try.ntmps29
    go_wp2
    go_ret2
    exact ⟨by first|rfl|(simp [errW_none,errW_some] <;> rfl)|(simp [*,errW_none,errW_some] <;> rfl),by repeat (first|(with_reducible first|exact HB.out|apply qf|apply qa|apply qd)|exact HB.out)⟩
  · rw [if_neg c2] at H
    have c2b0 : decide (8000 < (a0.size : Int)) = false:=decide_eq_false c2
    have c2b1 : decide (8000 < a0.size) = false:=decide_eq_false (by omega)
    clear c2
    replace H:=Option.bind_eq_some_iff.mp H
    obtain ⟨t170,A30,H⟩:=H
    replace H : ((some (([(t170 / 16777216) % 256,(t170 / 65536) % 256,(t170 / 256) % 256,(t170) % 256] : List Int) : List Int)).bind fun y171=>(if a0.size + (strOfNums y171).size ≤ 9223372036854775807 then (some (a0 ++ (strOfNums y171),true)) else (none))) = some (r1,r2):=H
    have A3:=qn.mk A30
    clear A30
    obtain ⟨y171,hy171⟩ : ∃ y_ : List Int,y_ = (([(t170 / 16777216) % 256,(t170 / 65536) % 256,(t170 / 256) % 256,(t170) % 256] : List Int)):=⟨_,rfl⟩
    replace H : (if a0.size + (strOfNums y171).size ≤ 9223372036854775807 then (some (a0 ++ (strOfNums y171),true)) else (none)) = some (r1,r2):=by first|(rw [hy171];with_reducible exact H)|(have H2_:=(Option.bind_some _ _).symm.trans H;rw [hy171];with_reducible exact H2_)|(have H2_:=(Option.bind_some _ _).symm.trans H;with_reducible exact H2_)|with_reducible exact H|(rw [hy171];exact H)|exact H
    have Ny171:=qn.mk hy171
    clear hy171
    by_cases c4 : a0.size + (strOfNums y171).size ≤ 9223372036854775807
    · rw [if_pos c4] at H
      have c4b0:=eq_true c4
      have c4b1 : decide (a0.size + (strOfNums y171).size ≤ 9223372036854775807) = true:=decide_eq_true c4
      try have c4b2 : (9223372036854775807 < a0.size + (strOfNums y171).size) = False:=eq_false (Nat.not_lt.2 c4)
      simp only [Option.some.injEq,Prod.mk.injEq] at H
      obtain ⟨rfl,rfl⟩:=H
      go_enter Try.func29,Try.ntmps29
      go_wp2_with (first|((with_reducible refine gate_callee (f:=65) rfl ?_);refine goesL_ (some 9) rfl rfl Try.func65 (by kernel_rfl) rfl #[.string a0] rfl (by (try simp only [List.map_toArray,List.map_cons,List.map_nil]);first|done|rfl|(simp only [List.length_drop,List.length_take];rfl)) ?_;(with_reducible refine (impl_SumOf.calls k a0 t170 _ A3.out).mono ?_);rintro e w' ⟨rfl,⟨nd,rfl⟩⟩;refine ⟨_,rfl,?_⟩)|((with_reducible refine gate_dst (N:=22) rfl ?_);refine Kd.R_lit (Kd.int .u8) _ 5 ?hg (N:=22) ?hd (xs:=([(t170 / 16777216) % 256,(t170 / 65536) % 256,(t170 / 256) % 256,(t170) % 256] : List Int)) (inner:=[.int .u8 ((t170 / 16777216) % 256),.int .u8 ((t170 / 65536) % 256),.int .u8 ((t170 / 256) % 256),.int .u8 ((t170) % 256)]) (ok:=fun _=>True) (okp:=fun _=>True) ?hr ?hp (fun _ hk=>hk) trivial (Below.refl _ _) (Nat.le_refl _) (by simp) ?_;(case hd=>rfl);(case hg=>rfl);(case hr=>first|(go_simp;done)|(go_simp;rfl));(case hp=>exact (Reps.one (show Kd.M (Kd.int .u8) _ _ _ ((t170 / 16777216) % 256) [.int .u8 ((t170 / 16777216) % 256)] from rfl) (Reps.one (show Kd.M (Kd.int .u8) _ _ _ ((t170 / 65536) % 256) [.int .u8 ((t170 / 65536) % 256)] from rfl) (Reps.one (show Kd.M (Kd.int .u8) _ _ _ ((t170 / 256) % 256) [.int .u8 ((t170 / 256) % 256)] from rfl) (Reps.one (show Kd.M (Kd.int .u8) _ _ _ ((t170) % 256) [.int .u8 ((t170) % 256)] from rfl) (Reps.none _ _))))));intro v172 w5 ho6 hb hg_ hnew_;clear hg_ hnew_;(first|rw [← Ny171.out] at ho6|(simp only [Int.reduceToNat] at ho6;rw [← Ny171.out] at ho6));have n0_:=qn.mk (Kd.R_lower ho6 (qj (by repeat (first|(with_reducible first|exact HB.out|apply qf|apply qa|apply qd)|exact HB.out))));have n1_:=hs_ HB hb;clear HB;have HO173:=n0_;have HB:=n1_;clear n0_ n1_;clear hb ho6;have hcv7:=own_string (P:=Try.prog) Try.underlying22 Try.underlying5 Try.underlying9 (Kd.own_of_R HO173.out)))
      go_ret2
      exact ⟨by first|rfl|(simp [errW_none,errW_some] <;> rfl)|(simp [*,errW_none,errW_some] <;> rfl),by repeat (first|(with_reducible first|exact HB.out|apply qf|apply qa|apply qd)|exact HB.out)⟩
    · rw [if_neg c4] at H
      exact absurd H (by simp)

/-! ### impl_in: function 28 -/
def impl_in.f (a0 : Int) (a1 : Int) (a2 : Int) : Option (Bool):=if a0 ≥ a1 then (some (decide (a0 ≤ a2))) else (some false)
set_option maxHeartbeats 8000000 in
set_option maxRecDepth 100000 in
theorem impl_in.calls (a0 : Int) (a1 : Int) (a2 : Int) (r : Bool) (w : World) (h : impl_in.f a0 a1 a2 = some r) :
    Calls Try.prog 28 #[.int .i64 a0,.int .i64 a1,.int .i64 a2] w fun e w'=>e = .returned (.bool r) ∧ Drawn0 w w':=by
  have H : (if a0 ≥ a1 then (some (decide (a0 ≤ a2))) else (some false)) = some r:=h
  clear h
  by_cases c4 : a0 ≥ a1
  · rw [if_pos c4] at H
    have c4b0 : decide (a1 ≤ a0) = true:=decide_eq_true c4
    clear c4
    obtain rfl:=Option.some.inj H
    go_enter Try.func28,Try.ntmps28
    go_wp2
    go_ret
    exact ⟨by first|rfl|(simp;done)|(simp [*];done),by repeat (first|exact Drawn0.refl _|apply Drawn0.step)⟩
  · rw [if_neg c4] at H
    have c4b0 : decide (a1 ≤ a0) = false:=decide_eq_false c4
    clear c4
    obtain rfl:=Option.some.inj H
    go_enter Try.func28,Try.ntmps28
    go_wp2
    go_ret
    exact ⟨by first|rfl|(simp;done)|(simp [*];done),by repeat (first|exact Drawn0.refl _|apply Drawn0.step)⟩

/-! ### impl_VarText: function 43 -/
def impl_VarText.l0 : Nat → Int → List Int → Option (ByteArray × Bool)
  | 0,_,_=>none
  | k + 1,x0,x4=>if x0 > 127 then (if x4.length < 140737488355328 then (impl_VarText.l0 k (wrap64 (Int.tdiv x0 128)) (x4 ++ [(wrap64 ((Int.tmod x0 128) + 128)) % 256])) else (none)) else (if x4.length < 140737488355328 then (some (strOfNums (x4 ++ [(x0) % 256]),true)) else (none))
def impl_VarText.f (k : Nat) (a0 : Int) : Option (ByteArray × Bool):=(impl_in.f a0 0 1000000000).bind fun t174=>(if t174 = true then (impl_VarText.l0 k a0 ([] : List Int)) else (some ((⟨#[]⟩ : ByteArray),false)))
theorem impl_VarText.mono_l : ∀ k,(∀ y0 y1,LeO (impl_VarText.l0 k y0 y1) (impl_VarText.l0 (k + 1) y0 y1))
  | 0=>fun _ _ r h=>by simp [impl_VarText.l0] at h
  | k + 1=>by
    have ih0:=impl_VarText.mono_l k
    · intro y0 y1
      unfold impl_VarText.l0
      repeat' first
      | (with_reducible exact ih0 _ _)
      | (with_reducible exact LeO.refl _)
      | (with_reducible exact LeO.none _)
      | (with_reducible refine LeO.ite ?_ ?_)
      | (with_reducible refine LeO.bind ?_ (fun _=>?_))
      | exact ih0 _ _
      | exact LeO.none _
      | refine LeO.ite ?_ ?_
      | refine LeO.bind ?_ (fun _=>?_)
theorem impl_VarText.mono : ∀ a0 k,LeO (impl_VarText.f k a0) (impl_VarText.f (k + 1) a0):=by
  intro a0 k
  have ih0:=impl_VarText.mono_l k
  unfold impl_VarText.f
  repeat' first
      | (with_reducible exact ih0 _ _)
      | (with_reducible exact LeO.refl _)
      | (with_reducible exact LeO.none _)
      | (with_reducible refine LeO.ite ?_ ?_)
      | (with_reducible refine LeO.bind ?_ (fun _=>?_))
      | exact ih0 _ _
      | exact LeO.none _
      | refine LeO.ite ?_ ?_
      | refine LeO.bind ?_ (fun _=>?_)
set_option maxHeartbeats 8000000 in
set_option maxRecDepth 100000 in
theorem impl_VarText.calls (k : Nat) (a0 : Int) (r1 : ByteArray) (r2 : Bool) (w : World) (h : impl_VarText.f k a0 = some (r1,r2)) :
    Calls Try.prog 43 #[.int .i64 a0] w fun e w'=>e = .returned (.tuple #[.string r1,.bool r2]) ∧ Below w.heap.size w w':=by
  have HB:=qn.mk (Below.refl w.heap.size w)
  have H : ((impl_in.f a0 0 1000000000).bind fun t174=>(if t174 = true then (impl_VarText.l0 k a0 ([] : List Int)) else (some ((⟨#[]⟩ : ByteArray),false)))) = some (r1,r2):=h
  clear h
  replace H:=Option.bind_eq_some_iff.mp H
  obtain ⟨t174,A20,H⟩:=H
  replace H : (if t174 = true then (impl_VarText.l0 k a0 ([] : List Int)) else (some ((⟨#[]⟩ : ByteArray),false))) = some (r1,r2):=H
  have A2:=qn.mk A20
  clear A20
  by_cases c3 : t174 = true
  · subst c3
    have H1 : (impl_VarText.l0 k a0 ([] : List Int)) = some (r1,r2):=by rw [if_pos rfl] at H;exact H
    clear H
    have H:=H1
    clear H1
    have H':=qn.mk H
    clear H
    go_enter Try.func43,Try.ntmps43
    go_wp2_with (first|((with_reducible refine gate_callee (f:=28) rfl ?_);refine goesL_ (some 6) rfl rfl Try.func28 (by kernel_rfl) rfl #[.int .i64 a0,.int .i64 0,.int .i64 1000000000] rfl (by (try simp only [List.map_toArray,List.map_cons,List.map_nil]);first|done|rfl|(simp only [List.length_drop,List.length_take];rfl)) ?_;(with_reducible refine (impl_in.calls a0 0 1000000000 true _ A2.out).mono ?_);rintro e w' ⟨rfl,⟨nd,rfl⟩⟩;refine ⟨_,rfl,?_⟩))
    go_loopg [0,4] k (fun kq v0 v4 w'=>∃ (x0_1 : Int) (x4_1 : List Int),v0 = .int .i64 x0_1 ∧ qn (impl_VarText.l0 kq x0_1 x4_1 = some (r1,r2)) ∧ qn (kq ≤ k) ∧ qn (Kd.R (Kd.int .u8) 5 w' w.heap.size (fun _=>True) v4 x4_1) ∧ qn (Below w.heap.size w w'))
    case atStart=>exact ⟨(a0),(([] : List Int)),(by first|rfl|(simp;done)|(simp [*];done)),H',⟨Nat.le_refl _⟩,⟨by first|exact Kd.R_nil _ _ _ _ _|exact Kd.N_nil _ _ _ _ _|exact Kd.V_nil _ _ _ _ _|exact Kd.Q_nil _ _ _ _ _|exact Kd.S_nil _ _ _ _ _⟩,⟨by repeat (first|(with_reducible first|exact HB.out|apply qf|apply qa|apply qd)|exact HB.out)⟩⟩
    case round =>
      clear H'
      try clear c2
      try clear p2
      try clear c3
      obtain ⟨x0_1,x4_1,rfl,HA,HK1,HO_4,HB⟩:=hrel
      cases gk with
      | zero=>exact absurd HA.out (by simp [impl_VarText.l0])
      | succ k1 =>
        have H:=HA.out
        clear HA
        simp only [impl_VarText.l0] at H
        by_cases c4 : x0_1 > 127
        · rw [if_pos c4] at H
          have c4b0 : decide (127 < x0_1) = true:=decide_eq_true c4
          clear c4
          by_cases c5 : x4_1.length < 140737488355328
          · rw [if_pos c5] at H
            have LMc5:=qn.mk c5
            clear c5
            obtain ⟨y175,hy175⟩ : ∃ y_ : List Int,y_ = (x4_1 ++ [(wrap64 ((Int.tmod x0_1 128) + 128)) % 256]):=⟨_,rfl⟩
            replace H : (impl_VarText.l0 k1 (wrap64 (Int.tdiv x0_1 128)) y175) = some (r1,r2):=by first|(rw [hy175];with_reducible exact H)|(have H2_:=(Option.bind_some _ _).symm.trans H;rw [hy175];with_reducible exact H2_)|(have H2_:=(Option.bind_some _ _).symm.trans H;with_reducible exact H2_)|with_reducible exact H|(rw [hy175];exact H)|exact H
            have Ny175:=qn.mk hy175
            clear hy175
            have H':=qn.mk H
            clear H
            go_wp2_with (first|((with_reducible refine gate_builtin (b:=.append) (xs:=#[.tmp 10,.tmp 15]) rfl ?_);at_builtin;refine Kd.R_append (Kd.int .u8) (w0:=w) w.heap.size rfl (.tmp 10) (.tmp 15) 22 5 (.int .u8 0) 1 rfl Try.underlying22 info5 rfl (by decide) (by omega) u4 x4_1 ((wrap64 ((Int.tmod x0_1 128) + 128)) % 256) [.int .u8 ((wrap64 ((Int.tmod x0_1 128) + 128)) % 256)] (fun _=>True) (fun _=>False) rfl rfl ?aP (fun _ hk=>hk.elim) ?aF ?aO ?aB ?aS ?aL ?_;(case aP=>exact rfl);(case aB=>exact (by repeat (first|(with_reducible first|exact HB.out|apply qf|apply qa|apply qd)|exact HB.out)));(case aF=>exact (fun _ _=>trivial));(case aO=>exact (by (with_reducible repeat (first|apply Kd.R_alloc|apply Kd.R_drewN|apply Kd.R_drew));exact HO_4.out));(case aS=>exact (qj (by repeat (first|(with_reducible first|exact HB.out|apply qf|apply qa|apply qd)|exact HB.out))));(case aL=>have:=LMc5.out;omega);intro v176 w6 ho hb hg hat;rw [← Ny175.out] at ho;have n0_:=qn.mk (hb);have n1_:=qn.mk (ho);clear HB;clear HO_4;have HB:=n0_;have HO177:=n1_;clear n0_ n1_;clear ho hb hg hat))
            go_roundg k1
            case measure=>have:=HK1.out;omega
            case rel=>exact ⟨(wrap64 (Int.tdiv x0_1 128)),(y175),(by first|rfl|(simp;done)|(simp [*];done)),H',⟨by have:=HK1.out;omega⟩,⟨by (with_reducible repeat (first|apply Kd.R_alloc|apply Kd.R_drewN|apply Kd.R_drew));exact HO177.out⟩,⟨by repeat (first|(with_reducible first|exact HB.out|apply qf|apply qa|apply qd)|exact HB.out)⟩⟩
          · rw [if_neg c5] at H
            exact absurd H (by simp)
        · rw [if_neg c4] at H
          have c4b0 : decide (127 < x0_1) = false:=decide_eq_false c4
          clear c4
          by_cases c7 : x4_1.length < 140737488355328
          · rw [if_pos c7] at H
            have LMc7:=qn.mk c7
            clear c7
            obtain ⟨y178,hy178⟩ : ∃ y_ : List Int,y_ = (x4_1 ++ [(x0_1) % 256]):=⟨_,rfl⟩
            replace H : (some (strOfNums y178,true)) = some (r1,r2):=by first|(rw [hy178];with_reducible exact H)|(have H2_:=(Option.bind_some _ _).symm.trans H;rw [hy178];with_reducible exact H2_)|(have H2_:=(Option.bind_some _ _).symm.trans H;with_reducible exact H2_)|with_reducible exact H|(rw [hy178];exact H)|exact H
            have Ny178:=qn.mk hy178
            clear hy178
            simp only [Option.some.injEq,Prod.mk.injEq] at H
            obtain ⟨rfl,rfl⟩:=H
            go_wp2_with (first|((with_reducible refine gate_builtin (b:=.append) (xs:=#[.tmp 19,.tmp 22]) rfl ?_);at_builtin;refine Kd.R_append (Kd.int .u8) (w0:=w) w.heap.size rfl (.tmp 19) (.tmp 22) 22 5 (.int .u8 0) 1 rfl Try.underlying22 info5 rfl (by decide) (by omega) u4 x4_1 ((x0_1) % 256) [.int .u8 ((x0_1) % 256)] (fun _=>True) (fun _=>False) rfl rfl ?aP (fun _ hk=>hk.elim) ?aF ?aO ?aB ?aS ?aL ?_;(case aP=>exact rfl);(case aB=>exact (by repeat (first|(with_reducible first|exact HB.out|apply qf|apply qa|apply qd)|exact HB.out)));(case aF=>exact (fun _ _=>trivial));(case aO=>exact (by (with_reducible repeat (first|apply Kd.R_alloc|apply Kd.R_drewN|apply Kd.R_drew));exact HO_4.out));(case aS=>exact (qj (by repeat (first|(with_reducible first|exact HB.out|apply qf|apply qa|apply qd)|exact HB.out))));(case aL=>have:=LMc7.out;omega);intro v179 w8 ho hb hg hat;rw [← Ny178.out] at ho;have n0_:=qn.mk (hb);have n1_:=qn.mk (ho);clear HB;clear HO_4;have HB:=n0_;have HO180:=n1_;clear n0_ n1_;clear ho hb hg hat;have hcv9:=own_string (P:=Try.prog) Try.underlying22 Try.underlying5 Try.underlying9 (Kd.own_of_R HO180.out)))
            go_ret2
            exact ⟨by first|rfl|(simp [errW_none,errW_some] <;> rfl)|(simp [*,errW_none,errW_some] <;> rfl),by repeat (first|(with_reducible first|exact HB.out|apply qf|apply qa|apply qd)|exact HB.out)⟩
          · rw [if_neg c7] at H
            exact absurd H (by simp)
  · replace c3:=Bool.eq_false_iff.mpr c3
    subst c3
    have H1 : (some ((⟨#[]⟩ : ByteArray),false)) = some (r1,r2):=by rw [if_neg (show ¬ (false = true) by decide)] at H;exact H
    clear H
    have H:=H1
    clear H1
    simp only [Option.some.injEq,Prod.mk.injEq] at H
    obtain ⟨rfl,rfl⟩:=H
    go_enter Try.func43,Try.ntmps43
    go_wp2_with (first|((with_reducible refine gate_callee (f:=28) rfl ?_);refine goesL_ (some 6) rfl rfl Try.func28 (by kernel_rfl) rfl #[.int .i64 a0,.int .i64 0,.int .i64 1000000000] rfl (by (try simp only [List.map_toArray,List.map_cons,List.map_nil]);first|done|rfl|(simp only [List.length_drop,List.length_take];rfl)) ?_;(with_reducible refine (impl_in.calls a0 0 1000000000 false _ A2.out).mono ?_);rintro e w' ⟨rfl,⟨nd,rfl⟩⟩;refine ⟨_,rfl,?_⟩))
    go_ret2
    exact ⟨by first|rfl|(simp [errW_none,errW_some] <;> rfl)|(simp [*,errW_none,errW_some] <;> rfl),by repeat (first|(with_reducible first|exact HB.out|apply qf|apply qa|apply qd)|exact HB.out)⟩

/-! ### impl_itemOk: function 44 -/
def impl_itemOk.f (a0 : Int) (a1_0 : ByteArray) (a1_1 : ByteArray) (a1_2 : Int) : Option (Bool):=if a1_0.toList = ([] : List UInt8) then (some false) else (if a0 = 1 then (some (a1_2 == 0)) else (if a1_1.toList = ([] : List UInt8) then ((impl_in.f a1_2 0 399).bind fun t182=>(some t182)) else (some false)))
set_option maxHeartbeats 8000000 in
set_option maxRecDepth 100000 in
theorem impl_itemOk.calls (a0 : Int) (a1_0 : ByteArray) (a1_1 : ByteArray) (a1_2 : Int) (r : Bool) (w : World) (h : impl_itemOk.f a0 a1_0 a1_1 a1_2 = some r) :
    Calls Try.prog 44 #[.int .i64 a0,.agg #[.string a1_0,.string a1_1,.int .i64 a1_2]] w fun e w'=>e = .returned (.bool r) ∧ Below w.heap.size w w':=by
  have hu85:=Try.underlying85
  have HB:=qn.mk (Below.refl w.heap.size w)
  have H : (if a1_0.toList = ([] : List UInt8) then (some false) else (if a0 = 1 then (some (a1_2 == 0)) else (if a1_1.toList = ([] : List UInt8) then ((impl_in.f a1_2 0 399).bind fun t182=>(some t182)) else (some false)))) = some r:=h
  clear h
  by_cases c3 : a1_0.toList = ([] : List UInt8)
  · rw [if_pos c3] at H
    have c3b0 : (a1_0.toList == ([] : List UInt8)) = true:=beq_iff_eq.mpr c3
    have c3b1 : (a1_0.toList != ([] : List UInt8)) = false:=bne_eq_false_iff_eq.mpr c3
    clear c3
    obtain rfl:=Option.some.inj H
    go_enter Try.func44,Try.ntmps44
    go_wp2_with (first|((with_reducible refine gate_dst (N:=3) rfl ?_);refine box_event ?hg (N:=3) ?hd (cs:=#[.string a1_0,.string a1_1,.int .i64 a1_2]) (t:=85) ?hr ?_;(case hd=>rfl);(case hg=>rfl);(case hr=>first|(go_simp;done)|(go_simp;rfl));intro gb181 hg w4 hbox hb;have n0_:=hs_ HB hb;have n1_:=qn.mk (hbox);have n2_:=qn.mk ((by rw [hg];exact (qj (by repeat (first|(with_reducible first|exact HB.out|apply qf|apply qa|apply qd)|exact HB.out))) : w.heap.size ≤ gb181));have n3_:=qn.mk ((by rw [hg];exact (qj (by repeat (first|(with_reducible first|exact HB.out|apply qf|apply qa|apply qd)|exact HB.out))) : w.heap.size ≤ gb181));clear HB;have HB:=n0_;have BK181:=n1_;have GW181:=n2_;have GE181:=n3_;clear n0_ n1_ n2_ n3_;clear hb hbox hg;have hcz5_0 : w4.cell? ⟨gb181,0,none⟩ = some (.string a1_0):=(qh BK181.out 0).trans rfl;have hcz5_1 : w4.cell? ⟨gb181,1,none⟩ = some (.string a1_1):=(qh BK181.out 1).trans rfl;have hcz5_2 : w4.cell? ⟨gb181,2,none⟩ = some (.int .i64 a1_2):=(qh BK181.out 2).trans rfl;have hfz5_0:=qi BK181.out 0;have hfz5_1:=qi BK181.out 1;have hfz5_2:=qi BK181.out 2))
    go_ret
    exact ⟨by first|rfl|(simp [errW_none,errW_some] <;> rfl)|(simp [*,errW_none,errW_some] <;> rfl),by repeat (first|(with_reducible first|exact HB.out|apply qf|apply qa|apply qd|refine qg ?_ GE181.out)|exact HB.out)⟩
  · rw [if_neg c3] at H
    have c3b0 : (a1_0.toList == ([] : List UInt8)) = false:=beq_eq_false_iff_ne.mpr c3
    have c3b1 : (a1_0.toList != ([] : List UInt8)) = true:=bne_iff_ne.mpr c3
    by_cases c6 : a0 = 1
    · rw [if_pos c6] at H
      have c6b0 : (a0 == 1) = true:=beq_iff_eq.mpr c6
      have c6b1 : (a0 != 1) = false:=bne_eq_false_iff_eq.mpr c6
      clear c6
      obtain rfl:=Option.some.inj H
      go_enter Try.func44,Try.ntmps44
      go_wp2_with (first|((with_reducible refine gate_dst (N:=3) rfl ?_);refine box_event ?hg (N:=3) ?hd (cs:=#[.string a1_0,.string a1_1,.int .i64 a1_2]) (t:=85) ?hr ?_;(case hd=>rfl);(case hg=>rfl);(case hr=>first|(go_simp;done)|(go_simp;rfl));intro gb181 hg w7 hbox hb;have n0_:=hs_ HB hb;have n1_:=qn.mk (hbox);have n2_:=qn.mk ((by rw [hg];exact (qj (by repeat (first|(with_reducible first|exact HB.out|apply qf|apply qa|apply qd)|exact HB.out))) : w.heap.size ≤ gb181));have n3_:=qn.mk ((by rw [hg];exact (qj (by repeat (first|(with_reducible first|exact HB.out|apply qf|apply qa|apply qd)|exact HB.out))) : w.heap.size ≤ gb181));clear HB;have HB:=n0_;have BK181:=n1_;have GW181:=n2_;have GE181:=n3_;clear n0_ n1_ n2_ n3_;clear hb hbox hg;have hcz8_0 : w7.cell? ⟨gb181,0,none⟩ = some (.string a1_0):=(qh BK181.out 0).trans rfl;have hcz8_1 : w7.cell? ⟨gb181,1,none⟩ = some (.string a1_1):=(qh BK181.out 1).trans rfl;have hcz8_2 : w7.cell? ⟨gb181,2,none⟩ = some (.int .i64 a1_2):=(qh BK181.out 2).trans rfl;have hfz8_0:=qi BK181.out 0;have hfz8_1:=qi BK181.out 1;have hfz8_2:=qi BK181.out 2))
      go_ret
      exact ⟨by first|rfl|(simp [errW_none,errW_some] <;> rfl)|(simp [*,errW_none,errW_some] <;> rfl),by repeat (first|(with_reducible first|exact HB.out|apply qf|apply qa|apply qd|refine qg ?_ GE181.out)|exact HB.out)⟩
    · rw [if_neg c6] at H
      have c6b0 : (a0 == 1) = false:=beq_eq_false_iff_ne.mpr c6
      have c6b1 : (a0 != 1) = true:=bne_iff_ne.mpr c6
      by_cases c9 : a1_1.toList = ([] : List UInt8)
      · rw [if_pos c9] at H
        have c9b0 : (a1_1.toList == ([] : List UInt8)) = true:=beq_iff_eq.mpr c9
        have c9b1 : (a1_1.toList != ([] : List UInt8)) = false:=bne_eq_false_iff_eq.mpr c9
        clear c9
        replace H:=Option.bind_eq_some_iff.mp H
        obtain ⟨t182,A100,H⟩:=H
        replace H : (some t182) = some r:=H
        have A10:=qn.mk A100
        clear A100
        obtain rfl:=Option.some.inj H
        go_enter Try.func44,Try.ntmps44
        go_wp2_with (first|((with_reducible refine gate_dst (N:=3) rfl ?_);refine box_event ?hg (N:=3) ?hd (cs:=#[.string a1_0,.string a1_1,.int .i64 a1_2]) (t:=85) ?hr ?_;(case hd=>rfl);(case hg=>rfl);(case hr=>first|(go_simp;done)|(go_simp;rfl));intro gb181 hg w11 hbox hb;have n0_:=hs_ HB hb;have n1_:=qn.mk (hbox);have n2_:=qn.mk ((by rw [hg];exact (qj (by repeat (first|(with_reducible first|exact HB.out|apply qf|apply qa|apply qd)|exact HB.out))) : w.heap.size ≤ gb181));have n3_:=qn.mk ((by rw [hg];exact (qj (by repeat (first|(with_reducible first|exact HB.out|apply qf|apply qa|apply qd)|exact HB.out))) : w.heap.size ≤ gb181));clear HB;have HB:=n0_;have BK181:=n1_;have GW181:=n2_;have GE181:=n3_;clear n0_ n1_ n2_ n3_;clear hb hbox hg;have hcz12_0 : w11.cell? ⟨gb181,0,none⟩ = some (.string a1_0):=(qh BK181.out 0).trans rfl;have hcz12_1 : w11.cell? ⟨gb181,1,none⟩ = some (.string a1_1):=(qh BK181.out 1).trans rfl;have hcz12_2 : w11.cell? ⟨gb181,2,none⟩ = some (.int .i64 a1_2):=(qh BK181.out 2).trans rfl;have hfz12_0:=qi BK181.out 0;have hfz12_1:=qi BK181.out 1;have hfz12_2:=qi BK181.out 2)|(go_at_call 28;(with_reducible refine (impl_in.calls a1_2 0 399 t182 _ A10.out).mono ?_);rintro e w' ⟨rfl,⟨nd,rfl⟩⟩))
        go_ret
        exact ⟨by first|rfl|(simp [errW_none,errW_some] <;> rfl)|(simp [*,errW_none,errW_some] <;> rfl),by repeat (first|(with_reducible first|exact HB.out|apply qf|apply qa|apply qd|refine qg ?_ GE181.out)|exact HB.out)⟩
      · rw [if_neg c9] at H
        have c9b0 : (a1_1.toList == ([] : List UInt8)) = false:=beq_eq_false_iff_ne.mpr c9
        have c9b1 : (a1_1.toList != ([] : List UInt8)) = true:=bne_iff_ne.mpr c9
        obtain rfl:=Option.some.inj H
        go_enter Try.func44,Try.ntmps44
        go_wp2_with (first|((with_reducible refine gate_dst (N:=3) rfl ?_);refine box_event ?hg (N:=3) ?hd (cs:=#[.string a1_0,.string a1_1,.int .i64 a1_2]) (t:=85) ?hr ?_;(case hd=>rfl);(case hg=>rfl);(case hr=>first|(go_simp;done)|(go_simp;rfl));intro gb181 hg w13 hbox hb;have n0_:=hs_ HB hb;have n1_:=qn.mk (hbox);have n2_:=qn.mk ((by rw [hg];exact (qj (by repeat (first|(with_reducible first|exact HB.out|apply qf|apply qa|apply qd)|exact HB.out))) : w.heap.size ≤ gb181));have n3_:=qn.mk ((by rw [hg];exact (qj (by repeat (first|(with_reducible first|exact HB.out|apply qf|apply qa|apply qd)|exact HB.out))) : w.heap.size ≤ gb181));clear HB;have HB:=n0_;have BK181:=n1_;have GW181:=n2_;have GE181:=n3_;clear n0_ n1_ n2_ n3_;clear hb hbox hg;have hcz14_0 : w13.cell? ⟨gb181,0,none⟩ = some (.string a1_0):=(qh BK181.out 0).trans rfl;have hcz14_1 : w13.cell? ⟨gb181,1,none⟩ = some (.string a1_1):=(qh BK181.out 1).trans rfl;have hcz14_2 : w13.cell? ⟨gb181,2,none⟩ = some (.int .i64 a1_2):=(qh BK181.out 2).trans rfl;have hfz14_0:=qi BK181.out 0;have hfz14_1:=qi BK181.out 1;have hfz14_2:=qi BK181.out 2))
        go_ret
        exact ⟨by first|rfl|(simp [errW_none,errW_some] <;> rfl)|(simp [*,errW_none,errW_some] <;> rfl),by repeat (first|(with_reducible first|exact HB.out|apply qf|apply qa|apply qd|refine qg ?_ GE181.out)|exact HB.out)⟩

/-! ### impl_ShortText: function 46 -/
def impl_ShortText.f (k : Nat) (a0 : ByteArray) : Option (ByteArray × Bool):=if (a0.size : Int) > 8000 then (some ((⟨#[]⟩ : ByteArray),false)) else ((impl_VarText.f k (a0.size : Int)).bind fun bt183=>(if bt183.1.size + a0.size ≤ 9223372036854775807 then (some (bt183.1 ++ a0,true)) else (none)))
theorem impl_ShortText.mono : ∀ a0 k,LeO (impl_ShortText.f k a0) (impl_ShortText.f (k + 1) a0):=by
  intro a0 k
  unfold impl_ShortText.f
  repeat' first
      | (with_reducible exact impl_VarText.mono _ _)
      | (with_reducible exact LeO.refl _)
      | (with_reducible exact LeO.none _)
      | (with_reducible refine LeO.ite ?_ ?_)
      | (with_reducible refine LeO.bind ?_ (fun _=>?_))
      | exact impl_VarText.mono _ _
      | exact LeO.none _
      | refine LeO.ite ?_ ?_
      | refine LeO.bind ?_ (fun _=>?_)
set_option maxHeartbeats 8000000 in
set_option maxRecDepth 100000 in
theorem impl_ShortText.calls (k : Nat) (a0 : ByteArray) (r1 : ByteArray) (r2 : Bool) (w : World) (h : impl_ShortText.f k a0 = some (r1,r2)) :
    Calls Try.prog 46 #[.string a0] w fun e w'=>e = .returned (.tuple #[.string r1,.bool r2]) ∧ Below w.heap.size w w':=by
  have HB:=qn.mk (Below.refl w.heap.size w)
  have H : (if (a0.size : Int) > 8000 then (some ((⟨#[]⟩ : ByteArray),false)) else ((impl_VarText.f k (a0.size : Int)).bind fun bt183=>(if bt183.1.size + a0.size ≤ 9223372036854775807 then (some (bt183.1 ++ a0,true)) else (none)))) = some (r1,r2):=h
  clear h
  by_cases c2 : (a0.size : Int) > 8000
  · rw [if_pos c2] at H
    have c2b0 : decide (8000 < (a0.size : Int)) = true:=decide_eq_true c2
    have c2b1 : decide (8000 < a0.size) = true:=decide_eq_true (by omega)
    clear c2
    simp only [Option.some.injEq,Prod.mk.injEq] at H
    obtain ⟨rfl,rfl⟩:=H
    go_enter Try.func46,Try.ntmps46
    go_wp2
    go_ret2
    exact ⟨by first|rfl|(simp [errW_none,errW_some] <;> rfl)|(simp [*,errW_none,errW_some] <;> rfl),by repeat (first|(with_reducible first|exact HB.out|apply qf|apply qa|apply qd)|exact HB.out)⟩
  · rw [if_neg c2] at H
    have c2b0 : decide (8000 < (a0.size : Int)) = false:=decide_eq_false c2
    have c2b1 : decide (8000 < a0.size) = false:=decide_eq_false (by omega)
    clear c2
    replace H:=Option.bind_eq_some_iff.mp H
    obtain ⟨⟨t183,t184⟩,A30,H⟩:=H
    replace H : (if t183.size + a0.size ≤ 9223372036854775807 then (some (t183 ++ a0,true)) else (none)) = some (r1,r2):=H
    have A3:=qn.mk A30
    clear A30
    by_cases c4 : t183.size + a0.size ≤ 9223372036854775807
    · rw [if_pos c4] at H
      have c4b0:=eq_true c4
      have c4b1 : decide (t183.size + a0.size ≤ 9223372036854775807) = true:=decide_eq_true c4
      try have c4b2 : (9223372036854775807 < t183.size + a0.size) = False:=eq_false (Nat.not_lt.2 c4)
      simp only [Option.some.injEq,Prod.mk.injEq] at H
      obtain ⟨rfl,rfl⟩:=H
      go_enter Try.func46,Try.ntmps46
      go_wp2_with (first|((with_reducible refine gate_callee (f:=43) rfl ?_);refine goesL_ (some 12) rfl rfl Try.func43 (by kernel_rfl) rfl #[.int .i64 (a0.size : Int)] rfl (by (try simp only [List.map_toArray,List.map_cons,List.map_nil]);first|done|rfl|(simp only [List.length_drop,List.length_take];rfl)) ?_;(with_reducible refine (impl_VarText.calls k (a0.size : Int) t183 t184 _ A3.out).mono ?_);rintro e w5 ⟨rfl,hb⟩;refine ⟨_,rfl,?_⟩;have n0_:=hs_ HB hb;clear HB;have HB:=n0_;clear n0_;(try clear hb);(try clear hb2);(try clear hk);(try clear hi)))
      go_ret2
      exact ⟨by first|rfl|(simp [errW_none,errW_some] <;> rfl)|(simp [*,errW_none,errW_some] <;> rfl),by repeat (first|(with_reducible first|exact HB.out|apply qf|apply qa|apply qd)|exact HB.out)⟩
    · rw [if_neg c4] at H
      exact absurd H (by simp)

/-! ### impl_ItemSize: function 45 -/
def impl_ItemSize.f (k : Nat) (a0 : Int) (a1_0 : ByteArray) (a1_1 : ByteArray) (a1_2 : Int) : Option (Int):=(impl_ShortText.f k a1_0).bind fun bt186=>(if a0 = 1 then ((impl_ShortText.f k a1_1).bind fun bt188=>(some (wrap64 ((bt186.1.size : Int) + (bt188.1.size : Int))))) else (if a0 = 2 then ((impl_VarText.f k a1_2).bind fun bt190=>(some (wrap64 ((bt186.1.size : Int) + (bt190.1.size : Int))))) else (some 0)))
theorem impl_ItemSize.mono : ∀ a0 a1 a2 a3 k,LeO (impl_ItemSize.f k a0 a1 a2 a3) (impl_ItemSize.f (k + 1) a0 a1 a2 a3):=by
  intro a0 a1 a2 a3 k
  unfold impl_ItemSize.f
  repeat' first
      | (with_reducible exact impl_ShortText.mono _ _)
      | (with_reducible exact impl_VarText.mono _ _)
      | (with_reducible exact LeO.refl _)
      | (with_reducible exact LeO.none _)
      | (with_reducible refine LeO.ite ?_ ?_)
      | (with_reducible refine LeO.bind ?_ (fun _=>?_))
      | exact impl_ShortText.mono _ _
      | exact impl_VarText.mono _ _
      | exact LeO.none _
      | refine LeO.ite ?_ ?_
      | refine LeO.bind ?_ (fun _=>?_)
set_option maxHeartbeats 8000000 in
set_option maxRecDepth 100000 in
theorem impl_ItemSize.calls (k : Nat) (a0 : Int) (a1_0 : ByteArray) (a1_1 : ByteArray) (a1_2 : Int) (r : Int) (w : World) (h : impl_ItemSize.f k a0 a1_0 a1_1 a1_2 = some r) :
    Calls Try.prog 45 #[.int .i64 a0,.agg #[.string a1_0,.string a1_1,.int .i64 a1_2]] w fun e w'=>e = .returned (.int .i64 r) ∧ Below w.heap.size w w':=by
  have hu85:=Try.underlying85
  have HB:=qn.mk (Below.refl w.heap.size w)
  have H : ((impl_ShortText.f k a1_0).bind fun bt186=>(if a0 = 1 then ((impl_ShortText.f k a1_1).bind fun bt188=>(some (wrap64 ((bt186.1.size : Int) + (bt188.1.size : Int))))) else (if a0 = 2 then ((impl_VarText.f k a1_2).bind fun bt190=>(some (wrap64 ((bt186.1.size : Int) + (bt190.1.size : Int))))) else (some 0)))) = some r:=h
  clear h
  replace H:=Option.bind_eq_some_iff.mp H
  obtain ⟨⟨t186,t187⟩,A30,H⟩:=H
  replace H : (if a0 = 1 then ((impl_ShortText.f k a1_1).bind fun bt188=>(some (wrap64 ((t186.size : Int) + (bt188.1.size : Int))))) else (if a0 = 2 then ((impl_VarText.f k a1_2).bind fun bt190=>(some (wrap64 ((t186.size : Int) + (bt190.1.size : Int))))) else (some 0))) = some r:=H
  have A3:=qn.mk A30
  clear A30
  by_cases c4 : a0 = 1
  · rw [if_pos c4] at H
    have c4b0 : (a0 == 1) = true:=beq_iff_eq.mpr c4
    have c4b1 : (a0 != 1) = false:=bne_eq_false_iff_eq.mpr c4
    clear c4
    replace H:=Option.bind_eq_some_iff.mp H
    obtain ⟨⟨t188,t189⟩,A50,H⟩:=H
    replace H : (some (wrap64 ((t186.size : Int) + (t188.size : Int)))) = some r:=H
    have A5:=qn.mk A50
    clear A50
    obtain rfl:=Option.some.inj H
    go_enter Try.func45,Try.ntmps45
    go_wp2_with (first|((with_reducible refine gate_dst (N:=3) rfl ?_);refine box_event ?hg (N:=3) ?hd (cs:=#[.string a1_0,.string a1_1,.int .i64 a1_2]) (t:=85) ?hr ?_;(case hd=>rfl);(case hg=>rfl);(case hr=>first|(go_simp;done)|(go_simp;rfl));intro gb185 hg w6 hbox hb;have n0_:=hs_ HB hb;have n1_:=qn.mk (hbox);have n2_:=qn.mk ((by rw [hg];exact (qj (by repeat (first|(with_reducible first|exact HB.out|apply qf|apply qa|apply qd)|exact HB.out))) : w.heap.size ≤ gb185));have n3_:=qn.mk ((by rw [hg];exact (qj (by repeat (first|(with_reducible first|exact HB.out|apply qf|apply qa|apply qd)|exact HB.out))) : w.heap.size ≤ gb185));clear HB;have HB:=n0_;have BK185:=n1_;have GW185:=n2_;have GE185:=n3_;clear n0_ n1_ n2_ n3_;clear hb hbox hg;have hcz7_0 : w6.cell? ⟨gb185,0,none⟩ = some (.string a1_0):=(qh BK185.out 0).trans rfl;have hcz7_1 : w6.cell? ⟨gb185,1,none⟩ = some (.string a1_1):=(qh BK185.out 1).trans rfl;have hcz7_2 : w6.cell? ⟨gb185,2,none⟩ = some (.int .i64 a1_2):=(qh BK185.out 2).trans rfl;have hfz7_0:=qi BK185.out 0;have hfz7_1:=qi BK185.out 1;have hfz7_2:=qi BK185.out 2)|((with_reducible refine gate_callee (f:=46) rfl ?_);refine goesL_ (some 14) rfl rfl Try.func46 (by kernel_rfl) rfl #[.string a1_0] rfl (by (try simp only [List.map_toArray,List.map_cons,List.map_nil]);first|done|rfl|(simp only [List.length_drop,List.length_take];rfl)) ?_;(with_reducible refine (impl_ShortText.calls k a1_0 t186 t187 _ A3.out).mono ?_);rintro e w8 ⟨rfl,hb⟩;refine ⟨_,rfl,?_⟩;have n0_:=bb_ BK185 hb;have n1_:=hs_ HB hb;clear BK185;clear HB;have BK185:=n0_;have HB:=n1_;clear n0_ n1_;(try clear hb);(try clear hb2);(try clear hk);(try clear hi);have hcz9_0 : w8.cell? ⟨gb185,0,none⟩ = some (.string a1_0):=(qh BK185.out 0).trans rfl;have hcz9_1 : w8.cell? ⟨gb185,1,none⟩ = some (.string a1_1):=(qh BK185.out 1).trans rfl;have hcz9_2 : w8.cell? ⟨gb185,2,none⟩ = some (.int .i64 a1_2):=(qh BK185.out 2).trans rfl;have hfz9_0:=qi BK185.out 0;have hfz9_1:=qi BK185.out 1;have hfz9_2:=qi BK185.out 2)|((with_reducible refine gate_callee (f:=46) rfl ?_);refine goesL_ (some 23) rfl rfl Try.func46 (by kernel_rfl) rfl #[.string a1_1] rfl (by (try simp only [List.map_toArray,List.map_cons,List.map_nil]);first|done|rfl|(simp only [List.length_drop,List.length_take];rfl)) ?_;(with_reducible refine (impl_ShortText.calls k a1_1 t188 t189 _ A5.out).mono ?_);rintro e w10 ⟨rfl,hb⟩;refine ⟨_,rfl,?_⟩;have n0_:=bb_ BK185 hb;have n1_:=hs_ HB hb;clear BK185;clear HB;have BK185:=n0_;have HB:=n1_;clear n0_ n1_;(try clear hb);(try clear hb2);(try clear hk);(try clear hi)))
    go_ret
    exact ⟨by first|rfl|(simp [errW_none,errW_some] <;> rfl)|(simp [*,errW_none,errW_some] <;> rfl),by repeat (first|(with_reducible first|exact HB.out|apply qf|apply qa|apply qd|refine qg ?_ GE185.out)|exact HB.out)⟩
  · rw [if_neg c4] at H
    have c4b0 : (a0 == 1) = false:=beq_eq_false_iff_ne.mpr c4
    have c4b1 : (a0 != 1) = true:=bne_iff_ne.mpr c4
    by_cases c11 : a0 = 2
    · rw [if_pos c11] at H
      have c11b0 : (a0 == 2) = true:=beq_iff_eq.mpr c11
      have c11b1 : (a0 != 2) = false:=bne_eq_false_iff_eq.mpr c11
      clear c11
      replace H:=Option.bind_eq_some_iff.mp H
      obtain ⟨⟨t190,t191⟩,A120,H⟩:=H
      replace H : (some (wrap64 ((t186.size : Int) + (t190.size : Int)))) = some r:=H
      have A12:=qn.mk A120
      clear A120
      obtain rfl:=Option.some.inj H
      go_enter Try.func45,Try.ntmps45
      go_wp2_with (first|((with_reducible refine gate_dst (N:=3) rfl ?_);refine box_event ?hg (N:=3) ?hd (cs:=#[.string a1_0,.string a1_1,.int .i64 a1_2]) (t:=85) ?hr ?_;(case hd=>rfl);(case hg=>rfl);(case hr=>first|(go_simp;done)|(go_simp;rfl));intro gb185 hg w13 hbox hb;have n0_:=hs_ HB hb;have n1_:=qn.mk (hbox);have n2_:=qn.mk ((by rw [hg];exact (qj (by repeat (first|(with_reducible first|exact HB.out|apply qf|apply qa|apply qd)|exact HB.out))) : w.heap.size ≤ gb185));have n3_:=qn.mk ((by rw [hg];exact (qj (by repeat (first|(with_reducible first|exact HB.out|apply qf|apply qa|apply qd)|exact HB.out))) : w.heap.size ≤ gb185));clear HB;have HB:=n0_;have BK185:=n1_;have GW185:=n2_;have GE185:=n3_;clear n0_ n1_ n2_ n3_;clear hb hbox hg;have hcz14_0 : w13.cell? ⟨gb185,0,none⟩ = some (.string a1_0):=(qh BK185.out 0).trans rfl;have hcz14_1 : w13.cell? ⟨gb185,1,none⟩ = some (.string a1_1):=(qh BK185.out 1).trans rfl;have hcz14_2 : w13.cell? ⟨gb185,2,none⟩ = some (.int .i64 a1_2):=(qh BK185.out 2).trans rfl;have hfz14_0:=qi BK185.out 0;have hfz14_1:=qi BK185.out 1;have hfz14_2:=qi BK185.out 2)|((with_reducible refine gate_callee (f:=46) rfl ?_);refine goesL_ (some 14) rfl rfl Try.func46 (by kernel_rfl) rfl #[.string a1_0] rfl (by (try simp only [List.map_toArray,List.map_cons,List.map_nil]);first|done|rfl|(simp only [List.length_drop,List.length_take];rfl)) ?_;(with_reducible refine (impl_ShortText.calls k a1_0 t186 t187 _ A3.out).mono ?_);rintro e w15 ⟨rfl,hb⟩;refine ⟨_,rfl,?_⟩;have n0_:=bb_ BK185 hb;have n1_:=hs_ HB hb;clear BK185;clear HB;have BK185:=n0_;have HB:=n1_;clear n0_ n1_;(try clear hb);(try clear hb2);(try clear hk);(try clear hi);have hcz16_0 : w15.cell? ⟨gb185,0,none⟩ = some (.string a1_0):=(qh BK185.out 0).trans rfl;have hcz16_1 : w15.cell? ⟨gb185,1,none⟩ = some (.string a1_1):=(qh BK185.out 1).trans rfl;have hcz16_2 : w15.cell? ⟨gb185,2,none⟩ = some (.int .i64 a1_2):=(qh BK185.out 2).trans rfl;have hfz16_0:=qi BK185.out 0;have hfz16_1:=qi BK185.out 1;have hfz16_2:=qi BK185.out 2)|((with_reducible refine gate_callee (f:=43) rfl ?_);refine goesL_ (some 36) rfl rfl Try.func43 (by kernel_rfl) rfl #[.int .i64 a1_2] rfl (by (try simp only [List.map_toArray,List.map_cons,List.map_nil]);first|done|rfl|(simp only [List.length_drop,List.length_take];rfl)) ?_;(with_reducible refine (impl_VarText.calls k a1_2 t190 t191 _ A12.out).mono ?_);rintro e w17 ⟨rfl,hb⟩;refine ⟨_,rfl,?_⟩;have n0_:=bb_ BK185 hb;have n1_:=hs_ HB hb;clear BK185;clear HB;have BK185:=n0_;have HB:=n1_;clear n0_ n1_;(try clear hb);(try clear hb2);(try clear hk);(try clear hi)))
      go_ret
      exact ⟨by first|rfl|(simp [errW_none,errW_some] <;> rfl)|(simp [*,errW_none,errW_some] <;> rfl),by repeat (first|(with_reducible first|exact HB.out|apply qf|apply qa|apply qd|refine qg ?_ GE185.out)|exact HB.out)⟩
    · rw [if_neg c11] at H
      have c11b0 : (a0 == 2) = false:=beq_eq_false_iff_ne.mpr c11
      have c11b1 : (a0 != 2) = true:=bne_iff_ne.mpr c11
      obtain rfl:=Option.some.inj H
      go_enter Try.func45,Try.ntmps45
      go_wp2_with (first|((with_reducible refine gate_dst (N:=3) rfl ?_);refine box_event ?hg (N:=3) ?hd (cs:=#[.string a1_0,.string a1_1,.int .i64 a1_2]) (t:=85) ?hr ?_;(case hd=>rfl);(case hg=>rfl);(case hr=>first|(go_simp;done)|(go_simp;rfl));intro gb185 hg w18 hbox hb;have n0_:=hs_ HB hb;have n1_:=qn.mk (hbox);have n2_:=qn.mk ((by rw [hg];exact (qj (by repeat (first|(with_reducible first|exact HB.out|apply qf|apply qa|apply qd)|exact HB.out))) : w.heap.size ≤ gb185));have n3_:=qn.mk ((by rw [hg];exact (qj (by repeat (first|(with_reducible first|exact HB.out|apply qf|apply qa|apply qd)|exact HB.out))) : w.heap.size ≤ gb185));clear HB;have HB:=n0_;have BK185:=n1_;have GW185:=n2_;have GE185:=n3_;clear n0_ n1_ n2_ n3_;clear hb hbox hg;have hcz19_0 : w18.cell? ⟨gb185,0,none⟩ = some (.string a1_0):=(qh BK185.out 0).trans rfl;have hcz19_1 : w18.cell? ⟨gb185,1,none⟩ = some (.string a1_1):=(qh BK185.out 1).trans rfl;have hcz19_2 : w18.cell? ⟨gb185,2,none⟩ = some (.int .i64 a1_2):=(qh BK185.out 2).trans rfl;have hfz19_0:=qi BK185.out 0;have hfz19_1:=qi BK185.out 1;have hfz19_2:=qi BK185.out 2)|((with_reducible refine gate_callee (f:=46) rfl ?_);refine goesL_ (some 14) rfl rfl Try.func46 (by kernel_rfl) rfl #[.string a1_0] rfl (by (try simp only [List.map_toArray,List.map_cons,List.map_nil]);first|done|rfl|(simp only [List.length_drop,List.length_take];rfl)) ?_;(with_reducible refine (impl_ShortText.calls k a1_0 t186 t187 _ A3.out).mono ?_);rintro e w20 ⟨rfl,hb⟩;refine ⟨_,rfl,?_⟩;have n0_:=bb_ BK185 hb;have n1_:=hs_ HB hb;clear BK185;clear HB;have BK185:=n0_;have HB:=n1_;clear n0_ n1_;(try clear hb);(try clear hb2);(try clear hk);(try clear hi)))
      go_ret
      exact ⟨by first|rfl|(simp [errW_none,errW_some] <;> rfl)|(simp [*,errW_none,errW_some] <;> rfl),by repeat (first|(with_reducible first|exact HB.out|apply qf|apply qa|apply qd|refine qg ?_ GE185.out)|exact HB.out)⟩

end Go.Proofs.Ytcdofljgeiohgaa.QFnExactPageText
