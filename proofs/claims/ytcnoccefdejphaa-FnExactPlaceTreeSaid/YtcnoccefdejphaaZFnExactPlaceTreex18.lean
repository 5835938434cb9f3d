/- Lean functions for the Go functions that the law FnExactPlaceTree reaches, and that each Go function comes to just its Lean function's answer; by a program of this session. -/
import Derived.Test.YtcnoccefdejphaaZFnExactPlaceTreex0
import Derived.Test.YtcnoccefdejphaaZFnExactPlaceTreex17
namespace Go.Proofs.Ytcnoccefdejphaa.QFnExactPlaceTree
open Go.RowKit Go.Proofs.YtcnoccefdejphaaW.PrintWords Go.Proofs.YtcnoccefdejphaaW.PrintLast Go.Proofs.YtcnoccefdejphaaW.PrintMore
attribute [local go_sem] max2_int min2_int max_two min_two max_three min_three max_four min_four   -- for this text's walks alone
set_option linter.unusedVariables false
set_option linter.unusedSimpArgs false

/-! ### laws_markPairS: function 17 -/
def laws_markPairS.l0 : Nat → List (S69) → Int → Int → Option (Int × (List (S69)))
 | 0,_,_,_=>none
 | k + 1,x0,x1,x5=>if x5 < (x0.length : Int) then ((laws_markText.f k x1).bind fun t550=>(if 0 ≤ x5 then ((some (x0.set (x5 : Int).toNat (⟨t550,(rd_T69 x0 x5).f1⟩ : S69) : List (S69))).bind fun y551=>((laws_markText.f k (wrap64 (x1 + 1))).bind fun t552=>(laws_markPairS.l0 k (y551.set (x5 : Int).toNat (⟨(rd_T69 y551 x5).f0,t552⟩ : S69)) (wrap64 ((wrap64 (x1 + 1)) + 1)) (wrap64 (x5 + 1))))) else (none))) else (some (x1,x0))
def laws_markPairS.f (k : Nat) (l0 : List (S69)) (a1 : Int) : Option (Int × (List (S69))):=laws_markPairS.l0 k l0 a1 0
theorem laws_markPairS.mono_l : ∀ k,(∀ y0 y1 y2,LeO (laws_markPairS.l0 k y0 y1 y2) (laws_markPairS.l0 (k + 1) y0 y1 y2))
 | 0=>fun _ _ _ r h=>by simp [laws_markPairS.l0] at h
 | k + 1=>by
  have ih0:=laws_markPairS.mono_l k
  intro y0 y1 y2
  unfold laws_markPairS.l0
  repeat' first|(with_reducible first|exact ih0 _ _ _|exact laws_markText.mono _ _|exact LeO.refl _|exact LeO.none _|refine LeO.ite ?_ ?_|refine LeO.bind ?_ (fun _=>?_))|exact ih0 _ _ _|exact laws_markText.mono _ _|exact LeO.none _|refine LeO.ite ?_ ?_|refine LeO.bind ?_ (fun _=>?_)
theorem laws_markPairS.mono : ∀ a0 a1 k,LeO (laws_markPairS.f k a0 a1) (laws_markPairS.f (k + 1) a0 a1):=by
 intro a0 a1 k
 have ih0:=laws_markPairS.mono_l k
 unfold laws_markPairS.f
 repeat' first|(with_reducible first|exact ih0 _ _ _|exact laws_markText.mono _ _|exact LeO.refl _|exact LeO.none _|refine LeO.ite ?_ ?_|refine LeO.bind ?_ (fun _=>?_))|exact ih0 _ _ _|exact laws_markText.mono _ _|exact LeO.none _|refine LeO.ite ?_ ?_|refine LeO.bind ?_ (fun _=>?_)
set_option maxHeartbeats 8000000 in
set_option maxRecDepth 100000 in
theorem laws_markPairS.calls (k : Nat) (P0_ : Nat → Prop) (u9000_ : Value) (l0 : List (S69)) (a1 : Int) (r1 : Int) (r2 : List (S69)) (w0 w : World) (hB : Below w0.heap.size w0 w) (ho0 : Kd.R k69 69 w w0.heap.size P0_ u9000_ l0) (h : laws_markPairS.f k l0 a1 = some (r1,r2)) :
  Calls Try.prog 17 #[u9000_,.int .i64 a1] w fun e w'=>e = .returned (.int .i64 r1) ∧ Kd.R k69 69 w' w0.heap.size (fun k_=>(P0_ k_ ∨ w.heap.size ≤ k_)) u9000_ r2 ∧ Below w0.heap.size w0 w' ∧ Kept w w' (fun k_=>P0_ k_):=by
 have HO0:=qo.mk (show Kd.R k69 69 w w0.heap.size (fun k_=>(P0_ k_ ∨ w.heap.size ≤ k_)) u9000_ l0 from Kd.R_mono ho0 (fun k_ hk=>(.inl hk)))
 have HK:=qo.mk (Kept.refl w (fun k_=>P0_ k_))
 have HW0:=qo.mk hB.size
 have HB:=qo.mk hB
 clear hB
 have H : (laws_markPairS.l0 k l0 a1 0) = some (r1,r2):=h
 clear h
 have H':=qo.mk H
 clear H
 go_enter Try.func17,Try.ntmps17
 go_wp2
 go_loopg [1,5] k (fun kq v1 v5 w'=>∃ (x0_1 : List (S69)) (x1_1 : Int) (x5_1 : Int),v1 = .int .i64 x1_1 ∧ v5 = .int .i64 x5_1 ∧ qo (laws_markPairS.l0 kq x0_1 x1_1 x5_1 = some (r1,r2)) ∧ qo (kq ≤ k) ∧ qo (Kd.R k69 69 w' w0.heap.size (fun k_=>(P0_ k_ ∨ w.heap.size ≤ k_)) u9000_ x0_1) ∧ qo (Kept w w' (fun k_=>P0_ k_)) ∧ qo (Below w0.heap.size w0 w'))
 case atStart=>exact ⟨(l0),(a1),(0),rs_,rs_,H',⟨Nat.le_refl _⟩,⟨by (with_reducible repeat (first|apply Kd.R_alloc|apply Kd.R_drewN|apply Kd.R_drew));exact HO0.out⟩,⟨by repeat (first|(with_reducible first|exact HK.out|apply Kept.alloc|apply Kept.drewN|apply Kept.drew)|exact HK.out)⟩,⟨hx_⟩⟩
 clear H'
 try clear c1
 try clear p2
 obtain ⟨x0_1,x1_1,x5_1,rfl,rfl,HA,HK1,HO_0,HK,HB⟩:=hrel
 obtain _|k1:=gk
 ·exact absurd HA.out (by simp [laws_markPairS.l0])
 have H:=HA.out
 clear HA
 simp only [laws_markPairS.l0] at H
 by_cases c3 : x5_1 < (x0_1.length : Int)
 ·rw [if_pos c3] at H
  have c3b0 : decide (x5_1 < (x0_1.length : Int)) = true:=decide_eq_true c3
  clear c3
  replace H:=Option.bind_eq_some_iff.mp H
  obtain ⟨t550,A40,H⟩:=H
  replace H : (if 0 ≤ x5_1 then ((some (x0_1.set (x5_1 : Int).toNat (⟨t550,(rd_T69 x0_1 x5_1).f1⟩ : S69) : List (S69))).bind fun y551=>((laws_markText.f k1 (wrap64 (x1_1 + 1))).bind fun t552=>(laws_markPairS.l0 k1 (y551.set (x5_1 : Int).toNat (⟨(rd_T69 y551 x5_1).f0,t552⟩ : S69)) (wrap64 ((wrap64 (x1_1 + 1)) + 1)) (wrap64 (x5_1 + 1))))) else (none)) = some (r1,r2):=H
  have A4:=qo.mk A40
  clear A40
  by_cases c5 : 0 ≤ x5_1
  ·rw [if_pos c5] at H
   have c5b0 : decide (0 ≤ x5_1) = true:=decide_eq_true c5
   clear c5
   obtain ⟨y551,hy551⟩ : ∃ y_ : List (S69),y_ = (x0_1.set (x5_1 : Int).toNat (⟨t550,(rd_T69 x0_1 x5_1).f1⟩ : S69)):=⟨_,rfl⟩
   replace H : ((laws_markText.f k1 (wrap64 (x1_1 + 1))).bind fun t552=>(laws_markPairS.l0 k1 (y551.set (x5_1 : Int).toNat (⟨(rd_T69 y551 x5_1).f0,t552⟩ : S69)) (wrap64 ((wrap64 (x1_1 + 1)) + 1)) (wrap64 (x5_1 + 1)))) = some (r1,r2):=by first|(rw [hy551];with_reducible exact H)|(have H2_:=(Option.bind_some _ _).symm.trans H;rw [hy551];with_reducible exact H2_)|(have H2_:=(Option.bind_some _ _).symm.trans H;with_reducible exact H2_)|with_reducible exact H|(rw [hy551];exact H)|exact H
   have Ny551:=qo.mk hy551
   clear hy551
   replace H:=Option.bind_eq_some_iff.mp H
   obtain ⟨t552,A70,H⟩:=H
   replace H : (laws_markPairS.l0 k1 (y551.set (x5_1 : Int).toNat (⟨(rd_T69 y551 x5_1).f0,t552⟩ : S69)) (wrap64 ((wrap64 (x1_1 + 1)) + 1)) (wrap64 (x5_1 + 1))) = some (r1,r2):=H
   have A7:=qo.mk A70
   clear A70
   obtain ⟨y553,hy553⟩ : ∃ y_ : List (S69),y_ = (y551.set (x5_1 : Int).toNat (⟨(rd_T69 y551 x5_1).f0,t552⟩ : S69)):=⟨_,rfl⟩
   replace H : (laws_markPairS.l0 k1 y553 (wrap64 ((wrap64 (x1_1 + 1)) + 1)) (wrap64 (x5_1 + 1))) = some (r1,r2):=by first|(rw [hy553];with_reducible exact H)|(have H2_:=(Option.bind_some _ _).symm.trans H;rw [hy553];with_reducible exact H2_)|(have H2_:=(Option.bind_some _ _).symm.trans H;with_reducible exact H2_)|with_reducible exact H|(rw [hy553];exact H)|exact H
   have Ny553:=qo.mk hy553
   clear hy553
   have H':=qo.mk H
   clear H
   obtain ⟨Ao9,co9,eo9⟩:=Kd.R_slice HO_0.out
   subst eo9
   go_wp2_with (first|((with_reducible refine gate_callee (f:=51) rfl ?_);refine goesL_ (some 15) rfl rfl Try.func51 (by kernel_rfl) rfl #[.int .i64 x1_1] rfl sm_ ?_;(with_reducible refine (laws_markText.calls k1 x1_1 t550 _ A4.out).mono ?_);rintro e w10 ⟨rfl,hb⟩;refine ⟨_,rfl,?_⟩;replace HO_0:=rb_ HO_0 hb;replace HK:=qo.mk (Kept.below (S:=(fun k_=>P0_ k_)) (by repeat (first|(with_reducible first|exact HK.out|apply Kept.alloc|apply Kept.drewN|apply Kept.drew)|exact HK.out)) hb);replace HB:=hs_ HB hb;(try clear hb);(try clear hb2);(try clear hk);(try clear hi);have p6 : 0 ≤ (x5_1 : Int):=dt_;have q6 : (x5_1 : Int) < ((x0_1.length : Int) : Int):=dt_;obtain ⟨go6,co6,eo6,gb6,gl6,cl6,HG6⟩:=Kd.R_form HO_0.out (by omega);(first|cases eo6|(injection eo6 with ea_ en_ ec_;(first|subst ea_|(injection ea_ with ea_;subst ea_));subst ec_;clear en_));have GB6:=qo.mk gb6;have GG6:=qo.mk HG6;clear gb6 gl6 HG6;have HMgo6:=qo.mk (show (P0_ go6 ∨ w.heap.size ≤ go6) from (HO_0.out.1 _ rfl));obtain ⟨ce6,hcl6,hM6,hcc6,hfr6⟩:=Kd.R_elem HO_0.out z69 (x5_1 : Int) p6 q6;obtain rfl:=k69_openM hM6;have hx6_0 : w10.cell? ⟨go6,(x5_1 : Int).toNat * 2,none⟩ = some (.string ((rd_T69 x0_1 x5_1).f0)):=hcc6 0 _ rfl;have hx6_1 : w10.cell? ⟨go6,(x5_1 : Int).toNat * 2 + 1,none⟩ = some (.string ((rd_T69 x0_1 x5_1).f1)):=hcc6 1 _ rfl;have hf6_0 : w10.frozen? ⟨go6,(x5_1 : Int).toNat * 2,none⟩ = false:=hfr6 0;have hf6_1 : w10.frozen? ⟨go6,(x5_1 : Int).toNat * 2 + 1,none⟩ = false:=hfr6 1;clear hcl6 hcc6 hfr6 hM6;replace p6:=eq_true p6;replace q6:=eq_true q6;have HX11:=qo.mk (show Kd.R k69 69 w10 w0.heap.size (fun k_=>(P0_ k_ ∨ w.heap.size ≤ k_)) (.slice (some ⟨go6,0,none⟩) x0_1.length co9) x0_1 from (by (with_reducible repeat (first|apply Kd.R_alloc|apply Kd.R_drewN|apply Kd.R_drew));exact HO_0.out));obtain ⟨ce11,hcl11,hM11,hcc11,hfr11⟩:=Kd.R_elem HX11.out z69 (x5_1 : Int) (dt_) (by have h_ : (x5_1 : Int) < ((x0_1.length : Int) : Int):=dt_;first|exact h_|(have e_:=(Kd.R_reads' HO_0.out).1;omega)|simpa using h_);obtain rfl:=k69_openM hM11;have HP11:=Kd.R_seg HX11.out (x5_1 : Int) (dt_) (by have h_ : (x5_1 : Int) < ((x0_1.length : Int) : Int):=dt_;first|exact h_|(have e_:=(Kd.R_reads' HO_0.out).1;omega)|simpa using h_) (seg:=[.string t550]) (j:=0) hcl11 hcc11 (show 1 ≤ 2 from by decide) (x':=(⟨t550,(rd_T69 x0_1 x5_1).f1⟩ : S69)) (k69_mkM _ _ _ (⟨t550,(rd_T69 x0_1 x5_1).f1⟩ : S69) ) (fun _ hk=>hk);have hx11_0:=hcc11 0 _ rfl;(try simp only [show (k69).sz = 2 from rfl,Nat.mul_one,Nat.add_zero] at hx11_0);have hf11_0:=hfr11 0;(try simp only [show (k69).sz = 2 from rfl,Nat.mul_one,Nat.add_zero] at hf11_0);clear hcl11 hcc11 hfr11 hM11)|((with_reducible refine gate_store (t:=9) (p:=17) rfl ?_);refine store_event (t:=9) (p:=17) (v:=?vo_w12) (w1:=(w10.setCell ⟨go6,(x5_1 : Int).toNat * 2,none⟩ (.string t550))) ?hg ?ho ?hn ?hr ?_;(case ho=>rfl);(case hg=>rfl);(case hn=>rfl);(case hr=>first|(go_simp;done)|(go_simp;rfl));intro w12 hw;have hg : w10.grownBy w12 (some go6):=(by rw [hw];exact HP11.2);have hp_ : Kd.R k69 69 w12 w0.heap.size (fun k_=>(P0_ k_ ∨ w.heap.size ≤ k_)) (.slice (some ⟨go6,0,none⟩) x0_1.length co9) y551:=(by rw [hw,Ny551.out];exact HP11.1);clear HP11;replace HK:=qo.mk (Kept.of_grown (S:=(fun k_=>P0_ k_)) hg (by repeat (first|(with_reducible first|exact HK.out|apply Kept.alloc|apply Kept.drewN|apply Kept.drew)|exact HK.out)) (fun k_ e_=>(HO_0.out.1 k_ e_)));replace HO_0:=qo.mk (hp_);replace HB:=qo.mk ((by rw [hw];exact qg (HB.out) GB6.out : Below w0.heap.size w0 w12));clear hg hw hp_)|((with_reducible refine gate_callee (f:=51) rfl ?_);refine goesL_ (some 23) rfl rfl Try.func51 (by kernel_rfl) rfl #[.int .i64 (wrap64 (x1_1 + 1))] rfl sm_ ?_;(with_reducible refine (laws_markText.calls k1 (wrap64 (x1_1 + 1)) t552 _ A7.out).mono ?_);rintro e w13 ⟨rfl,hb⟩;refine ⟨_,rfl,?_⟩;replace HO_0:=rb_ HO_0 hb;replace HK:=qo.mk (Kept.below (S:=(fun k_=>P0_ k_)) (by repeat (first|(with_reducible first|exact HK.out|apply Kept.alloc|apply Kept.drewN|apply Kept.drew)|exact HK.out)) hb);replace HB:=hs_ HB hb;(try clear hb);(try clear hb2);(try clear hk);(try clear hi);have p8 : 0 ≤ (x5_1 : Int):=dt_;have q8 : (x5_1 : Int) < ((x0_1.length : Int) : Int):=dt_;obtain ⟨ce8,hcl8,hM8,hcc8,hfr8⟩:=Kd.R_elem HO_0.out z69 (x5_1 : Int) p8 q8;obtain rfl:=k69_openM hM8;have hx8_0 : w13.cell? ⟨go6,(x5_1 : Int).toNat * 2,none⟩ = some (.string ((rd_T69 y551 x5_1).f0)):=hcc8 0 _ rfl;have hx8_1 : w13.cell? ⟨go6,(x5_1 : Int).toNat * 2 + 1,none⟩ = some (.string ((rd_T69 y551 x5_1).f1)):=hcc8 1 _ rfl;have hf8_0 : w13.frozen? ⟨go6,(x5_1 : Int).toNat * 2,none⟩ = false:=hfr8 0;have hf8_1 : w13.frozen? ⟨go6,(x5_1 : Int).toNat * 2 + 1,none⟩ = false:=hfr8 1;clear hcl8 hcc8 hfr8 hM8;replace p8:=eq_true p8;replace q8:=eq_true q8;have HX14:=qo.mk (show Kd.R k69 69 w13 w0.heap.size (fun k_=>(P0_ k_ ∨ w.heap.size ≤ k_)) (.slice (some ⟨go6,0,none⟩) x0_1.length co9) y551 from (by (with_reducible repeat (first|apply Kd.R_alloc|apply Kd.R_drewN|apply Kd.R_drew));exact HO_0.out));obtain ⟨ce14,hcl14,hM14,hcc14,hfr14⟩:=Kd.R_elem HX14.out z69 (x5_1 : Int) (dt_) (by have h_ : (x5_1 : Int) < ((x0_1.length : Int) : Int):=dt_;first|exact h_|(have e_:=(Kd.R_reads' HO_0.out).1;omega)|simpa using h_);obtain rfl:=k69_openM hM14;have HP14:=Kd.R_seg HX14.out (x5_1 : Int) (dt_) (by have h_ : (x5_1 : Int) < ((x0_1.length : Int) : Int):=dt_;first|exact h_|(have e_:=(Kd.R_reads' HO_0.out).1;omega)|simpa using h_) (seg:=[.string t552]) (j:=1) hcl14 hcc14 (show 2 ≤ 2 from by decide) (x':=(⟨(rd_T69 y551 x5_1).f0,t552⟩ : S69)) (k69_mkM _ _ _ (⟨(rd_T69 y551 x5_1).f0,t552⟩ : S69) ) (fun _ hk=>hk);have hx14_1:=hcc14 1 _ rfl;(try simp only [show (k69).sz = 2 from rfl,Nat.mul_one,Nat.add_zero] at hx14_1);have hf14_1:=hfr14 1;(try simp only [show (k69).sz = 2 from rfl,Nat.mul_one,Nat.add_zero] at hf14_1);clear hcl14 hcc14 hfr14 hM14)|((with_reducible refine gate_store (t:=9) (p:=25) rfl ?_);refine store_event (t:=9) (p:=25) (v:=?vo_w15) (w1:=(w13.setCell ⟨go6,(x5_1 : Int).toNat * 2 + 1,none⟩ (.string t552))) ?hg ?ho ?hn ?hr ?_;(case ho=>rfl);(case hg=>rfl);(case hn=>rfl);(case hr=>first|(go_simp;done)|(go_simp;rfl));intro w15 hw;have hg : w13.grownBy w15 (some go6):=(by rw [hw];exact HP14.2);have hp_ : Kd.R k69 69 w15 w0.heap.size (fun k_=>(P0_ k_ ∨ w.heap.size ≤ k_)) (.slice (some ⟨go6,0,none⟩) x0_1.length co9) y553:=(by rw [hw,Ny553.out];exact HP14.1);clear HP14;replace HK:=qo.mk (Kept.of_grown (S:=(fun k_=>P0_ k_)) hg (by repeat (first|(with_reducible first|exact HK.out|apply Kept.alloc|apply Kept.drewN|apply Kept.drew)|exact HK.out)) (fun k_ e_=>(HO_0.out.1 k_ e_)));replace HO_0:=qo.mk (hp_);replace HB:=qo.mk ((by rw [hw];exact qg (HB.out) GB6.out : Below w0.heap.size w0 w15));clear hg hw hp_))
   go_roundg k1
   case measure=>have:=HK1.out;omega
   case rel=>exact ⟨(y553),(wrap64 ((wrap64 (x1_1 + 1)) + 1)),(wrap64 (x5_1 + 1)),rs_,rs_,H',⟨by have:=HK1.out;omega⟩,⟨by (with_reducible repeat (first|apply Kd.R_alloc|apply Kd.R_drewN|apply Kd.R_drew));exact HO_0.out⟩,⟨by repeat (first|(with_reducible first|exact HK.out|apply Kept.alloc|apply Kept.drewN|apply Kept.drew)|exact HK.out)⟩,⟨hx_⟩⟩
  rw [if_neg c5] at H
  exact absurd H (by simp)
 rw [if_neg c3] at H
 have c3b0 : decide (x5_1 < (x0_1.length : Int)) = false:=decide_eq_false c3
 clear c3
 simp only [Option.some.injEq,Prod.mk.injEq] at H
 obtain ⟨rfl,rfl⟩:=H
 obtain ⟨Ao16,co16,eo16⟩:=Kd.R_slice HO_0.out
 subst eo16
 go_wp2
 go_ret
 exact ⟨rt_,by (with_reducible repeat (first|apply Kd.R_alloc|apply Kd.R_drewN|apply Kd.R_drew));exact HO_0.out,hx_,by repeat (first|(with_reducible first|exact HK.out|apply Kept.alloc|apply Kept.drewN|apply Kept.drew)|exact HK.out)⟩

/-! ### laws_heldStringS: function 52 -/
def laws_heldStringS.l0 : Nat → List ByteArray → Int → Int → Option (Int)
 | 0,_,_,_=>none
 | k + 1,x0,x1,x5=>if x5 < (x0.length : Int) then (if 0 ≤ x5 then ((laws_markText.f k x1).bind fun t555=>(if (rdOf ByteArray.empty x0 x5).toList = t555.toList then (laws_heldStringS.l0 k x0 (wrap64 (x1 + 1)) (wrap64 (x5 + 1))) else (some (-1)))) else (none)) else (some x1)
def laws_heldStringS.f (k : Nat) (l0 : List ByteArray) (a1 : Int) : Option (Int):=laws_heldStringS.l0 k l0 a1 0
theorem laws_heldStringS.mono_l : ∀ k,(∀ y0 y1 y2,LeO (laws_heldStringS.l0 k y0 y1 y2) (laws_heldStringS.l0 (k + 1) y0 y1 y2))
 | 0=>fun _ _ _ r h=>by simp [laws_heldStringS.l0] at h
 | k + 1=>by
  have ih0:=laws_heldStringS.mono_l k
  intro y0 y1 y2
  unfold laws_heldStringS.l0
  repeat' first|(with_reducible first|exact ih0 _ _ _|exact laws_markText.mono _ _|exact LeO.refl _|exact LeO.none _|refine LeO.ite ?_ ?_|refine LeO.bind ?_ (fun _=>?_))|exact ih0 _ _ _|exact laws_markText.mono _ _|exact LeO.none _|refine LeO.ite ?_ ?_|refine LeO.bind ?_ (fun _=>?_)
theorem laws_heldStringS.mono : ∀ a0 a1 k,LeO (laws_heldStringS.f k a0 a1) (laws_heldStringS.f (k + 1) a0 a1):=by
 intro a0 a1 k
 have ih0:=laws_heldStringS.mono_l k
 unfold laws_heldStringS.f
 repeat' first|(with_reducible first|exact ih0 _ _ _|exact laws_markText.mono _ _|exact LeO.refl _|exact LeO.none _|refine LeO.ite ?_ ?_|refine LeO.bind ?_ (fun _=>?_))|exact ih0 _ _ _|exact laws_markText.mono _ _|exact LeO.none _|refine LeO.ite ?_ ?_|refine LeO.bind ?_ (fun _=>?_)
set_option maxHeartbeats 8000000 in
set_option maxRecDepth 100000 in
theorem laws_heldStringS.calls (k : Nat) (A0 : Option Addr) (c0 : Nat) (l0 : List ByteArray) (a1 : Int) (r : Int) (w : World) (hr0 : Kd.C Kd.string w A0 l0.length l0) (hc0 : l0.length ≤ c0) (h : laws_heldStringS.f k l0 a1 = some r) :
  Calls Try.prog 52 #[.slice A0 l0.length c0,.int .i64 a1] w fun e w'=>e = .returned (.int .i64 r) ∧ Below w.heap.size w w':=by
 have HR0:=qo.mk hr0
 have HC0:=qo.mk hc0
 clear hr0 hc0
 have HB:=qo.mk (Below.refl w.heap.size w)
 have H : (laws_heldStringS.l0 k l0 a1 0) = some r:=h
 clear h
 have H':=qo.mk H
 clear H
 go_enter Try.func52,Try.ntmps52
 go_wp2
 go_loopg [1,5] k (fun kq v1 v5 w'=>∃ (x1_1 : Int) (x5_1 : Int),v1 = .int .i64 x1_1 ∧ v5 = .int .i64 x5_1 ∧ qo (laws_heldStringS.l0 kq l0 x1_1 x5_1 = some r) ∧ qo (kq ≤ k) ∧ qo (Below w.heap.size w w'))
 case atStart=>exact ⟨(a1),(0),rs_,rs_,H',⟨Nat.le_refl _⟩,⟨hx_⟩⟩
 clear H'
 try clear p2
 obtain ⟨x1_1,x5_1,rfl,rfl,HA,HK1,HB⟩:=hrel
 obtain _|k1:=gk
 ·exact absurd HA.out (by simp [laws_heldStringS.l0])
 have H:=HA.out
 clear HA
 simp only [laws_heldStringS.l0] at H
 by_cases c3 : x5_1 < (l0.length : Int)
 ·rw [if_pos c3] at H
  have c3b0 : decide (x5_1 < (l0.length : Int)) = true:=decide_eq_true c3
  clear c3
  by_cases c4 : 0 ≤ x5_1
  ·rw [if_pos c4] at H
   have c4b0 : decide (0 ≤ x5_1) = true:=decide_eq_true c4
   clear c4
   replace H:=Option.bind_eq_some_iff.mp H
   obtain ⟨t555,A50,H⟩:=H
   replace H : (if (rdOf ByteArray.empty l0 x5_1).toList = t555.toList then (laws_heldStringS.l0 k1 l0 (wrap64 (x1_1 + 1)) (wrap64 (x5_1 + 1))) else (some (-1))) = some r:=H
   have A5:=qo.mk A50
   clear A50
   by_cases c6 : (rdOf ByteArray.empty l0 x5_1).toList = t555.toList
   ·rw [if_pos c6] at H
    have c6b0 : ((rdOf ByteArray.empty l0 x5_1).toList == t555.toList) = true:=beq_iff_eq.mpr c6
    have c6b1 : ((rdOf ByteArray.empty l0 x5_1).toList != t555.toList) = false:=bne_eq_false_iff_eq.mpr c6
    clear c6
    have H':=qo.mk H
    clear H
    try go_wp2
    replace HB:=qo.mk (qd HB.out)
    have p554 : 0 ≤ (x5_1 : Int):=dt_
    have q554 : x5_1 < (l0.length : Int):=dt_
    obtain ⟨ad554,e554,hx554_0⟩:=Kd.at_string HR0.out x5_1 p554 q554
    have hw554_0:=hx554_0
    cases e554
    replace hx554_0:=cb_ HB hx554_0
    replace p554:=eq_true p554
    replace q554:=eq_true q554
    refine start_ (n:=7) (S:=fun w'=>w'.cell? (ad554.add (x5_1).toNat) = some (.string (rdOf ByteArray.empty l0 x5_1))) (ds:=[]) (Array.replicate 7 false) (by kernel_rfl) rfl rfl ((cb_ HB hw554_0:)) (fun hHeld=>?_)
    generalize wr.drew = w7 at HB hx554_0 hHeld ⊢
    refine pa_ 0 12 (bz_ 7 1) ?_
    refine pa_ 1 13 (bz_ 7 3) ?_
    refine pa_ 2 14 (bz_ 7 7) ?_
    refine pa_ 4 16 (bz_ 7 23) ?_
    refine take_ (i:=3) (N:=some 15) (v:=?_) (a':=?_) (bz_ 7 31) rfl rfl (by kernel_rfl) (fun _ _ _ h=>h) (Or.inl ⟨by rfl,?_⟩) hHeld ?_ ?_
    rotate_left
    ·intro w' s0
     go_simp
     with_reducible rfl
    rotate_left
    ·simp only [Act.put,List.setIfInBounds_toArray,List.set_cons_zero,List.set_cons_succ,i64_w,i32_w]
     rfl
    refine one_ (i:=5) (N:=some 17) (bz_ 7 63) rfl rfl (by kernel_rfl) (by decide) (fun K hK=>?_)
    refine goes_ Try.func51 (by kernel_rfl) rfl #[.int .i64 x1_1] (by rfl) rfl rfl sm_ ?_
    with_reducible refine (laws_markText.calls k1 x1_1 t555 _ A5.out).mono ?_
    rintro e w8 ⟨rfl,hb⟩
    refine ⟨_,rfl,?_⟩
    replace HB:=hs_ HB hb
    (try clear hb)
    (try clear hb2)
    (try clear hk)
    (try clear hi)
    refine hK.out _ _ ((cb_ HB hw554_0:)) (fun hHeld=>?_)
    clear hK K
    refine norm_ (a':=?_) ?_ ?_
    rotate_left
    ·show Act.put _ (some 17) _ = _
     simp only [Act.put,List.setIfInBounds_toArray,List.set_cons_zero,List.set_cons_succ,i64_w,i32_w]
     rfl
    refine pa_ 6 18 (bz_ 7 127) ?_
    refine done_ (by kernel_rfl) ?_
    try go_wp2
    go_roundg k1
    case measure=>have:=HK1.out;omega
    case rel=>exact ⟨(wrap64 (x1_1 + 1)),(wrap64 (x5_1 + 1)),rs_,rs_,H',⟨by have:=HK1.out;omega⟩,⟨hx_⟩⟩
   rw [if_neg c6] at H
   have c6b0 : ((rdOf ByteArray.empty l0 x5_1).toList == t555.toList) = false:=beq_eq_false_iff_ne.mpr c6
   have c6b1 : ((rdOf ByteArray.empty l0 x5_1).toList != t555.toList) = true:=bne_iff_ne.mpr c6
   obtain rfl:=Option.some.inj H
   try go_wp2
   replace HB:=qo.mk (qd HB.out)
   have p554 : 0 ≤ (x5_1 : Int):=dt_
   have q554 : x5_1 < (l0.length : Int):=dt_
   obtain ⟨ad554,e554,hx554_0⟩:=Kd.at_string HR0.out x5_1 p554 q554
   have hw554_0:=hx554_0
   cases e554
   replace hx554_0:=cb_ HB hx554_0
   replace p554:=eq_true p554
   replace q554:=eq_true q554
   refine start_ (n:=7) (S:=fun w'=>w'.cell? (ad554.add (x5_1).toNat) = some (.string (rdOf ByteArray.empty l0 x5_1))) (ds:=[]) (Array.replicate 7 false) (by kernel_rfl) rfl rfl ((cb_ HB hw554_0:)) (fun hHeld=>?_)
   generalize wr.drew = w9 at HB hx554_0 hHeld ⊢
   refine pa_ 0 12 (bz_ 7 1) ?_
   refine pa_ 1 13 (bz_ 7 3) ?_
   refine pa_ 2 14 (bz_ 7 7) ?_
   refine pa_ 4 16 (bz_ 7 23) ?_
   refine take_ (i:=3) (N:=some 15) (v:=?_) (a':=?_) (bz_ 7 31) rfl rfl (by kernel_rfl) (fun _ _ _ h=>h) (Or.inl ⟨by rfl,?_⟩) hHeld ?_ ?_
   rotate_left
   ·intro w' s0
    go_simp
    with_reducible rfl
   rotate_left
   ·simp only [Act.put,List.setIfInBounds_toArray,List.set_cons_zero,List.set_cons_succ,i64_w,i32_w]
    rfl
   refine one_ (i:=5) (N:=some 17) (bz_ 7 63) rfl rfl (by kernel_rfl) (by decide) (fun K hK=>?_)
   refine goes_ Try.func51 (by kernel_rfl) rfl #[.int .i64 x1_1] (by rfl) rfl rfl sm_ ?_
   with_reducible refine (laws_markText.calls k1 x1_1 t555 _ A5.out).mono ?_
   rintro e w10 ⟨rfl,hb⟩
   refine ⟨_,rfl,?_⟩
   replace HB:=hs_ HB hb
   (try clear hb)
   (try clear hb2)
   (try clear hk)
   (try clear hi)
   refine hK.out _ _ ((cb_ HB hw554_0:)) (fun hHeld=>?_)
   clear hK K
   refine norm_ (a':=?_) ?_ ?_
   rotate_left
   ·show Act.put _ (some 17) _ = _
    simp only [Act.put,List.setIfInBounds_toArray,List.set_cons_zero,List.set_cons_succ,i64_w,i32_w]
    rfl
   refine pa_ 6 18 (bz_ 7 127) ?_
   refine done_ (by kernel_rfl) ?_
   try go_wp2
   go_ret
   exact ⟨rt_,hx_⟩
  rw [if_neg c4] at H
  exact absurd H (by simp)
 rw [if_neg c3] at H
 have c3b0 : decide (x5_1 < (l0.length : Int)) = false:=decide_eq_false c3
 clear c3
 obtain rfl:=Option.some.inj H
 go_wp2
 go_ret
 exact ⟨rt_,hx_⟩

/-! ### laws_heldPutS: function 53 -/
def laws_heldPutS.l0 : Nat → List (S96) → Int → Int → Option (Int)
 | 0,_,_,_=>none
 | k + 1,x0,x1,x5=>if x5 < (x0.length : Int) then (if 0 ≤ x5 then (if ((rd_T96 x0 x5).f0) = x1 then ((laws_markText.f k (wrap64 (x1 + 1))).bind fun t558=>(if ((rd_T96 x0 x5).f1).toList = t558.toList then (laws_heldPutS.l0 k x0 (wrap64 ((wrap64 (x1 + 1)) + 1)) (wrap64 (x5 + 1))) else (some (-1)))) else (some (-1))) else (none)) else (some x1)
def laws_heldPutS.f (k : Nat) (l0 : List (S96)) (a1 : Int) : Option (Int):=laws_heldPutS.l0 k l0 a1 0
theorem laws_heldPutS.mono_l : ∀ k,(∀ y0 y1 y2,LeO (laws_heldPutS.l0 k y0 y1 y2) (laws_heldPutS.l0 (k + 1) y0 y1 y2))
 | 0=>fun _ _ _ r h=>by simp [laws_heldPutS.l0] at h
 | k + 1=>by
  have ih0:=laws_heldPutS.mono_l k
  intro y0 y1 y2
  unfold laws_heldPutS.l0
  repeat' first|(with_reducible first|exact ih0 _ _ _|exact laws_markText.mono _ _|exact LeO.refl _|exact LeO.none _|refine LeO.ite ?_ ?_|refine LeO.bind ?_ (fun _=>?_))|exact ih0 _ _ _|exact laws_markText.mono _ _|exact LeO.none _|refine LeO.ite ?_ ?_|refine LeO.bind ?_ (fun _=>?_)
theorem laws_heldPutS.mono : ∀ a0 a1 k,LeO (laws_heldPutS.f k a0 a1) (laws_heldPutS.f (k + 1) a0 a1):=by
 intro a0 a1 k
 have ih0:=laws_heldPutS.mono_l k
 unfold laws_heldPutS.f
 repeat' first|(with_reducible first|exact ih0 _ _ _|exact laws_markText.mono _ _|exact LeO.refl _|exact LeO.none _|refine LeO.ite ?_ ?_|refine LeO.bind ?_ (fun _=>?_))|exact ih0 _ _ _|exact laws_markText.mono _ _|exact LeO.none _|refine LeO.ite ?_ ?_|refine LeO.bind ?_ (fun _=>?_)
def laws_heldPutS.T7 : Bool × List (List Nat × List Nat):=(true,[([],[]),([],[]),([0,1],[0,1]),([2],[2]),([3],[3]),([],[]),([5],[5]),([4,6],[4,6])])
def laws_heldPutS.B7 : List Nat:=[0,0,3,7,15,0,32,127]
theorem laws_heldPutS.tab7 : rtab .any (opsOf Try.f53 7) = laws_heldPutS.T7:=by kernel_rfl
theorem laws_heldPutS.bits7 : waitsOk laws_heldPutS.T7.2 laws_heldPutS.B7 = true:=by kernel_rfl
set_option maxHeartbeats 8000000 in
set_option maxRecDepth 100000 in
theorem laws_heldPutS.calls (k : Nat) (A0 : Option Addr) (c0 : Nat) (l0 : List (S96)) (a1 : Int) (r : Int) (w : World) (hr0 : Kd.C k96 w A0 l0.length l0) (hc0 : l0.length ≤ c0) (h : laws_heldPutS.f k l0 a1 = some r) :
  Calls Try.prog 53 #[.slice A0 l0.length c0,.int .i64 a1] w fun e w'=>e = .returned (.int .i64 r) ∧ Below w.heap.size w w':=by
 have HR0:=qo.mk hr0
 have HC0:=qo.mk hc0
 clear hr0 hc0
 have HB:=qo.mk (Below.refl w.heap.size w)
 have H : (laws_heldPutS.l0 k l0 a1 0) = some r:=h
 clear h
 have H':=qo.mk H
 clear H
 go_enter Try.func53,Try.ntmps53
 go_wp2
 go_loopg [1,5] k (fun kq v1 v5 w'=>∃ (x1_1 : Int) (x5_1 : Int),v1 = .int .i64 x1_1 ∧ v5 = .int .i64 x5_1 ∧ qo (laws_heldPutS.l0 kq l0 x1_1 x5_1 = some r) ∧ qo (kq ≤ k) ∧ qo (Below w.heap.size w w'))
 case atStart=>exact ⟨(a1),(0),rs_,rs_,H',⟨Nat.le_refl _⟩,⟨hx_⟩⟩
 clear H'
 try clear p2
 obtain ⟨x1_1,x5_1,rfl,rfl,HA,HK1,HB⟩:=hrel
 obtain _|k1:=gk
 ·exact absurd HA.out (by simp [laws_heldPutS.l0])
 have H:=HA.out
 clear HA
 simp only [laws_heldPutS.l0] at H
 by_cases c3 : x5_1 < (l0.length : Int)
 ·rw [if_pos c3] at H
  have c3b0 : decide (x5_1 < (l0.length : Int)) = true:=decide_eq_true c3
  clear c3
  by_cases c4 : 0 ≤ x5_1
  ·rw [if_pos c4] at H
   have c4b0 : decide (0 ≤ x5_1) = true:=decide_eq_true c4
   clear c4
   by_cases c5 : ((rd_T96 l0 x5_1).f0) = x1_1
   ·rw [if_pos c5] at H
    have c5b0 : (((rd_T96 l0 x5_1).f0) == x1_1) = true:=beq_iff_eq.mpr c5
    have c5b1 : (((rd_T96 l0 x5_1).f0) != x1_1) = false:=bne_eq_false_iff_eq.mpr c5
    clear c5
    replace H:=Option.bind_eq_some_iff.mp H
    obtain ⟨t558,A60,H⟩:=H
    replace H : (if ((rd_T96 l0 x5_1).f1).toList = t558.toList then (laws_heldPutS.l0 k1 l0 (wrap64 ((wrap64 (x1_1 + 1)) + 1)) (wrap64 (x5_1 + 1))) else (some (-1))) = some r:=H
    have A6:=qo.mk A60
    clear A60
    by_cases c7 : ((rd_T96 l0 x5_1).f1).toList = t558.toList
    ·rw [if_pos c7] at H
     have c7b0 : (((rd_T96 l0 x5_1).f1).toList == t558.toList) = true:=beq_iff_eq.mpr c7
     have c7b1 : (((rd_T96 l0 x5_1).f1).toList != t558.toList) = false:=bne_eq_false_iff_eq.mpr c7
     clear c7
     have H':=qo.mk H
     clear H
     have p556 : 0 ≤ (x5_1 : Int):=dt_
     have q556 : x5_1 < (l0.length : Int):=dt_
     obtain ⟨ad556,e556,hx556_0,hx556_1⟩:=at_T96 HR0.out x5_1 p556 q556
     cases e556
     replace hx556_0:=cb_ HB hx556_0
     replace hx556_1:=cb_ HB hx556_1
     replace p556:=eq_true p556
     replace q556:=eq_true q556
     try go_wp2
     replace HB:=qo.mk (qd HB.out)
     have p557 : 0 ≤ (x5_1 : Int):=dt_
     have q557 : x5_1 < (l0.length : Int):=dt_
     obtain ⟨ad557,e557,hx557_0,hx557_1⟩:=at_T96 HR0.out x5_1 p557 q557
     have hw557_1:=hx557_1
     have hw557_0:=hx557_0
     obtain rfl : ad556 = ad557:=(by injection e557)
     replace hx557_0:=cb_ HB hx557_0
     replace hx557_1:=cb_ HB hx557_1
     replace p557:=eq_true p557
     replace q557:=eq_true q557
     refine start_ (n:=8) (S:=fun w'=>w'.cell? (ad556.add ((x5_1).toNat * 2)) = some (.int .i64 ((rd_T96 l0 x5_1).f0)) ∧ w'.cell? ⟨(ad556.add ((x5_1).toNat * 2)).block,(ad556.add ((x5_1).toNat * 2)).off + 1,none⟩ = some (.string ((rd_T96 l0 x5_1).f1))) (ds:=[]) (Array.replicate 8 false) (by kernel_rfl) rfl rfl ⟨(cb_ HB hw557_0:),(cb_ HB hw557_1:)⟩ (fun hHeld=>?_);refine with_tabW laws_heldPutS.tab7 laws_heldPutS.bits7 (fun HT_ HW_=>?_)
     generalize wr.drew = w8 at HB hx557_0 hx557_1 hHeld ⊢
     refine pt_ 0 21 (bz_ 8 1) ?_
     refine pt_ 1 22 (bz_ 8 3) ?_
     refine pt_ 2 23 (bz_ 8 7) ?_
     refine pt_ 3 24 (bz_ 8 15) ?_
     refine pt_ 5 26 (bz_ 8 47) ?_
     refine tt_ 4 25 (bz_ 8 63) hHeld (hy:=Or.inl ⟨by rfl,by rintro w' ⟨s0,s1⟩;go_simp;with_reducible rfl⟩) (h:=?_)
     refine one_ (i:=6) (N:=some 27) (bz_ 8 127) rfl rfl (one_of HT_.out (by kernel_rfl)) (by decide) (fun K hK=>?_)
     refine goes_ Try.func51 (by kernel_rfl) rfl #[.int .i64 (wrap64 (x1_1 + 1))] (by rfl) rfl rfl sm_ ?_
     with_reducible refine (laws_markText.calls k1 (wrap64 (x1_1 + 1)) t558 _ A6.out).mono ?_
     rintro e w9 ⟨rfl,hb⟩
     refine ⟨_,rfl,?_⟩
     replace HB:=hs_ HB hb
     (try clear hb)
     (try clear hb2)
     (try clear hk)
     (try clear hi)
     refine hK.out _ _ ⟨(cb_ HB hw557_0:),(cb_ HB hw557_1:)⟩ (fun hHeld=>?_)
     clear hK K
     refine norm_ (a':=?_) ?_ ?_
     rotate_left
     ·show Act.put _ (some 27) _ = _
      simp only [Act.put,List.setIfInBounds_toArray,List.set_cons_zero,List.set_cons_succ,i64_w,i32_w]
      rfl
     refine pt_ 7 28 (bz_ 8 255) ?_
     refine done_ (done_of HT_.out (by kernel_rfl)) ?_
     try go_wp2
     go_roundg k1
     case measure=>have:=HK1.out;omega
     case rel=>exact ⟨(wrap64 ((wrap64 (x1_1 + 1)) + 1)),(wrap64 (x5_1 + 1)),rs_,rs_,H',⟨by have:=HK1.out;omega⟩,⟨hx_⟩⟩
    rw [if_neg c7] at H
    have c7b0 : (((rd_T96 l0 x5_1).f1).toList == t558.toList) = false:=beq_eq_false_iff_ne.mpr c7
    have c7b1 : (((rd_T96 l0 x5_1).f1).toList != t558.toList) = true:=bne_iff_ne.mpr c7
    obtain rfl:=Option.some.inj H
    have p556 : 0 ≤ (x5_1 : Int):=dt_
    have q556 : x5_1 < (l0.length : Int):=dt_
    obtain ⟨ad556,e556,hx556_0,hx556_1⟩:=at_T96 HR0.out x5_1 p556 q556
    cases e556
    replace hx556_0:=cb_ HB hx556_0
    replace hx556_1:=cb_ HB hx556_1
    replace p556:=eq_true p556
    replace q556:=eq_true q556
    try go_wp2
    replace HB:=qo.mk (qd HB.out)
    have p557 : 0 ≤ (x5_1 : Int):=dt_
    have q557 : x5_1 < (l0.length : Int):=dt_
    obtain ⟨ad557,e557,hx557_0,hx557_1⟩:=at_T96 HR0.out x5_1 p557 q557
    have hw557_1:=hx557_1
    have hw557_0:=hx557_0
    obtain rfl : ad556 = ad557:=(by injection e557)
    replace hx557_0:=cb_ HB hx557_0
    replace hx557_1:=cb_ HB hx557_1
    replace p557:=eq_true p557
    replace q557:=eq_true q557
    refine start_ (n:=8) (S:=fun w'=>w'.cell? (ad556.add ((x5_1).toNat * 2)) = some (.int .i64 ((rd_T96 l0 x5_1).f0)) ∧ w'.cell? ⟨(ad556.add ((x5_1).toNat * 2)).block,(ad556.add ((x5_1).toNat * 2)).off + 1,none⟩ = some (.string ((rd_T96 l0 x5_1).f1))) (ds:=[]) (Array.replicate 8 false) (by kernel_rfl) rfl rfl ⟨(cb_ HB hw557_0:),(cb_ HB hw557_1:)⟩ (fun hHeld=>?_);refine with_tabW laws_heldPutS.tab7 laws_heldPutS.bits7 (fun HT_ HW_=>?_)
    generalize wr.drew = w10 at HB hx557_0 hx557_1 hHeld ⊢
    refine pt_ 0 21 (bz_ 8 1) ?_
    refine pt_ 1 22 (bz_ 8 3) ?_
    refine pt_ 2 23 (bz_ 8 7) ?_
    refine pt_ 3 24 (bz_ 8 15) ?_
    refine pt_ 5 26 (bz_ 8 47) ?_
    refine tt_ 4 25 (bz_ 8 63) hHeld (hy:=Or.inl ⟨by rfl,by rintro w' ⟨s0,s1⟩;go_simp;with_reducible rfl⟩) (h:=?_)
    refine one_ (i:=6) (N:=some 27) (bz_ 8 127) rfl rfl (one_of HT_.out (by kernel_rfl)) (by decide) (fun K hK=>?_)
    refine goes_ Try.func51 (by kernel_rfl) rfl #[.int .i64 (wrap64 (x1_1 + 1))] (by rfl) rfl rfl sm_ ?_
    with_reducible refine (laws_markText.calls k1 (wrap64 (x1_1 + 1)) t558 _ A6.out).mono ?_
    rintro e w11 ⟨rfl,hb⟩
    refine ⟨_,rfl,?_⟩
    replace HB:=hs_ HB hb
    (try clear hb)
    (try clear hb2)
    (try clear hk)
    (try clear hi)
    refine hK.out _ _ ⟨(cb_ HB hw557_0:),(cb_ HB hw557_1:)⟩ (fun hHeld=>?_)
    clear hK K
    refine norm_ (a':=?_) ?_ ?_
    rotate_left
    ·show Act.put _ (some 27) _ = _
     simp only [Act.put,List.setIfInBounds_toArray,List.set_cons_zero,List.set_cons_succ,i64_w,i32_w]
     rfl
    refine pt_ 7 28 (bz_ 8 255) ?_
    refine done_ (done_of HT_.out (by kernel_rfl)) ?_
    try go_wp2
    go_ret
    exact ⟨rt_,hx_⟩
   rw [if_neg c5] at H
   have c5b0 : (((rd_T96 l0 x5_1).f0) == x1_1) = false:=beq_eq_false_iff_ne.mpr c5
   have c5b1 : (((rd_T96 l0 x5_1).f0) != x1_1) = true:=bne_iff_ne.mpr c5
   obtain rfl:=Option.some.inj H
   have p556 : 0 ≤ (x5_1 : Int):=dt_
   have q556 : x5_1 < (l0.length : Int):=dt_
   obtain ⟨ad556,e556,hx556_0,hx556_1⟩:=at_T96 HR0.out x5_1 p556 q556
   cases e556
   replace hx556_0:=cb_ HB hx556_0
   replace hx556_1:=cb_ HB hx556_1
   replace p556:=eq_true p556
   replace q556:=eq_true q556
   go_wp2
   go_ret
   exact ⟨rt_,hx_⟩
  rw [if_neg c4] at H
  exact absurd H (by simp)
 rw [if_neg c3] at H
 have c3b0 : decide (x5_1 < (l0.length : Int)) = false:=decide_eq_false c3
 clear c3
 obtain rfl:=Option.some.inj H
 go_wp2
 go_ret
 exact ⟨rt_,hx_⟩

/-! ### laws_heldDevice: function 18 -/
def laws_heldDevice.f (k : Nat) (l0_0 : List ByteArray) (l0_1 : List (S96)) (a1 : Int) : Option (Int):=(laws_heldStringS.f k l0_0 a1).bind fun t560=>(if t560 < 0 then (some (-1)) else ((laws_heldPutS.f k l0_1 t560).bind fun t561=>(if t561 < 0 then (some (-1)) else (some t561))))
theorem laws_heldDevice.mono : ∀ a0 a1 a2 k,LeO (laws_heldDevice.f k a0 a1 a2) (laws_heldDevice.f (k + 1) a0 a1 a2):=by
 intro a0 a1 a2 k
 unfold laws_heldDevice.f
 repeat' first|(with_reducible first|exact laws_heldPutS.mono _ _ _|exact laws_heldStringS.mono _ _ _|exact LeO.refl _|exact LeO.none _|refine LeO.ite ?_ ?_|refine LeO.bind ?_ (fun _=>?_))|exact laws_heldPutS.mono _ _ _|exact laws_heldStringS.mono _ _ _|exact LeO.none _|refine LeO.ite ?_ ?_|refine LeO.bind ?_ (fun _=>?_)
set_option maxHeartbeats 8000000 in
set_option maxRecDepth 100000 in
theorem laws_heldDevice.calls (k : Nat) (A0_0 : Option Addr) (c0_0 : Nat) (l0_0 : List ByteArray) (A0_1 : Option Addr) (c0_1 : Nat) (l0_1 : List (S96)) (a1 : Int) (r : Int) (w : World) (hr0_0 : Kd.C Kd.string w A0_0 l0_0.length l0_0) (hc0_0 : l0_0.length ≤ c0_0) (hr0_1 : Kd.C k96 w A0_1 l0_1.length l0_1) (hc0_1 : l0_1.length ≤ c0_1) (h : laws_heldDevice.f k l0_0 l0_1 a1 = some r) :
  Calls Try.prog 18 #[.agg #[.slice A0_0 l0_0.length c0_0,.slice A0_1 l0_1.length c0_1],.int .i64 a1] w fun e w'=>e = .returned (.int .i64 r) ∧ Below w.heap.size w w':=by
 have hu32:=Try.underlying32
 have HR0_0:=qo.mk hr0_0
 have HC0_0:=qo.mk hc0_0
 clear hr0_0 hc0_0
 have HR0_1:=qo.mk hr0_1
 have HC0_1:=qo.mk hc0_1
 clear hr0_1 hc0_1
 have HB:=qo.mk (Below.refl w.heap.size w)
 have H : ((laws_heldStringS.f k l0_0 a1).bind fun t560=>(if t560 < 0 then (some (-1)) else ((laws_heldPutS.f k l0_1 t560).bind fun t561=>(if t561 < 0 then (some (-1)) else (some t561))))) = some r:=h
 clear h
 replace H:=Option.bind_eq_some_iff.mp H
 obtain ⟨t560,A30,H⟩:=H
 replace H : (if t560 < 0 then (some (-1)) else ((laws_heldPutS.f k l0_1 t560).bind fun t561=>(if t561 < 0 then (some (-1)) else (some t561)))) = some r:=H
 have A3:=qo.mk A30
 clear A30
 by_cases c4 : t560 < 0
 ·rw [if_pos c4] at H
  have c4b0 : decide (t560 < 0) = true:=decide_eq_true c4
  clear c4
  obtain rfl:=Option.some.inj H
  go_enter Try.func18,Try.ntmps18
  go_wp2_with (first|((with_reducible refine gate_dst (N:=2) rfl ?_);refine box_event ?hg (N:=2) ?hd (cs:=#[.slice A0_0 l0_0.length c0_0,.slice A0_1 l0_1.length c0_1]) (t:=32) ?hr ?_;(case hd=>rfl);(case hg=>rfl);(case hr=>first|(go_simp;done)|(go_simp;rfl));intro gb559 hg w5 hbox hb;have BK559:=qo.mk (hbox);have GW559:=hl_ (w:=w) hg;have GE559:=hl_ (w:=w) hg;replace HB:=hs_ HB hb;clear hb hbox hg;obtain ⟨hcz6_0,hcz6_1,hfz6_0,hfz6_1⟩:=c2f_ BK559.out)|((with_reducible refine gate_callee (f:=52) rfl ?_);refine goesL_ (some 8) rfl rfl Try.func52 (by kernel_rfl) rfl #[.slice A0_0 l0_0.length c0_0,.int .i64 a1] rfl sm_ ?_;(with_reducible refine (laws_heldStringS.calls k _ _ l0_0 a1 t560 _ ?side1 ?side2 A3.out).mono ?_);(case side1=>repeat (first|exact (Kd.C_below HR0_0.out HB.out)|(with_reducible refine Kd.C_alloc ?_ _)|(with_reducible refine Kd.C_drewN ?_ _)|(with_reducible refine Kd.C_drew ?_)));(case side2=>exact HC0_0.out);rintro e w7 ⟨rfl,hb⟩;refine ⟨_,rfl,?_⟩;replace BK559:=bb_ BK559 hb;replace HB:=hs_ HB hb;(try clear hb);(try clear hb2);(try clear hk);(try clear hi)))
  go_ret
  exact ⟨rt_,hx_⟩
 rw [if_neg c4] at H
 have c4b0 : decide (t560 < 0) = false:=decide_eq_false c4
 clear c4
 replace H:=Option.bind_eq_some_iff.mp H
 obtain ⟨t561,A80,H⟩:=H
 replace H : (if t561 < 0 then (some (-1)) else (some t561)) = some r:=H
 have A8:=qo.mk A80
 clear A80
 by_cases c9 : t561 < 0
 ·rw [if_pos c9] at H
  have c9b0 : decide (t561 < 0) = true:=decide_eq_true c9
  clear c9
  obtain rfl:=Option.some.inj H
  go_enter Try.func18,Try.ntmps18
  go_wp2_with (first|((with_reducible refine gate_dst (N:=2) rfl ?_);refine box_event ?hg (N:=2) ?hd (cs:=#[.slice A0_0 l0_0.length c0_0,.slice A0_1 l0_1.length c0_1]) (t:=32) ?hr ?_;(case hd=>rfl);(case hg=>rfl);(case hr=>first|(go_simp;done)|(go_simp;rfl));intro gb559 hg w10 hbox hb;have BK559:=qo.mk (hbox);have GW559:=hl_ (w:=w) hg;have GE559:=hl_ (w:=w) hg;replace HB:=hs_ HB hb;clear hb hbox hg;obtain ⟨hcz11_0,hcz11_1,hfz11_0,hfz11_1⟩:=c2f_ BK559.out)|((with_reducible refine gate_callee (f:=52) rfl ?_);refine goesL_ (some 8) rfl rfl Try.func52 (by kernel_rfl) rfl #[.slice A0_0 l0_0.length c0_0,.int .i64 a1] rfl sm_ ?_;(with_reducible refine (laws_heldStringS.calls k _ _ l0_0 a1 t560 _ ?side1 ?side2 A3.out).mono ?_);(case side1=>repeat (first|exact (Kd.C_below HR0_0.out HB.out)|(with_reducible refine Kd.C_alloc ?_ _)|(with_reducible refine Kd.C_drewN ?_ _)|(with_reducible refine Kd.C_drew ?_)));(case side2=>exact HC0_0.out);rintro e w12 ⟨rfl,hb⟩;refine ⟨_,rfl,?_⟩;replace BK559:=bb_ BK559 hb;replace HB:=hs_ HB hb;(try clear hb);(try clear hb2);(try clear hk);(try clear hi);obtain ⟨hcz13_0,hcz13_1,hfz13_0,hfz13_1⟩:=c2f_ BK559.out)|((with_reducible refine gate_callee (f:=53) rfl ?_);refine goesL_ (some 14) rfl rfl Try.func53 (by kernel_rfl) rfl #[.slice A0_1 l0_1.length c0_1,.int .i64 t560] rfl sm_ ?_;(with_reducible refine (laws_heldPutS.calls k _ _ l0_1 t560 t561 _ ?side1 ?side2 A8.out).mono ?_);(case side1=>repeat (first|exact (Kd.C_below HR0_1.out HB.out)|(with_reducible refine Kd.C_alloc ?_ _)|(with_reducible refine Kd.C_drewN ?_ _)|(with_reducible refine Kd.C_drew ?_)));(case side2=>exact HC0_1.out);rintro e w14 ⟨rfl,hb⟩;refine ⟨_,rfl,?_⟩;replace BK559:=bb_ BK559 hb;replace HB:=hs_ HB hb;(try clear hb);(try clear hb2);(try clear hk);(try clear hi)))
  go_ret
  exact ⟨rt_,hx_⟩
 rw [if_neg c9] at H
 have c9b0 : decide (t561 < 0) = false:=decide_eq_false c9
 clear c9
 obtain rfl:=Option.some.inj H
 go_enter Try.func18,Try.ntmps18
 go_wp2_with (first|((with_reducible refine gate_dst (N:=2) rfl ?_);refine box_event ?hg (N:=2) ?hd (cs:=#[.slice A0_0 l0_0.length c0_0,.slice A0_1 l0_1.length c0_1]) (t:=32) ?hr ?_;(case hd=>rfl);(case hg=>rfl);(case hr=>first|(go_simp;done)|(go_simp;rfl));intro gb559 hg w15 hbox hb;have BK559:=qo.mk (hbox);have GW559:=hl_ (w:=w) hg;have GE559:=hl_ (w:=w) hg;replace HB:=hs_ HB hb;clear hb hbox hg;obtain ⟨hcz16_0,hcz16_1,hfz16_0,hfz16_1⟩:=c2f_ BK559.out)|((with_reducible refine gate_callee (f:=52) rfl ?_);refine goesL_ (some 8) rfl rfl Try.func52 (by kernel_rfl) rfl #[.slice A0_0 l0_0.length c0_0,.int .i64 a1] rfl sm_ ?_;(with_reducible refine (laws_heldStringS.calls k _ _ l0_0 a1 t560 _ ?side1 ?side2 A3.out).mono ?_);(case side1=>repeat (first|exact (Kd.C_below HR0_0.out HB.out)|(with_reducible refine Kd.C_alloc ?_ _)|(with_reducible refine Kd.C_drewN ?_ _)|(with_reducible refine Kd.C_drew ?_)));(case side2=>exact HC0_0.out);rintro e w17 ⟨rfl,hb⟩;refine ⟨_,rfl,?_⟩;replace BK559:=bb_ BK559 hb;replace HB:=hs_ HB hb;(try clear hb);(try clear hb2);(try clear hk);(try clear hi);obtain ⟨hcz18_0,hcz18_1,hfz18_0,hfz18_1⟩:=c2f_ BK559.out)|((with_reducible refine gate_callee (f:=53) rfl ?_);refine goesL_ (some 14) rfl rfl Try.func53 (by kernel_rfl) rfl #[.slice A0_1 l0_1.length c0_1,.int .i64 t560] rfl sm_ ?_;(with_reducible refine (laws_heldPutS.calls k _ _ l0_1 t560 t561 _ ?side1 ?side2 A8.out).mono ?_);(case side1=>repeat (first|exact (Kd.C_below HR0_1.out HB.out)|(with_reducible refine Kd.C_alloc ?_ _)|(with_reducible refine Kd.C_drewN ?_ _)|(with_reducible refine Kd.C_drew ?_)));(case side2=>exact HC0_1.out);rintro e w19 ⟨rfl,hb⟩;refine ⟨_,rfl,?_⟩;replace BK559:=bb_ BK559 hb;replace HB:=hs_ HB hb;(try clear hb);(try clear hb2);(try clear hk);(try clear hi)))
 go_ret
 exact ⟨rt_,hx_⟩

/-! ### laws_heldIntS: function 19 -/
def laws_heldIntS.l0 : Nat → List Int → Int → Int → Option (Int)
 | 0,_,_,_=>none
 | k + 1,x0,x1,x5=>if x5 < (x0.length : Int) then (if 0 ≤ x5 then (if (rd x0 x5) = x1 then (laws_heldIntS.l0 k x0 (wrap64 (x1 + 1)) (wrap64 (x5 + 1))) else (some (-1))) else (none)) else (some x1)
def laws_heldIntS.f (k : Nat) (l0 : List Int) (a1 : Int) : Option (Int):=laws_heldIntS.l0 k l0 a1 0
theorem laws_heldIntS.mono_l : ∀ k,(∀ y0 y1 y2,LeO (laws_heldIntS.l0 k y0 y1 y2) (laws_heldIntS.l0 (k + 1) y0 y1 y2))
 | 0=>fun _ _ _ r h=>by simp [laws_heldIntS.l0] at h
 | k + 1=>by
  have ih0:=laws_heldIntS.mono_l k
  intro y0 y1 y2
  unfold laws_heldIntS.l0
  repeat' first|(with_reducible first|exact ih0 _ _ _|exact LeO.refl _|exact LeO.none _|refine LeO.ite ?_ ?_|refine LeO.bind ?_ (fun _=>?_))|exact ih0 _ _ _|exact LeO.none _|refine LeO.ite ?_ ?_|refine LeO.bind ?_ (fun _=>?_)
theorem laws_heldIntS.mono : ∀ a0 a1 k,LeO (laws_heldIntS.f k a0 a1) (laws_heldIntS.f (k + 1) a0 a1):=by
 intro a0 a1 k
 have ih0:=laws_heldIntS.mono_l k
 unfold laws_heldIntS.f
 repeat' first|(with_reducible first|exact ih0 _ _ _|exact LeO.refl _|exact LeO.none _|refine LeO.ite ?_ ?_|refine LeO.bind ?_ (fun _=>?_))|exact ih0 _ _ _|exact LeO.none _|refine LeO.ite ?_ ?_|refine LeO.bind ?_ (fun _=>?_)
set_option maxHeartbeats 8000000 in
set_option maxRecDepth 100000 in
theorem laws_heldIntS.calls (k : Nat) (A0 : Option Addr) (c0 : Nat) (l0 : List Int) (a1 : Int) (r : Int) (w : World) (hr0 : Kd.C (Kd.int .i64) w A0 l0.length l0) (hc0 : l0.length ≤ c0) (h : laws_heldIntS.f k l0 a1 = some r) :
  Calls Try.prog 19 #[.slice A0 l0.length c0,.int .i64 a1] w fun e w'=>e = .returned (.int .i64 r) ∧ Drawn0 w w':=by
 have HR0:=qo.mk hr0
 have HC0:=qo.mk hc0
 clear hr0 hc0
 have H : (laws_heldIntS.l0 k l0 a1 0) = some r:=h
 clear h
 have H':=qo.mk H
 clear H
 go_enter Try.func19,Try.ntmps19
 go_wp2
 go_loopg [1,5] k (fun kq v1 v5 w'=>∃ (x1_1 : Int) (x5_1 : Int),v1 = .int .i64 x1_1 ∧ v5 = .int .i64 x5_1 ∧ qo (laws_heldIntS.l0 kq l0 x1_1 x5_1 = some r) ∧ qo (kq ≤ k) ∧ Drawn0 w w')
 case atStart=>exact ⟨(a1),(0),rs_,rs_,H',⟨Nat.le_refl _⟩,by repeat (first|exact Drawn0.refl _|apply Drawn0.step)⟩
 clear H'
 try clear c1
 try clear p2
 obtain ⟨x1_1,x5_1,rfl,rfl,HA,HK1,⟨m1,rfl⟩⟩:=hrel
 obtain _|k1:=gk
 ·exact absurd HA.out (by simp [laws_heldIntS.l0])
 have H:=HA.out
 clear HA
 simp only [laws_heldIntS.l0] at H
 by_cases c3 : x5_1 < (l0.length : Int)
 ·rw [if_pos c3] at H
  have c3b0 : decide (x5_1 < (l0.length : Int)) = true:=decide_eq_true c3
  clear c3
  by_cases c4 : 0 ≤ x5_1
  ·rw [if_pos c4] at H
   have c4b0 : decide (0 ≤ x5_1) = true:=decide_eq_true c4
   clear c4
   by_cases c5 : (rd l0 x5_1) = x1_1
   ·rw [if_pos c5] at H
    have c5b0 : ((rd l0 x5_1) == x1_1) = true:=beq_iff_eq.mpr c5
    have c5b1 : ((rd l0 x5_1) != x1_1) = false:=bne_eq_false_iff_eq.mpr c5
    clear c5
    have H':=qo.mk H
    clear H
    have p562 : 0 ≤ (x5_1 : Int):=dt_
    have q562 : x5_1 < (l0.length : Int):=dt_
    obtain ⟨ad562,e562,hx562_0⟩:=Kd.at_int HR0.out x5_1 p562 q562
    cases e562
    replace p562:=eq_true p562
    replace q562:=eq_true q562
    go_wp2
    go_roundg k1
    case measure=>have:=HK1.out;omega
    case rel=>exact ⟨(wrap64 (x1_1 + 1)),(wrap64 (x5_1 + 1)),rs_,rs_,H',⟨by have:=HK1.out;omega⟩,by repeat (first|exact Drawn0.refl _|apply Drawn0.step)⟩
   rw [if_neg c5] at H
   have c5b0 : ((rd l0 x5_1) == x1_1) = false:=beq_eq_false_iff_ne.mpr c5
   have c5b1 : ((rd l0 x5_1) != x1_1) = true:=bne_iff_ne.mpr c5
   obtain rfl:=Option.some.inj H
   have p562 : 0 ≤ (x5_1 : Int):=dt_
   have q562 : x5_1 < (l0.length : Int):=dt_
   obtain ⟨ad562,e562,hx562_0⟩:=Kd.at_int HR0.out x5_1 p562 q562
   cases e562
   replace p562:=eq_true p562
   replace q562:=eq_true q562
   go_wp2
   go_ret
   exact ⟨by first|rfl|(simp;done)|(simp [*];done),by repeat (first|exact Drawn0.refl _|apply Drawn0.step)⟩
  rw [if_neg c4] at H
  exact absurd H (by simp)
 rw [if_neg c3] at H
 have c3b0 : decide (x5_1 < (l0.length : Int)) = false:=decide_eq_false c3
 clear c3
 obtain rfl:=Option.some.inj H
 go_wp2
 go_ret
 exact ⟨by first|rfl|(simp;done)|(simp [*];done),by repeat (first|exact Drawn0.refl _|apply Drawn0.step)⟩

end Go.Proofs.Ytcnoccefdejphaa.QFnExactPlaceTree
