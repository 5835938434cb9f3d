/- Lean functions for the Go functions that the law FnExactRounds reaches, and that each Go function comes to just its Lean function's answer; by a program of this session. -/
import Derived.Test.YtnffimpoekjkpaaZFnExactRoundsx0
import Derived.Test.YtnffimpoekjkpaaZFnExactRoundsx3
namespace Go.Proofs.Ytnffimpoekjkpaa.QFnExactRounds
open Go.RowKit Go.Proofs.YtnffimpoekjkpaaW.PrintWords Go.Proofs.YtnffimpoekjkpaaW.PrintLast Go.Proofs.YtnffimpoekjkpaaW.PrintMore
attribute [local go_sem] max2_int min2_int max_two min_two max_three min_three max_four min_four   -- for this text's walks alone
set_option linter.unusedVariables false
set_option linter.unusedSimpArgs false

/-! ### impl_GraphOk: function 13 -/
mutual
def impl_GraphOk.l0 : Nat → List (S51) → Int → Int → Int → List (S51) → Option (Bool)
 | 0,_,_,_,_,_=>none
 | k + 1,x11,x12,x13,x211000,x211001=>if x13 < x12 then (if 0 ≤ x13 then (if x13 < (x11.length : Int) then ((impl_in.f ((rd_T51 x11 x13).f0) 0 (wrap64 (x211000 - 1))).bind fun t214=>(if t214 = true then ((impl_in.f ((rd_T51 x11 x13).f1) 0 (wrap64 (x211000 - 1))).bind fun t215=>(if t215 = true then (if ((rd_T51 x11 x13).f0) ≥ ((rd_T51 x11 x13).f1) then (impl_GraphOk.j1 k x13 x11 x12 x13 true x211000 x211001 ((rd_T51 x11 x13).f0) ((rd_T51 x11 x13).f1) ((rd_T51 x11 x13).f2) ((rd_T51 x11 x13).f3) ((rd_T51 x11 x13).f4)) else ((impl_in.f ((rd_T51 x11 x13).f2) 0 50).bind fun t216=>(if t216 = true then ((impl_in.f ((rd_T51 x11 x13).f3) 0 50).bind fun t217=>(if t217 = true then ((impl_in.f ((rd_T51 x11 x13).f4) 0 50).bind fun t218=>(impl_GraphOk.j1 k x13 x11 x12 x13 (!t218) x211000 x211001 ((rd_T51 x11 x13).f0) ((rd_T51 x11 x13).f1) ((rd_T51 x11 x13).f2) ((rd_T51 x11 x13).f3) ((rd_T51 x11 x13).f4))) else (impl_GraphOk.j1 k x13 x11 x12 x13 true x211000 x211001 ((rd_T51 x11 x13).f0) ((rd_T51 x11 x13).f1) ((rd_T51 x11 x13).f2) ((rd_T51 x11 x13).f3) ((rd_T51 x11 x13).f4)))) else (impl_GraphOk.j1 k x13 x11 x12 x13 true x211000 x211001 ((rd_T51 x11 x13).f0) ((rd_T51 x11 x13).f1) ((rd_T51 x11 x13).f2) ((rd_T51 x11 x13).f3) ((rd_T51 x11 x13).f4))))) else (impl_GraphOk.j1 k x13 x11 x12 x13 true x211000 x211001 ((rd_T51 x11 x13).f0) ((rd_T51 x11 x13).f1) ((rd_T51 x11 x13).f2) ((rd_T51 x11 x13).f3) ((rd_T51 x11 x13).f4)))) else (impl_GraphOk.j1 k x13 x11 x12 x13 true x211000 x211001 ((rd_T51 x11 x13).f0) ((rd_T51 x11 x13).f1) ((rd_T51 x11 x13).f2) ((rd_T51 x11 x13).f3) ((rd_T51 x11 x13).f4)))) else (none)) else (none)) else (some true)
def impl_GraphOk.j1 : Nat → Int → List (S51) → Int → Int → Bool → Int → List (S51) → Int → Int → Int → Int → Int → Option (Bool)
 | 0,_,_,_,_,_,_,_,_,_,_,_,_=>none
 | k + 1,x3,x11,x12,x13,x58,x211000,x211001,x214000,x214001,x214002,x214003,x214004=>if x58 = true then (some false) else (if x3 > 0 then (if 0 ≤ (wrap64 (x3 - 1)) then (if (wrap64 (x3 - 1)) < (x211001.length : Int) then (if ((rd_T51 x211001 (wrap64 (x3 - 1))).f0) > x214000 then (some false) else (if ((rd_T51 x211001 (wrap64 (x3 - 1))).f0) = x214000 then (if ((rd_T51 x211001 (wrap64 (x3 - 1))).f1) ≥ x214001 then (some false) else (impl_GraphOk.l0 k x11 x12 (wrap64 (x13 + 1)) x211000 x211001)) else (impl_GraphOk.l0 k x11 x12 (wrap64 (x13 + 1)) x211000 x211001))) else (none)) else (none)) else (impl_GraphOk.l0 k x11 x12 (wrap64 (x13 + 1)) x211000 x211001))
end
def impl_GraphOk.f (k : Nat) (a0_0 : Int) (l0_1 : List (S51)) : Option (Bool):=(impl_in.f a0_0 0 9).bind fun t211=>(if t211 = true then (impl_GraphOk.l0 k l0_1 (l0_1.length : Int) 0 a0_0 l0_1) else (some false))
theorem impl_GraphOk.mono_l : ∀ k,(∀ y0 y1 y2 y3 y4,LeO (impl_GraphOk.l0 k y0 y1 y2 y3 y4) (impl_GraphOk.l0 (k + 1) y0 y1 y2 y3 y4)) ∧ (∀ y0 y1 y2 y3 y4 y5 y6 y7 y8 y9 y10 y11,LeO (impl_GraphOk.j1 k y0 y1 y2 y3 y4 y5 y6 y7 y8 y9 y10 y11) (impl_GraphOk.j1 (k + 1) y0 y1 y2 y3 y4 y5 y6 y7 y8 y9 y10 y11))
 | 0=>⟨fun _ _ _ _ _ r h=>by simp [impl_GraphOk.l0] at h,fun _ _ _ _ _ _ _ _ _ _ _ _ r h=>by simp [impl_GraphOk.j1] at h⟩
 | k + 1=>by
  obtain ⟨ih0,ih1⟩:=impl_GraphOk.mono_l k
  refine ⟨?_,?_⟩ <;> intros <;> first|unfold impl_GraphOk.l0|unfold impl_GraphOk.j1
  all_goals repeat' first|(with_reducible first|exact ih0 _ _ _ _ _|exact ih1 _ _ _ _ _ _ _ _ _ _ _ _|exact LeO.refl _|exact LeO.none _|refine LeO.ite ?_ ?_|refine LeO.bind ?_ (fun _=>?_))|exact ih0 _ _ _ _ _|exact ih1 _ _ _ _ _ _ _ _ _ _ _ _|exact LeO.none _|refine LeO.ite ?_ ?_|refine LeO.bind ?_ (fun _=>?_)
theorem impl_GraphOk.mono : ∀ a0 a1 k,LeO (impl_GraphOk.f k a0 a1) (impl_GraphOk.f (k + 1) a0 a1):=by
 intro a0 a1 k
 obtain ⟨ih0,ih1⟩:=impl_GraphOk.mono_l k
 unfold impl_GraphOk.f
 repeat' first|(with_reducible first|exact ih0 _ _ _ _ _|exact ih1 _ _ _ _ _ _ _ _ _ _ _ _|exact LeO.refl _|exact LeO.none _|refine LeO.ite ?_ ?_|refine LeO.bind ?_ (fun _=>?_))|exact ih0 _ _ _ _ _|exact ih1 _ _ _ _ _ _ _ _ _ _ _ _|exact LeO.none _|refine LeO.ite ?_ ?_|refine LeO.bind ?_ (fun _=>?_)
set_option maxHeartbeats 8000000 in
set_option maxRecDepth 100000 in
theorem impl_GraphOk.calls (k : Nat) (a0_0 : Int) (A0_1 : Option Addr) (c0_1 : Nat) (l0_1 : List (S51)) (r : Bool) (w : World) (hr0_1 : Kd.C k51 w A0_1 l0_1.length l0_1) (hc0_1 : l0_1.length ≤ c0_1) (h : impl_GraphOk.f k a0_0 l0_1 = some r) :
  Calls Try.prog 13 #[.agg #[.int .i64 a0_0,.slice A0_1 l0_1.length c0_1]] w fun e w'=>e = .returned (.bool r) ∧ Below w.heap.size w w':=by
 have hu29:=Try.underlying29
 have hu51:=Try.underlying51
 have HR0_1:=qy.mk hr0_1
 have HC0_1:=qy.mk hc0_1
 clear hr0_1 hc0_1
 have HB:=qy.mk (Below.refl w.heap.size w)
 have H : ((impl_in.f a0_0 0 9).bind fun t211=>(if t211 = true then (impl_GraphOk.l0 k l0_1 (l0_1.length : Int) 0 a0_0 l0_1) else (some false))) = some r:=h
 clear h
 replace H:=Option.bind_eq_some_iff.mp H
 obtain ⟨t211,A20,H⟩:=H
 replace H : (if t211 = true then (impl_GraphOk.l0 k l0_1 (l0_1.length : Int) 0 a0_0 l0_1) else (some false)) = some r:=H
 have A2:=qy.mk A20
 clear A20
 by_cases c3 : t211 = true
 ·subst c3
  have H1 : (impl_GraphOk.l0 k l0_1 (l0_1.length : Int) 0 a0_0 l0_1) = some r:=by rw [if_pos rfl] at H;exact H
  clear H
  have H:=H1
  clear H1
  have H':=qy.mk H
  clear H
  go_enter Try.func13,Try.ntmps13
  go_wp2_with (first|((with_reducible refine gate_dst (N:=1) rfl ?_);refine box_event ?hg (N:=1) ?hd (cs:=#[.int .i64 a0_0,.slice A0_1 l0_1.length c0_1]) (t:=29) ?hr ?_;(case hd=>rfl);(case hg=>rfl);(case hr=>first|(go_simp;done)|(go_simp;rfl));intro gb210 hg w4 hbox hb;have BK210:=qy.mk (hbox);have GW210:=qy.mk ((by rw [hg];exact (qu hx_) : w.heap.size ≤ gb210));have GE210:=qy.mk ((by rw [hg];exact (qu hx_) : w.heap.size ≤ gb210));replace HB:=hs_ HB hb;clear hb hbox hg;obtain ⟨hcz5_0,hcz5_1,hfz5_0,hfz5_1⟩:=c2f_ BK210.out)|(go_at_call 22;(with_reducible refine (impl_in.calls a0_0 0 9 true _ A2.out).mono ?_);rintro e w' ⟨rfl,⟨nd,rfl⟩⟩;(try first|exact ⟨rfl,_,World.drewN_drewN _ _ _⟩|exact ⟨rfl,_,Eq.trans (World.drewN_drewN _ _ _) (congrArg (World.drewN _) (Nat.add_assoc _ _ _))⟩)))
  repeat (go_quiet (first|((with_reducible refine gate_dst (N:=1) rfl ?_);refine box_event ?hg (N:=1) ?hd (cs:=#[.int .i64 a0_0,.slice A0_1 l0_1.length c0_1]) (t:=29) ?hr ?_;(case hd=>rfl);(case hg=>rfl);(case hr=>first|(go_simp;done)|(go_simp;rfl));intro gb210 hg w4 hbox hb;have BK210:=qy.mk (hbox);have GW210:=qy.mk ((by rw [hg];exact (qu hx_) : w.heap.size ≤ gb210));have GE210:=qy.mk ((by rw [hg];exact (qu hx_) : w.heap.size ≤ gb210));replace HB:=hs_ HB hb;clear hb hbox hg;obtain ⟨hcz5_0,hcz5_1,hfz5_0,hfz5_1⟩:=c2f_ BK210.out)|(go_at_call 22;(with_reducible refine (impl_in.calls a0_0 0 9 true _ A2.out).mono ?_);rintro e w' ⟨rfl,⟨nd,rfl⟩⟩;(try first|exact ⟨rfl,_,World.drewN_drewN _ _ _⟩|exact ⟨rfl,_,Eq.trans (World.drewN_drewN _ _ _) (congrArg (World.drewN _) (Nat.add_assoc _ _ _))⟩)));try go_wp2_with (first|((with_reducible refine gate_dst (N:=1) rfl ?_);refine box_event ?hg (N:=1) ?hd (cs:=#[.int .i64 a0_0,.slice A0_1 l0_1.length c0_1]) (t:=29) ?hr ?_;(case hd=>rfl);(case hg=>rfl);(case hr=>first|(go_simp;done)|(go_simp;rfl));intro gb210 hg w4 hbox hb;have BK210:=qy.mk (hbox);have GW210:=qy.mk ((by rw [hg];exact (qu hx_) : w.heap.size ≤ gb210));have GE210:=qy.mk ((by rw [hg];exact (qu hx_) : w.heap.size ≤ gb210));replace HB:=hs_ HB hb;clear hb hbox hg;obtain ⟨hcz5_0,hcz5_1,hfz5_0,hfz5_1⟩:=c2f_ BK210.out)|(go_at_call 22;(with_reducible refine (impl_in.calls a0_0 0 9 true _ A2.out).mono ?_);rintro e w' ⟨rfl,⟨nd,rfl⟩⟩;(try first|exact ⟨rfl,_,World.drewN_drewN _ _ _⟩|exact ⟨rfl,_,Eq.trans (World.drewN_drewN _ _ _) (congrArg (World.drewN _) (Nat.add_assoc _ _ _))⟩))))
  go_loopg [13] k (fun kq v13 w'=>∃ (x13_1 : Int),v13 = .int .i64 x13_1 ∧ qy (impl_GraphOk.l0 kq l0_1 (l0_1.length : Int) x13_1 a0_0 l0_1 = some r) ∧ qy (kq ≤ k) ∧ qy (w'.heap[gb210]? = some (.cells #[.int .i64 a0_0,(.slice A0_1 l0_1.length c0_1)] 29 (0,0))) ∧ qy (Below w.heap.size w w'))
  case atStart=>exact ⟨(0),rs_,H',⟨Nat.le_refl _⟩,(bx_ BK210),⟨hx_⟩⟩
  clear H'
  try clear c1
  try clear p2
  try clear c3
  try clear hcz5_0
  try clear hcz5_1
  try clear hfz5_0
  try clear hfz5_1
  obtain ⟨x13_1,rfl,HA,HK1,BK210,HB⟩:=hrel
  obtain _|k1:=gk
  ·exact absurd HA.out (by simp [impl_GraphOk.l0])
  have H:=HA.out
  clear HA
  simp only [impl_GraphOk.l0] at H
  by_cases c6 : x13_1 < (l0_1.length : Int)
  ·rw [if_pos c6] at H
   have c6b0 : decide (x13_1 < (l0_1.length : Int)) = true:=decide_eq_true c6
   clear c6
   by_cases c7 : 0 ≤ x13_1
   ·rw [if_pos c7] at H
    have c7b0 : decide (0 ≤ x13_1) = true:=decide_eq_true c7
    clear c7
    by_cases c8 : x13_1 < (l0_1.length : Int)
    ·rw [if_pos c8] at H
     have c8b0 : decide (x13_1 < (l0_1.length : Int)) = true:=decide_eq_true c8
     clear c8
     have HC9:=qy.mk H
     clear H
     have p212 : 0 ≤ (x13_1 : Int):=dt_
     have q212 : x13_1 < (l0_1.length : Int):=dt_
     obtain ⟨ad212,e212,hx212_0,hx212_1,hx212_2,hx212_3,hx212_4⟩:=at_T51 HR0_1.out x13_1 p212 q212
     cases e212
     replace hx212_0:=cb_ HB hx212_0
     replace hx212_1:=cb_ HB hx212_1
     replace hx212_2:=cb_ HB hx212_2
     replace hx212_3:=cb_ HB hx212_3
     replace hx212_4:=cb_ HB hx212_4
     replace p212:=eq_true p212
     replace q212:=eq_true q212
     go_upto_region 6 with (first|((with_reducible refine gate_dst (N:=4) rfl ?_);refine box_event ?hg (N:=4) ?hd (cs:=#[.int .i64 0,.int .i64 0,.int .i64 0,.int .i64 0,.int .i64 0]) (t:=51) ?hr ?_;(case hd=>rfl);(case hg=>rfl);(case hr=>first|(go_simp;done)|(go_simp;rfl));intro gb213 hg w10 hbox hb;have BK213:=qy.mk (hbox);have GW213:=qy.mk ((by rw [hg];exact (qu hx_) : w.heap.size ≤ gb213));have GE213:=qy.mk ((by rw [hg];exact (qu hx_) : w.heap.size ≤ gb213));have NB210_213:=qy.mk ((by rw [hg];exact nl_ BK210 : gb210 ≠ gb213));have NB213_210:=qy.mk ((by rw [hg];exact ng_ BK210 : gb213 ≠ gb210));replace BK210:=bb_ BK210 hb;replace HB:=hs_ HB hb;clear hb hbox hg;have hnb11:=NB213_210.out;have hnc11:=NB210_213.out;obtain ⟨hcz12_0,hcz12_1,hcz12_2,hcz12_3,hcz12_4,hfz12_0,hfz12_1,hfz12_2,hfz12_3,hfz12_4⟩:=c5f_ BK213.out))
     repeat (go_quiet (first|((with_reducible refine gate_dst (N:=4) rfl ?_);refine box_event ?hg (N:=4) ?hd (cs:=#[.int .i64 0,.int .i64 0,.int .i64 0,.int .i64 0,.int .i64 0]) (t:=51) ?hr ?_;(case hd=>rfl);(case hg=>rfl);(case hr=>first|(go_simp;done)|(go_simp;rfl));intro gb213 hg w10 hbox hb;have BK213:=qy.mk (hbox);have GW213:=qy.mk ((by rw [hg];exact (qu hx_) : w.heap.size ≤ gb213));have GE213:=qy.mk ((by rw [hg];exact (qu hx_) : w.heap.size ≤ gb213));have NB210_213:=qy.mk ((by rw [hg];exact nl_ BK210 : gb210 ≠ gb213));have NB213_210:=qy.mk ((by rw [hg];exact ng_ BK210 : gb213 ≠ gb210));replace BK210:=bb_ BK210 hb;replace HB:=hs_ HB hb;clear hb hbox hg;have hnb11:=NB213_210.out;have hnc11:=NB210_213.out;obtain ⟨hcz12_0,hcz12_1,hcz12_2,hcz12_3,hcz12_4,hfz12_0,hfz12_1,hfz12_2,hfz12_3,hfz12_4⟩:=c5f_ BK213.out));go_upto_region 6 with (first|((with_reducible refine gate_dst (N:=4) rfl ?_);refine box_event ?hg (N:=4) ?hd (cs:=#[.int .i64 0,.int .i64 0,.int .i64 0,.int .i64 0,.int .i64 0]) (t:=51) ?hr ?_;(case hd=>rfl);(case hg=>rfl);(case hr=>first|(go_simp;done)|(go_simp;rfl));intro gb213 hg w10 hbox hb;have BK213:=qy.mk (hbox);have GW213:=qy.mk ((by rw [hg];exact (qu hx_) : w.heap.size ≤ gb213));have GE213:=qy.mk ((by rw [hg];exact (qu hx_) : w.heap.size ≤ gb213));have NB210_213:=qy.mk ((by rw [hg];exact nl_ BK210 : gb210 ≠ gb213));have NB213_210:=qy.mk ((by rw [hg];exact ng_ BK210 : gb213 ≠ gb210));replace BK210:=bb_ BK210 hb;replace HB:=hs_ HB hb;clear hb hbox hg;have hnb11:=NB213_210.out;have hnc11:=NB210_213.out;obtain ⟨hcz12_0,hcz12_1,hcz12_2,hcz12_3,hcz12_4,hfz12_0,hfz12_1,hfz12_2,hfz12_3,hfz12_4⟩:=c5f_ BK213.out)))
     (try simp only [Act.put,List.setIfInBounds_toArray,List.set_cons_zero,List.set_cons_succ])
     go_cut [58] (fun v58 wc=>∃ (kq : Nat) (x58_8 : Bool),v58 = .bool x58_8 ∧ qy (impl_GraphOk.j1 kq x13_1 l0_1 (l0_1.length : Int) x13_1 x58_8 a0_0 l0_1 ((rd_T51 l0_1 x13_1).f0) ((rd_T51 l0_1 x13_1).f1) ((rd_T51 l0_1 x13_1).f2) ((rd_T51 l0_1 x13_1).f3) ((rd_T51 l0_1 x13_1).f4) = some r) ∧ qy (kq ≤ k1) ∧ qy (wc.heap[gb210]? = some (.cells #[.int .i64 a0_0,(.slice (some ad212) l0_1.length c0_1)] 29 (0,0))) ∧ qy (wc.heap[gb213]? = some (.cells #[.int .i64 ((rd_T51 l0_1 x13_1).f0),.int .i64 ((rd_T51 l0_1 x13_1).f1),.int .i64 ((rd_T51 l0_1 x13_1).f2),.int .i64 ((rd_T51 l0_1 x13_1).f3),.int .i64 ((rd_T51 l0_1 x13_1).f4)] 51 (0,0))) ∧ qy (Below w.heap.size w wc))
     case first =>
      have H:=HC9.out
      clear HC9
      replace H:=Option.bind_eq_some_iff.mp H
      obtain ⟨t214,A130,H⟩:=H
      replace H : (if t214 = true then ((impl_in.f ((rd_T51 l0_1 x13_1).f1) 0 (wrap64 (a0_0 - 1))).bind fun t215=>(if t215 = true then (if ((rd_T51 l0_1 x13_1).f0) ≥ ((rd_T51 l0_1 x13_1).f1) then (impl_GraphOk.j1 k1 x13_1 l0_1 (l0_1.length : Int) x13_1 true a0_0 l0_1 ((rd_T51 l0_1 x13_1).f0) ((rd_T51 l0_1 x13_1).f1) ((rd_T51 l0_1 x13_1).f2) ((rd_T51 l0_1 x13_1).f3) ((rd_T51 l0_1 x13_1).f4)) else ((impl_in.f ((rd_T51 l0_1 x13_1).f2) 0 50).bind fun t216=>(if t216 = true then ((impl_in.f ((rd_T51 l0_1 x13_1).f3) 0 50).bind fun t217=>(if t217 = true then ((impl_in.f ((rd_T51 l0_1 x13_1).f4) 0 50).bind fun t218=>(impl_GraphOk.j1 k1 x13_1 l0_1 (l0_1.length : Int) x13_1 (!t218) a0_0 l0_1 ((rd_T51 l0_1 x13_1).f0) ((rd_T51 l0_1 x13_1).f1) ((rd_T51 l0_1 x13_1).f2) ((rd_T51 l0_1 x13_1).f3) ((rd_T51 l0_1 x13_1).f4))) else (impl_GraphOk.j1 k1 x13_1 l0_1 (l0_1.length : Int) x13_1 true a0_0 l0_1 ((rd_T51 l0_1 x13_1).f0) ((rd_T51 l0_1 x13_1).f1) ((rd_T51 l0_1 x13_1).f2) ((rd_T51 l0_1 x13_1).f3) ((rd_T51 l0_1 x13_1).f4)))) else (impl_GraphOk.j1 k1 x13_1 l0_1 (l0_1.length : Int) x13_1 true a0_0 l0_1 ((rd_T51 l0_1 x13_1).f0) ((rd_T51 l0_1 x13_1).f1) ((rd_T51 l0_1 x13_1).f2) ((rd_T51 l0_1 x13_1).f3) ((rd_T51 l0_1 x13_1).f4))))) else (impl_GraphOk.j1 k1 x13_1 l0_1 (l0_1.length : Int) x13_1 true a0_0 l0_1 ((rd_T51 l0_1 x13_1).f0) ((rd_T51 l0_1 x13_1).f1) ((rd_T51 l0_1 x13_1).f2) ((rd_T51 l0_1 x13_1).f3) ((rd_T51 l0_1 x13_1).f4)))) else (impl_GraphOk.j1 k1 x13_1 l0_1 (l0_1.length : Int) x13_1 true a0_0 l0_1 ((rd_T51 l0_1 x13_1).f0) ((rd_T51 l0_1 x13_1).f1) ((rd_T51 l0_1 x13_1).f2) ((rd_T51 l0_1 x13_1).f3) ((rd_T51 l0_1 x13_1).f4))) = some r:=H
      have A13:=qy.mk A130
      clear A130
      by_cases c14 : t214 = true
      ·subst c14
       have H1 : ((impl_in.f ((rd_T51 l0_1 x13_1).f1) 0 (wrap64 (a0_0 - 1))).bind fun t215=>(if t215 = true then (if ((rd_T51 l0_1 x13_1).f0) ≥ ((rd_T51 l0_1 x13_1).f1) then (impl_GraphOk.j1 k1 x13_1 l0_1 (l0_1.length : Int) x13_1 true a0_0 l0_1 ((rd_T51 l0_1 x13_1).f0) ((rd_T51 l0_1 x13_1).f1) ((rd_T51 l0_1 x13_1).f2) ((rd_T51 l0_1 x13_1).f3) ((rd_T51 l0_1 x13_1).f4)) else ((impl_in.f ((rd_T51 l0_1 x13_1).f2) 0 50).bind fun t216=>(if t216 = true then ((impl_in.f ((rd_T51 l0_1 x13_1).f3) 0 50).bind fun t217=>(if t217 = true then ((impl_in.f ((rd_T51 l0_1 x13_1).f4) 0 50).bind fun t218=>(impl_GraphOk.j1 k1 x13_1 l0_1 (l0_1.length : Int) x13_1 (!t218) a0_0 l0_1 ((rd_T51 l0_1 x13_1).f0) ((rd_T51 l0_1 x13_1).f1) ((rd_T51 l0_1 x13_1).f2) ((rd_T51 l0_1 x13_1).f3) ((rd_T51 l0_1 x13_1).f4))) else (impl_GraphOk.j1 k1 x13_1 l0_1 (l0_1.length : Int) x13_1 true a0_0 l0_1 ((rd_T51 l0_1 x13_1).f0) ((rd_T51 l0_1 x13_1).f1) ((rd_T51 l0_1 x13_1).f2) ((rd_T51 l0_1 x13_1).f3) ((rd_T51 l0_1 x13_1).f4)))) else (impl_GraphOk.j1 k1 x13_1 l0_1 (l0_1.length : Int) x13_1 true a0_0 l0_1 ((rd_T51 l0_1 x13_1).f0) ((rd_T51 l0_1 x13_1).f1) ((rd_T51 l0_1 x13_1).f2) ((rd_T51 l0_1 x13_1).f3) ((rd_T51 l0_1 x13_1).f4))))) else (impl_GraphOk.j1 k1 x13_1 l0_1 (l0_1.length : Int) x13_1 true a0_0 l0_1 ((rd_T51 l0_1 x13_1).f0) ((rd_T51 l0_1 x13_1).f1) ((rd_T51 l0_1 x13_1).f2) ((rd_T51 l0_1 x13_1).f3) ((rd_T51 l0_1 x13_1).f4)))) = some r:=by rw [if_pos rfl] at H;exact H
       clear H
       have H:=H1
       clear H1
       replace H:=Option.bind_eq_some_iff.mp H
       obtain ⟨t215,A150,H⟩:=H
       replace H : (if t215 = true then (if ((rd_T51 l0_1 x13_1).f0) ≥ ((rd_T51 l0_1 x13_1).f1) then (impl_GraphOk.j1 k1 x13_1 l0_1 (l0_1.length : Int) x13_1 true a0_0 l0_1 ((rd_T51 l0_1 x13_1).f0) ((rd_T51 l0_1 x13_1).f1) ((rd_T51 l0_1 x13_1).f2) ((rd_T51 l0_1 x13_1).f3) ((rd_T51 l0_1 x13_1).f4)) else ((impl_in.f ((rd_T51 l0_1 x13_1).f2) 0 50).bind fun t216=>(if t216 = true then ((impl_in.f ((rd_T51 l0_1 x13_1).f3) 0 50).bind fun t217=>(if t217 = true then ((impl_in.f ((rd_T51 l0_1 x13_1).f4) 0 50).bind fun t218=>(impl_GraphOk.j1 k1 x13_1 l0_1 (l0_1.length : Int) x13_1 (!t218) a0_0 l0_1 ((rd_T51 l0_1 x13_1).f0) ((rd_T51 l0_1 x13_1).f1) ((rd_T51 l0_1 x13_1).f2) ((rd_T51 l0_1 x13_1).f3) ((rd_T51 l0_1 x13_1).f4))) else (impl_GraphOk.j1 k1 x13_1 l0_1 (l0_1.length : Int) x13_1 true a0_0 l0_1 ((rd_T51 l0_1 x13_1).f0) ((rd_T51 l0_1 x13_1).f1) ((rd_T51 l0_1 x13_1).f2) ((rd_T51 l0_1 x13_1).f3) ((rd_T51 l0_1 x13_1).f4)))) else (impl_GraphOk.j1 k1 x13_1 l0_1 (l0_1.length : Int) x13_1 true a0_0 l0_1 ((rd_T51 l0_1 x13_1).f0) ((rd_T51 l0_1 x13_1).f1) ((rd_T51 l0_1 x13_1).f2) ((rd_T51 l0_1 x13_1).f3) ((rd_T51 l0_1 x13_1).f4))))) else (impl_GraphOk.j1 k1 x13_1 l0_1 (l0_1.length : Int) x13_1 true a0_0 l0_1 ((rd_T51 l0_1 x13_1).f0) ((rd_T51 l0_1 x13_1).f1) ((rd_T51 l0_1 x13_1).f2) ((rd_T51 l0_1 x13_1).f3) ((rd_T51 l0_1 x13_1).f4))) = some r:=H
       have A15:=qy.mk A150
       clear A150
       by_cases c16 : t215 = true
       ·subst c16
        have H1 : (if ((rd_T51 l0_1 x13_1).f0) ≥ ((rd_T51 l0_1 x13_1).f1) then (impl_GraphOk.j1 k1 x13_1 l0_1 (l0_1.length : Int) x13_1 true a0_0 l0_1 ((rd_T51 l0_1 x13_1).f0) ((rd_T51 l0_1 x13_1).f1) ((rd_T51 l0_1 x13_1).f2) ((rd_T51 l0_1 x13_1).f3) ((rd_T51 l0_1 x13_1).f4)) else ((impl_in.f ((rd_T51 l0_1 x13_1).f2) 0 50).bind fun t216=>(if t216 = true then ((impl_in.f ((rd_T51 l0_1 x13_1).f3) 0 50).bind fun t217=>(if t217 = true then ((impl_in.f ((rd_T51 l0_1 x13_1).f4) 0 50).bind fun t218=>(impl_GraphOk.j1 k1 x13_1 l0_1 (l0_1.length : Int) x13_1 (!t218) a0_0 l0_1 ((rd_T51 l0_1 x13_1).f0) ((rd_T51 l0_1 x13_1).f1) ((rd_T51 l0_1 x13_1).f2) ((rd_T51 l0_1 x13_1).f3) ((rd_T51 l0_1 x13_1).f4))) else (impl_GraphOk.j1 k1 x13_1 l0_1 (l0_1.length : Int) x13_1 true a0_0 l0_1 ((rd_T51 l0_1 x13_1).f0) ((rd_T51 l0_1 x13_1).f1) ((rd_T51 l0_1 x13_1).f2) ((rd_T51 l0_1 x13_1).f3) ((rd_T51 l0_1 x13_1).f4)))) else (impl_GraphOk.j1 k1 x13_1 l0_1 (l0_1.length : Int) x13_1 true a0_0 l0_1 ((rd_T51 l0_1 x13_1).f0) ((rd_T51 l0_1 x13_1).f1) ((rd_T51 l0_1 x13_1).f2) ((rd_T51 l0_1 x13_1).f3) ((rd_T51 l0_1 x13_1).f4))))) = some r:=by rw [if_pos rfl] at H;exact H
        clear H
        have H:=H1
        clear H1
        by_cases c17 : ((rd_T51 l0_1 x13_1).f0) ≥ ((rd_T51 l0_1 x13_1).f1)
        ·rw [if_pos c17] at H
         have c17b0 : decide (((rd_T51 l0_1 x13_1).f1) ≤ ((rd_T51 l0_1 x13_1).f0)) = true:=decide_eq_true c17
         clear c17
         (first|rw [c17b0]|(simp only [i64_w,i32_w];rw [c17b0])|skip)
         have H':=qy.mk H
         clear H
         have hnb18:=NB213_210.out
         have hnc18:=NB210_213.out
         obtain ⟨hcz19_0,hcz19_1,hcz19_2,hcz19_3,hcz19_4,hfz19_0,hfz19_1,hfz19_2,hfz19_3,hfz19_4⟩:=c5f_ BK213.out
         obtain ⟨hcz20_0,hcz20_1,hfz20_0,hfz20_1⟩:=c2f_ BK210.out
         go_wp2_with (first|(go_at_call 22;(with_reducible refine (impl_in.calls ((rd_T51 l0_1 x13_1).f0) 0 (wrap64 (a0_0 - 1)) true _ A13.out).mono ?_);rintro e w' ⟨rfl,⟨nd,rfl⟩⟩;(try first|exact ⟨rfl,_,World.drewN_drewN _ _ _⟩|exact ⟨rfl,_,Eq.trans (World.drewN_drewN _ _ _) (congrArg (World.drewN _) (Nat.add_assoc _ _ _))⟩))|(go_at_call 22;(with_reducible refine (impl_in.calls ((rd_T51 l0_1 x13_1).f1) 0 (wrap64 (a0_0 - 1)) true _ A15.out).mono ?_);rintro e w' ⟨rfl,⟨nd,rfl⟩⟩;(try first|exact ⟨rfl,_,World.drewN_drewN _ _ _⟩|exact ⟨rfl,_,Eq.trans (World.drewN_drewN _ _ _) (congrArg (World.drewN _) (Nat.add_assoc _ _ _))⟩)))
         repeat (go_quiet (first|(go_at_call 22;(with_reducible refine (impl_in.calls ((rd_T51 l0_1 x13_1).f0) 0 (wrap64 (a0_0 - 1)) true _ A13.out).mono ?_);rintro e w' ⟨rfl,⟨nd,rfl⟩⟩;(try first|exact ⟨rfl,_,World.drewN_drewN _ _ _⟩|exact ⟨rfl,_,Eq.trans (World.drewN_drewN _ _ _) (congrArg (World.drewN _) (Nat.add_assoc _ _ _))⟩))|(go_at_call 22;(with_reducible refine (impl_in.calls ((rd_T51 l0_1 x13_1).f1) 0 (wrap64 (a0_0 - 1)) true _ A15.out).mono ?_);rintro e w' ⟨rfl,⟨nd,rfl⟩⟩;(try first|exact ⟨rfl,_,World.drewN_drewN _ _ _⟩|exact ⟨rfl,_,Eq.trans (World.drewN_drewN _ _ _) (congrArg (World.drewN _) (Nat.add_assoc _ _ _))⟩)));try go_wp2_with (first|(go_at_call 22;(with_reducible refine (impl_in.calls ((rd_T51 l0_1 x13_1).f0) 0 (wrap64 (a0_0 - 1)) true _ A13.out).mono ?_);rintro e w' ⟨rfl,⟨nd,rfl⟩⟩;(try first|exact ⟨rfl,_,World.drewN_drewN _ _ _⟩|exact ⟨rfl,_,Eq.trans (World.drewN_drewN _ _ _) (congrArg (World.drewN _) (Nat.add_assoc _ _ _))⟩))|(go_at_call 22;(with_reducible refine (impl_in.calls ((rd_T51 l0_1 x13_1).f1) 0 (wrap64 (a0_0 - 1)) true _ A15.out).mono ?_);rintro e w' ⟨rfl,⟨nd,rfl⟩⟩;(try first|exact ⟨rfl,_,World.drewN_drewN _ _ _⟩|exact ⟨rfl,_,Eq.trans (World.drewN_drewN _ _ _) (congrArg (World.drewN _) (Nat.add_assoc _ _ _))⟩))))
         go_meet
         case rel=>exact ⟨_,(true),rs_,H',⟨by have:=HK1.out;first|omega|exact Nat.le_refl _⟩,⟨by (with_reducible repeat (first|refine qf ?_ _|refine qk ?_|refine qg ?_ _));refine blk_far ?_ NB210_213.out _;(with_reducible repeat (first|refine qf ?_ _|refine qk ?_|refine qg ?_ _));refine blk_far ?_ NB210_213.out _;(with_reducible repeat (first|refine qf ?_ _|refine qk ?_|refine qg ?_ _));refine blk_far ?_ NB210_213.out _;(with_reducible repeat (first|refine qf ?_ _|refine qk ?_|refine qg ?_ _));refine blk_far ?_ NB210_213.out _;(with_reducible repeat (first|refine qf ?_ _|refine qk ?_|refine qg ?_ _));refine blk_far ?_ NB210_213.out _;(with_reducible repeat (first|refine qf ?_ _|refine qk ?_|refine qg ?_ _));exact BK210.out⟩,⟨by (with_reducible repeat (first|refine qf ?_ _|refine qk ?_|refine qg ?_ _));refine blk_put (cs:=#[.int .i64 ((rd_T51 l0_1 x13_1).f0),.int .i64 ((rd_T51 l0_1 x13_1).f1),.int .i64 ((rd_T51 l0_1 x13_1).f2),.int .i64 ((rd_T51 l0_1 x13_1).f3),.int .i64 0]) ?_ 4 _ rfl;(with_reducible repeat (first|refine qf ?_ _|refine qk ?_|refine qg ?_ _));refine blk_put (cs:=#[.int .i64 ((rd_T51 l0_1 x13_1).f0),.int .i64 ((rd_T51 l0_1 x13_1).f1),.int .i64 ((rd_T51 l0_1 x13_1).f2),.int .i64 0,.int .i64 0]) ?_ 3 _ rfl;(with_reducible repeat (first|refine qf ?_ _|refine qk ?_|refine qg ?_ _));refine blk_put (cs:=#[.int .i64 ((rd_T51 l0_1 x13_1).f0),.int .i64 ((rd_T51 l0_1 x13_1).f1),.int .i64 0,.int .i64 0,.int .i64 0]) ?_ 2 _ rfl;(with_reducible repeat (first|refine qf ?_ _|refine qk ?_|refine qg ?_ _));refine blk_put (cs:=#[.int .i64 ((rd_T51 l0_1 x13_1).f0),.int .i64 0,.int .i64 0,.int .i64 0,.int .i64 0]) ?_ 1 _ rfl;(with_reducible repeat (first|refine qf ?_ _|refine qk ?_|refine qg ?_ _));refine blk_put (cs:=#[.int .i64 0,.int .i64 0,.int .i64 0,.int .i64 0,.int .i64 0]) ?_ 0 _ rfl;(with_reducible repeat (first|refine qf ?_ _|refine qk ?_|refine qg ?_ _));exact BK213.out⟩,⟨hx_⟩⟩
        rw [if_neg c17] at H
        have c17b0 : decide (((rd_T51 l0_1 x13_1).f1) ≤ ((rd_T51 l0_1 x13_1).f0)) = false:=decide_eq_false c17
        clear c17
        (first|rw [c17b0]|(simp only [i64_w,i32_w];rw [c17b0])|skip)
        replace H:=Option.bind_eq_some_iff.mp H
        obtain ⟨t216,A210,H⟩:=H
        replace H : (if t216 = true then ((impl_in.f ((rd_T51 l0_1 x13_1).f3) 0 50).bind fun t217=>(if t217 = true then ((impl_in.f ((rd_T51 l0_1 x13_1).f4) 0 50).bind fun t218=>(impl_GraphOk.j1 k1 x13_1 l0_1 (l0_1.length : Int) x13_1 (!t218) a0_0 l0_1 ((rd_T51 l0_1 x13_1).f0) ((rd_T51 l0_1 x13_1).f1) ((rd_T51 l0_1 x13_1).f2) ((rd_T51 l0_1 x13_1).f3) ((rd_T51 l0_1 x13_1).f4))) else (impl_GraphOk.j1 k1 x13_1 l0_1 (l0_1.length : Int) x13_1 true a0_0 l0_1 ((rd_T51 l0_1 x13_1).f0) ((rd_T51 l0_1 x13_1).f1) ((rd_T51 l0_1 x13_1).f2) ((rd_T51 l0_1 x13_1).f3) ((rd_T51 l0_1 x13_1).f4)))) else (impl_GraphOk.j1 k1 x13_1 l0_1 (l0_1.length : Int) x13_1 true a0_0 l0_1 ((rd_T51 l0_1 x13_1).f0) ((rd_T51 l0_1 x13_1).f1) ((rd_T51 l0_1 x13_1).f2) ((rd_T51 l0_1 x13_1).f3) ((rd_T51 l0_1 x13_1).f4))) = some r:=H
        have A21:=qy.mk A210
        clear A210
        by_cases c22 : t216 = true
        ·subst c22
         have H1 : ((impl_in.f ((rd_T51 l0_1 x13_1).f3) 0 50).bind fun t217=>(if t217 = true then ((impl_in.f ((rd_T51 l0_1 x13_1).f4) 0 50).bind fun t218=>(impl_GraphOk.j1 k1 x13_1 l0_1 (l0_1.length : Int) x13_1 (!t218) a0_0 l0_1 ((rd_T51 l0_1 x13_1).f0) ((rd_T51 l0_1 x13_1).f1) ((rd_T51 l0_1 x13_1).f2) ((rd_T51 l0_1 x13_1).f3) ((rd_T51 l0_1 x13_1).f4))) else (impl_GraphOk.j1 k1 x13_1 l0_1 (l0_1.length : Int) x13_1 true a0_0 l0_1 ((rd_T51 l0_1 x13_1).f0) ((rd_T51 l0_1 x13_1).f1) ((rd_T51 l0_1 x13_1).f2) ((rd_T51 l0_1 x13_1).f3) ((rd_T51 l0_1 x13_1).f4)))) = some r:=by rw [if_pos rfl] at H;exact H
         clear H
         have H:=H1
         clear H1
         replace H:=Option.bind_eq_some_iff.mp H
         obtain ⟨t217,A230,H⟩:=H
         replace H : (if t217 = true then ((impl_in.f ((rd_T51 l0_1 x13_1).f4) 0 50).bind fun t218=>(impl_GraphOk.j1 k1 x13_1 l0_1 (l0_1.length : Int) x13_1 (!t218) a0_0 l0_1 ((rd_T51 l0_1 x13_1).f0) ((rd_T51 l0_1 x13_1).f1) ((rd_T51 l0_1 x13_1).f2) ((rd_T51 l0_1 x13_1).f3) ((rd_T51 l0_1 x13_1).f4))) else (impl_GraphOk.j1 k1 x13_1 l0_1 (l0_1.length : Int) x13_1 true a0_0 l0_1 ((rd_T51 l0_1 x13_1).f0) ((rd_T51 l0_1 x13_1).f1) ((rd_T51 l0_1 x13_1).f2) ((rd_T51 l0_1 x13_1).f3) ((rd_T51 l0_1 x13_1).f4))) = some r:=H
         have A23:=qy.mk A230
         clear A230
         by_cases c24 : t217 = true
         ·subst c24
          have H1 : ((impl_in.f ((rd_T51 l0_1 x13_1).f4) 0 50).bind fun t218=>(impl_GraphOk.j1 k1 x13_1 l0_1 (l0_1.length : Int) x13_1 (!t218) a0_0 l0_1 ((rd_T51 l0_1 x13_1).f0) ((rd_T51 l0_1 x13_1).f1) ((rd_T51 l0_1 x13_1).f2) ((rd_T51 l0_1 x13_1).f3) ((rd_T51 l0_1 x13_1).f4))) = some r:=by rw [if_pos rfl] at H;exact H
          clear H
          have H:=H1
          clear H1
          replace H:=Option.bind_eq_some_iff.mp H
          obtain ⟨t218,A250,H⟩:=H
          replace H : (impl_GraphOk.j1 k1 x13_1 l0_1 (l0_1.length : Int) x13_1 (!t218) a0_0 l0_1 ((rd_T51 l0_1 x13_1).f0) ((rd_T51 l0_1 x13_1).f1) ((rd_T51 l0_1 x13_1).f2) ((rd_T51 l0_1 x13_1).f3) ((rd_T51 l0_1 x13_1).f4)) = some r:=H
          have A25:=qy.mk A250
          clear A250
          have H':=qy.mk H
          clear H
          have hnb26:=NB213_210.out
          have hnc26:=NB210_213.out
          obtain ⟨hcz27_0,hcz27_1,hcz27_2,hcz27_3,hcz27_4,hfz27_0,hfz27_1,hfz27_2,hfz27_3,hfz27_4⟩:=c5f_ BK213.out
          obtain ⟨hcz28_0,hcz28_1,hfz28_0,hfz28_1⟩:=c2f_ BK210.out
          go_wp2_with (first|(go_at_call 22;(with_reducible refine (impl_in.calls ((rd_T51 l0_1 x13_1).f0) 0 (wrap64 (a0_0 - 1)) true _ A13.out).mono ?_);rintro e w' ⟨rfl,⟨nd,rfl⟩⟩;(try first|exact ⟨rfl,_,World.drewN_drewN _ _ _⟩|exact ⟨rfl,_,Eq.trans (World.drewN_drewN _ _ _) (congrArg (World.drewN _) (Nat.add_assoc _ _ _))⟩))|(go_at_call 22;(with_reducible refine (impl_in.calls ((rd_T51 l0_1 x13_1).f1) 0 (wrap64 (a0_0 - 1)) true _ A15.out).mono ?_);rintro e w' ⟨rfl,⟨nd,rfl⟩⟩;(try first|exact ⟨rfl,_,World.drewN_drewN _ _ _⟩|exact ⟨rfl,_,Eq.trans (World.drewN_drewN _ _ _) (congrArg (World.drewN _) (Nat.add_assoc _ _ _))⟩))|(go_at_call 22;(with_reducible refine (impl_in.calls ((rd_T51 l0_1 x13_1).f2) 0 50 true _ A21.out).mono ?_);rintro e w' ⟨rfl,⟨nd,rfl⟩⟩;(try first|exact ⟨rfl,_,World.drewN_drewN _ _ _⟩|exact ⟨rfl,_,Eq.trans (World.drewN_drewN _ _ _) (congrArg (World.drewN _) (Nat.add_assoc _ _ _))⟩))|(go_at_call 22;(with_reducible refine (impl_in.calls ((rd_T51 l0_1 x13_1).f3) 0 50 true _ A23.out).mono ?_);rintro e w' ⟨rfl,⟨nd,rfl⟩⟩;(try first|exact ⟨rfl,_,World.drewN_drewN _ _ _⟩|exact ⟨rfl,_,Eq.trans (World.drewN_drewN _ _ _) (congrArg (World.drewN _) (Nat.add_assoc _ _ _))⟩))|(go_at_call 22;(with_reducible refine (impl_in.calls ((rd_T51 l0_1 x13_1).f4) 0 50 t218 _ A25.out).mono ?_);rintro e w' ⟨rfl,⟨nd,rfl⟩⟩;(try first|exact ⟨rfl,_,World.drewN_drewN _ _ _⟩|exact ⟨rfl,_,Eq.trans (World.drewN_drewN _ _ _) (congrArg (World.drewN _) (Nat.add_assoc _ _ _))⟩)))
          repeat (go_quiet (first|(go_at_call 22;(with_reducible refine (impl_in.calls ((rd_T51 l0_1 x13_1).f0) 0 (wrap64 (a0_0 - 1)) true _ A13.out).mono ?_);rintro e w' ⟨rfl,⟨nd,rfl⟩⟩;(try first|exact ⟨rfl,_,World.drewN_drewN _ _ _⟩|exact ⟨rfl,_,Eq.trans (World.drewN_drewN _ _ _) (congrArg (World.drewN _) (Nat.add_assoc _ _ _))⟩))|(go_at_call 22;(with_reducible refine (impl_in.calls ((rd_T51 l0_1 x13_1).f1) 0 (wrap64 (a0_0 - 1)) true _ A15.out).mono ?_);rintro e w' ⟨rfl,⟨nd,rfl⟩⟩;(try first|exact ⟨rfl,_,World.drewN_drewN _ _ _⟩|exact ⟨rfl,_,Eq.trans (World.drewN_drewN _ _ _) (congrArg (World.drewN _) (Nat.add_assoc _ _ _))⟩))|(go_at_call 22;(with_reducible refine (impl_in.calls ((rd_T51 l0_1 x13_1).f2) 0 50 true _ A21.out).mono ?_);rintro e w' ⟨rfl,⟨nd,rfl⟩⟩;(try first|exact ⟨rfl,_,World.drewN_drewN _ _ _⟩|exact ⟨rfl,_,Eq.trans (World.drewN_drewN _ _ _) (congrArg (World.drewN _) (Nat.add_assoc _ _ _))⟩))|(go_at_call 22;(with_reducible refine (impl_in.calls ((rd_T51 l0_1 x13_1).f3) 0 50 true _ A23.out).mono ?_);rintro e w' ⟨rfl,⟨nd,rfl⟩⟩;(try first|exact ⟨rfl,_,World.drewN_drewN _ _ _⟩|exact ⟨rfl,_,Eq.trans (World.drewN_drewN _ _ _) (congrArg (World.drewN _) (Nat.add_assoc _ _ _))⟩))|(go_at_call 22;(with_reducible refine (impl_in.calls ((rd_T51 l0_1 x13_1).f4) 0 50 t218 _ A25.out).mono ?_);rintro e w' ⟨rfl,⟨nd,rfl⟩⟩;(try first|exact ⟨rfl,_,World.drewN_drewN _ _ _⟩|exact ⟨rfl,_,Eq.trans (World.drewN_drewN _ _ _) (congrArg (World.drewN _) (Nat.add_assoc _ _ _))⟩)));try go_wp2_with (first|(go_at_call 22;(with_reducible refine (impl_in.calls ((rd_T51 l0_1 x13_1).f0) 0 (wrap64 (a0_0 - 1)) true _ A13.out).mono ?_);rintro e w' ⟨rfl,⟨nd,rfl⟩⟩;(try first|exact ⟨rfl,_,World.drewN_drewN _ _ _⟩|exact ⟨rfl,_,Eq.trans (World.drewN_drewN _ _ _) (congrArg (World.drewN _) (Nat.add_assoc _ _ _))⟩))|(go_at_call 22;(with_reducible refine (impl_in.calls ((rd_T51 l0_1 x13_1).f1) 0 (wrap64 (a0_0 - 1)) true _ A15.out).mono ?_);rintro e w' ⟨rfl,⟨nd,rfl⟩⟩;(try first|exact ⟨rfl,_,World.drewN_drewN _ _ _⟩|exact ⟨rfl,_,Eq.trans (World.drewN_drewN _ _ _) (congrArg (World.drewN _) (Nat.add_assoc _ _ _))⟩))|(go_at_call 22;(with_reducible refine (impl_in.calls ((rd_T51 l0_1 x13_1).f2) 0 50 true _ A21.out).mono ?_);rintro e w' ⟨rfl,⟨nd,rfl⟩⟩;(try first|exact ⟨rfl,_,World.drewN_drewN _ _ _⟩|exact ⟨rfl,_,Eq.trans (World.drewN_drewN _ _ _) (congrArg (World.drewN _) (Nat.add_assoc _ _ _))⟩))|(go_at_call 22;(with_reducible refine (impl_in.calls ((rd_T51 l0_1 x13_1).f3) 0 50 true _ A23.out).mono ?_);rintro e w' ⟨rfl,⟨nd,rfl⟩⟩;(try first|exact ⟨rfl,_,World.drewN_drewN _ _ _⟩|exact ⟨rfl,_,Eq.trans (World.drewN_drewN _ _ _) (congrArg (World.drewN _) (Nat.add_assoc _ _ _))⟩))|(go_at_call 22;(with_reducible refine (impl_in.calls ((rd_T51 l0_1 x13_1).f4) 0 50 t218 _ A25.out).mono ?_);rintro e w' ⟨rfl,⟨nd,rfl⟩⟩;(try first|exact ⟨rfl,_,World.drewN_drewN _ _ _⟩|exact ⟨rfl,_,Eq.trans (World.drewN_drewN _ _ _) (congrArg (World.drewN _) (Nat.add_assoc _ _ _))⟩))))
          go_meet
          case rel=>exact ⟨_,(!t218),rs_,H',⟨by have:=HK1.out;first|omega|exact Nat.le_refl _⟩,⟨by (with_reducible repeat (first|refine qf ?_ _|refine qk ?_|refine qg ?_ _));refine blk_far ?_ NB210_213.out _;(with_reducible repeat (first|refine qf ?_ _|refine qk ?_|refine qg ?_ _));refine blk_far ?_ NB210_213.out _;(with_reducible repeat (first|refine qf ?_ _|refine qk ?_|refine qg ?_ _));refine blk_far ?_ NB210_213.out _;(with_reducible repeat (first|refine qf ?_ _|refine qk ?_|refine qg ?_ _));refine blk_far ?_ NB210_213.out _;(with_reducible repeat (first|refine qf ?_ _|refine qk ?_|refine qg ?_ _));refine blk_far ?_ NB210_213.out _;(with_reducible repeat (first|refine qf ?_ _|refine qk ?_|refine qg ?_ _));exact BK210.out⟩,⟨by (with_reducible repeat (first|refine qf ?_ _|refine qk ?_|refine qg ?_ _));refine blk_put (cs:=#[.int .i64 ((rd_T51 l0_1 x13_1).f0),.int .i64 ((rd_T51 l0_1 x13_1).f1),.int .i64 ((rd_T51 l0_1 x13_1).f2),.int .i64 ((rd_T51 l0_1 x13_1).f3),.int .i64 0]) ?_ 4 _ rfl;(with_reducible repeat (first|refine qf ?_ _|refine qk ?_|refine qg ?_ _));refine blk_put (cs:=#[.int .i64 ((rd_T51 l0_1 x13_1).f0),.int .i64 ((rd_T51 l0_1 x13_1).f1),.int .i64 ((rd_T51 l0_1 x13_1).f2),.int .i64 0,.int .i64 0]) ?_ 3 _ rfl;(with_reducible repeat (first|refine qf ?_ _|refine qk ?_|refine qg ?_ _));refine blk_put (cs:=#[.int .i64 ((rd_T51 l0_1 x13_1).f0),.int .i64 ((rd_T51 l0_1 x13_1).f1),.int .i64 0,.int .i64 0,.int .i64 0]) ?_ 2 _ rfl;(with_reducible repeat (first|refine qf ?_ _|refine qk ?_|refine qg ?_ _));refine blk_put (cs:=#[.int .i64 ((rd_T51 l0_1 x13_1).f0),.int .i64 0,.int .i64 0,.int .i64 0,.int .i64 0]) ?_ 1 _ rfl;(with_reducible repeat (first|refine qf ?_ _|refine qk ?_|refine qg ?_ _));refine blk_put (cs:=#[.int .i64 0,.int .i64 0,.int .i64 0,.int .i64 0,.int .i64 0]) ?_ 0 _ rfl;(with_reducible repeat (first|refine qf ?_ _|refine qk ?_|refine qg ?_ _));exact BK213.out⟩,⟨hx_⟩⟩
         replace c24:=Bool.eq_false_iff.mpr c24
         subst c24
         have H1 : (impl_GraphOk.j1 k1 x13_1 l0_1 (l0_1.length : Int) x13_1 true a0_0 l0_1 ((rd_T51 l0_1 x13_1).f0) ((rd_T51 l0_1 x13_1).f1) ((rd_T51 l0_1 x13_1).f2) ((rd_T51 l0_1 x13_1).f3) ((rd_T51 l0_1 x13_1).f4)) = some r:=by rw [if_neg (show ¬ (false = true) by decide)] at H;exact H
         clear H
         have H:=H1
         clear H1
         have H':=qy.mk H
         clear H
         have hnb29:=NB213_210.out
         have hnc29:=NB210_213.out
         obtain ⟨hcz30_0,hcz30_1,hcz30_2,hcz30_3,hcz30_4,hfz30_0,hfz30_1,hfz30_2,hfz30_3,hfz30_4⟩:=c5f_ BK213.out
         obtain ⟨hcz31_0,hcz31_1,hfz31_0,hfz31_1⟩:=c2f_ BK210.out
         go_wp2_with (first|(go_at_call 22;(with_reducible refine (impl_in.calls ((rd_T51 l0_1 x13_1).f0) 0 (wrap64 (a0_0 - 1)) true _ A13.out).mono ?_);rintro e w' ⟨rfl,⟨nd,rfl⟩⟩;(try first|exact ⟨rfl,_,World.drewN_drewN _ _ _⟩|exact ⟨rfl,_,Eq.trans (World.drewN_drewN _ _ _) (congrArg (World.drewN _) (Nat.add_assoc _ _ _))⟩))|(go_at_call 22;(with_reducible refine (impl_in.calls ((rd_T51 l0_1 x13_1).f1) 0 (wrap64 (a0_0 - 1)) true _ A15.out).mono ?_);rintro e w' ⟨rfl,⟨nd,rfl⟩⟩;(try first|exact ⟨rfl,_,World.drewN_drewN _ _ _⟩|exact ⟨rfl,_,Eq.trans (World.drewN_drewN _ _ _) (congrArg (World.drewN _) (Nat.add_assoc _ _ _))⟩))|(go_at_call 22;(with_reducible refine (impl_in.calls ((rd_T51 l0_1 x13_1).f2) 0 50 true _ A21.out).mono ?_);rintro e w' ⟨rfl,⟨nd,rfl⟩⟩;(try first|exact ⟨rfl,_,World.drewN_drewN _ _ _⟩|exact ⟨rfl,_,Eq.trans (World.drewN_drewN _ _ _) (congrArg (World.drewN _) (Nat.add_assoc _ _ _))⟩))|(go_at_call 22;(with_reducible refine (impl_in.calls ((rd_T51 l0_1 x13_1).f3) 0 50 false _ A23.out).mono ?_);rintro e w' ⟨rfl,⟨nd,rfl⟩⟩;(try first|exact ⟨rfl,_,World.drewN_drewN _ _ _⟩|exact ⟨rfl,_,Eq.trans (World.drewN_drewN _ _ _) (congrArg (World.drewN _) (Nat.add_assoc _ _ _))⟩)))
         repeat (go_quiet (first|(go_at_call 22;(with_reducible refine (impl_in.calls ((rd_T51 l0_1 x13_1).f0) 0 (wrap64 (a0_0 - 1)) true _ A13.out).mono ?_);rintro e w' ⟨rfl,⟨nd,rfl⟩⟩;(try first|exact ⟨rfl,_,World.drewN_drewN _ _ _⟩|exact ⟨rfl,_,Eq.trans (World.drewN_drewN _ _ _) (congrArg (World.drewN _) (Nat.add_assoc _ _ _))⟩))|(go_at_call 22;(with_reducible refine (impl_in.calls ((rd_T51 l0_1 x13_1).f1) 0 (wrap64 (a0_0 - 1)) true _ A15.out).mono ?_);rintro e w' ⟨rfl,⟨nd,rfl⟩⟩;(try first|exact ⟨rfl,_,World.drewN_drewN _ _ _⟩|exact ⟨rfl,_,Eq.trans (World.drewN_drewN _ _ _) (congrArg (World.drewN _) (Nat.add_assoc _ _ _))⟩))|(go_at_call 22;(with_reducible refine (impl_in.calls ((rd_T51 l0_1 x13_1).f2) 0 50 true _ A21.out).mono ?_);rintro e w' ⟨rfl,⟨nd,rfl⟩⟩;(try first|exact ⟨rfl,_,World.drewN_drewN _ _ _⟩|exact ⟨rfl,_,Eq.trans (World.drewN_drewN _ _ _) (congrArg (World.drewN _) (Nat.add_assoc _ _ _))⟩))|(go_at_call 22;(with_reducible refine (impl_in.calls ((rd_T51 l0_1 x13_1).f3) 0 50 false _ A23.out).mono ?_);rintro e w' ⟨rfl,⟨nd,rfl⟩⟩;(try first|exact ⟨rfl,_,World.drewN_drewN _ _ _⟩|exact ⟨rfl,_,Eq.trans (World.drewN_drewN _ _ _) (congrArg (World.drewN _) (Nat.add_assoc _ _ _))⟩)));try go_wp2_with (first|(go_at_call 22;(with_reducible refine (impl_in.calls ((rd_T51 l0_1 x13_1).f0) 0 (wrap64 (a0_0 - 1)) true _ A13.out).mono ?_);rintro e w' ⟨rfl,⟨nd,rfl⟩⟩;(try first|exact ⟨rfl,_,World.drewN_drewN _ _ _⟩|exact ⟨rfl,_,Eq.trans (World.drewN_drewN _ _ _) (congrArg (World.drewN _) (Nat.add_assoc _ _ _))⟩))|(go_at_call 22;(with_reducible refine (impl_in.calls ((rd_T51 l0_1 x13_1).f1) 0 (wrap64 (a0_0 - 1)) true _ A15.out).mono ?_);rintro e w' ⟨rfl,⟨nd,rfl⟩⟩;(try first|exact ⟨rfl,_,World.drewN_drewN _ _ _⟩|exact ⟨rfl,_,Eq.trans (World.drewN_drewN _ _ _) (congrArg (World.drewN _) (Nat.add_assoc _ _ _))⟩))|(go_at_call 22;(with_reducible refine (impl_in.calls ((rd_T51 l0_1 x13_1).f2) 0 50 true _ A21.out).mono ?_);rintro e w' ⟨rfl,⟨nd,rfl⟩⟩;(try first|exact ⟨rfl,_,World.drewN_drewN _ _ _⟩|exact ⟨rfl,_,Eq.trans (World.drewN_drewN _ _ _) (congrArg (World.drewN _) (Nat.add_assoc _ _ _))⟩))|(go_at_call 22;(with_reducible refine (impl_in.calls ((rd_T51 l0_1 x13_1).f3) 0 50 false _ A23.out).mono ?_);rintro e w' ⟨rfl,⟨nd,rfl⟩⟩;(try first|exact ⟨rfl,_,World.drewN_drewN _ _ _⟩|exact ⟨rfl,_,Eq.trans (World.drewN_drewN _ _ _) (congrArg (World.drewN _) (Nat.add_assoc _ _ _))⟩))))
         go_meet
         case rel=>exact ⟨_,(true),rs_,H',⟨by have:=HK1.out;first|omega|exact Nat.le_refl _⟩,⟨by (with_reducible repeat (first|refine qf ?_ _|refine qk ?_|refine qg ?_ _));refine blk_far ?_ NB210_213.out _;(with_reducible repeat (first|refine qf ?_ _|refine qk ?_|refine qg ?_ _));refine blk_far ?_ NB210_213.out _;(with_reducible repeat (first|refine qf ?_ _|refine qk ?_|refine qg ?_ _));refine blk_far ?_ NB210_213.out _;(with_reducible repeat (first|refine qf ?_ _|refine qk ?_|refine qg ?_ _));refine blk_far ?_ NB210_213.out _;(with_reducible repeat (first|refine qf ?_ _|refine qk ?_|refine qg ?_ _));refine blk_far ?_ NB210_213.out _;(with_reducible repeat (first|refine qf ?_ _|refine qk ?_|refine qg ?_ _));exact BK210.out⟩,⟨by (with_reducible repeat (first|refine qf ?_ _|refine qk ?_|refine qg ?_ _));refine blk_put (cs:=#[.int .i64 ((rd_T51 l0_1 x13_1).f0),.int .i64 ((rd_T51 l0_1 x13_1).f1),.int .i64 ((rd_T51 l0_1 x13_1).f2),.int .i64 ((rd_T51 l0_1 x13_1).f3),.int .i64 0]) ?_ 4 _ rfl;(with_reducible repeat (first|refine qf ?_ _|refine qk ?_|refine qg ?_ _));refine blk_put (cs:=#[.int .i64 ((rd_T51 l0_1 x13_1).f0),.int .i64 ((rd_T51 l0_1 x13_1).f1),.int .i64 ((rd_T51 l0_1 x13_1).f2),.int .i64 0,.int .i64 0]) ?_ 3 _ rfl;(with_reducible repeat (first|refine qf ?_ _|refine qk ?_|refine qg ?_ _));refine blk_put (cs:=#[.int .i64 ((rd_T51 l0_1 x13_1).f0),.int .i64 ((rd_T51 l0_1 x13_1).f1),.int .i64 0,.int .i64 0,.int .i64 0]) ?_ 2 _ rfl;(with_reducible repeat (first|refine qf ?_ _|refine qk ?_|refine qg ?_ _));refine blk_put (cs:=#[.int .i64 ((rd_T51 l0_1 x13_1).f0),.int .i64 0,.int .i64 0,.int .i64 0,.int .i64 0]) ?_ 1 _ rfl;(with_reducible repeat (first|refine qf ?_ _|refine qk ?_|refine qg ?_ _));refine blk_put (cs:=#[.int .i64 0,.int .i64 0,.int .i64 0,.int .i64 0,.int .i64 0]) ?_ 0 _ rfl;(with_reducible repeat (first|refine qf ?_ _|refine qk ?_|refine qg ?_ _));exact BK213.out⟩,⟨hx_⟩⟩
        replace c22:=Bool.eq_false_iff.mpr c22
        subst c22
        have H1 : (impl_GraphOk.j1 k1 x13_1 l0_1 (l0_1.length : Int) x13_1 true a0_0 l0_1 ((rd_T51 l0_1 x13_1).f0) ((rd_T51 l0_1 x13_1).f1) ((rd_T51 l0_1 x13_1).f2) ((rd_T51 l0_1 x13_1).f3) ((rd_T51 l0_1 x13_1).f4)) = some r:=by rw [if_neg (show ¬ (false = true) by decide)] at H;exact H
        clear H
        have H:=H1
        clear H1
        have H':=qy.mk H
        clear H
        have hnb32:=NB213_210.out
        have hnc32:=NB210_213.out
        obtain ⟨hcz33_0,hcz33_1,hcz33_2,hcz33_3,hcz33_4,hfz33_0,hfz33_1,hfz33_2,hfz33_3,hfz33_4⟩:=c5f_ BK213.out
        obtain ⟨hcz34_0,hcz34_1,hfz34_0,hfz34_1⟩:=c2f_ BK210.out
        go_wp2_with (first|(go_at_call 22;(with_reducible refine (impl_in.calls ((rd_T51 l0_1 x13_1).f0) 0 (wrap64 (a0_0 - 1)) true _ A13.out).mono ?_);rintro e w' ⟨rfl,⟨nd,rfl⟩⟩;(try first|exact ⟨rfl,_,World.drewN_drewN _ _ _⟩|exact ⟨rfl,_,Eq.trans (World.drewN_drewN _ _ _) (congrArg (World.drewN _) (Nat.add_assoc _ _ _))⟩))|(go_at_call 22;(with_reducible refine (impl_in.calls ((rd_T51 l0_1 x13_1).f1) 0 (wrap64 (a0_0 - 1)) true _ A15.out).mono ?_);rintro e w' ⟨rfl,⟨nd,rfl⟩⟩;(try first|exact ⟨rfl,_,World.drewN_drewN _ _ _⟩|exact ⟨rfl,_,Eq.trans (World.drewN_drewN _ _ _) (congrArg (World.drewN _) (Nat.add_assoc _ _ _))⟩))|(go_at_call 22;(with_reducible refine (impl_in.calls ((rd_T51 l0_1 x13_1).f2) 0 50 false _ A21.out).mono ?_);rintro e w' ⟨rfl,⟨nd,rfl⟩⟩;(try first|exact ⟨rfl,_,World.drewN_drewN _ _ _⟩|exact ⟨rfl,_,Eq.trans (World.drewN_drewN _ _ _) (congrArg (World.drewN _) (Nat.add_assoc _ _ _))⟩)))
        repeat (go_quiet (first|(go_at_call 22;(with_reducible refine (impl_in.calls ((rd_T51 l0_1 x13_1).f0) 0 (wrap64 (a0_0 - 1)) true _ A13.out).mono ?_);rintro e w' ⟨rfl,⟨nd,rfl⟩⟩;(try first|exact ⟨rfl,_,World.drewN_drewN _ _ _⟩|exact ⟨rfl,_,Eq.trans (World.drewN_drewN _ _ _) (congrArg (World.drewN _) (Nat.add_assoc _ _ _))⟩))|(go_at_call 22;(with_reducible refine (impl_in.calls ((rd_T51 l0_1 x13_1).f1) 0 (wrap64 (a0_0 - 1)) true _ A15.out).mono ?_);rintro e w' ⟨rfl,⟨nd,rfl⟩⟩;(try first|exact ⟨rfl,_,World.drewN_drewN _ _ _⟩|exact ⟨rfl,_,Eq.trans (World.drewN_drewN _ _ _) (congrArg (World.drewN _) (Nat.add_assoc _ _ _))⟩))|(go_at_call 22;(with_reducible refine (impl_in.calls ((rd_T51 l0_1 x13_1).f2) 0 50 false _ A21.out).mono ?_);rintro e w' ⟨rfl,⟨nd,rfl⟩⟩;(try first|exact ⟨rfl,_,World.drewN_drewN _ _ _⟩|exact ⟨rfl,_,Eq.trans (World.drewN_drewN _ _ _) (congrArg (World.drewN _) (Nat.add_assoc _ _ _))⟩)));try go_wp2_with (first|(go_at_call 22;(with_reducible refine (impl_in.calls ((rd_T51 l0_1 x13_1).f0) 0 (wrap64 (a0_0 - 1)) true _ A13.out).mono ?_);rintro e w' ⟨rfl,⟨nd,rfl⟩⟩;(try first|exact ⟨rfl,_,World.drewN_drewN _ _ _⟩|exact ⟨rfl,_,Eq.trans (World.drewN_drewN _ _ _) (congrArg (World.drewN _) (Nat.add_assoc _ _ _))⟩))|(go_at_call 22;(with_reducible refine (impl_in.calls ((rd_T51 l0_1 x13_1).f1) 0 (wrap64 (a0_0 - 1)) true _ A15.out).mono ?_);rintro e w' ⟨rfl,⟨nd,rfl⟩⟩;(try first|exact ⟨rfl,_,World.drewN_drewN _ _ _⟩|exact ⟨rfl,_,Eq.trans (World.drewN_drewN _ _ _) (congrArg (World.drewN _) (Nat.add_assoc _ _ _))⟩))|(go_at_call 22;(with_reducible refine (impl_in.calls ((rd_T51 l0_1 x13_1).f2) 0 50 false _ A21.out).mono ?_);rintro e w' ⟨rfl,⟨nd,rfl⟩⟩;(try first|exact ⟨rfl,_,World.drewN_drewN _ _ _⟩|exact ⟨rfl,_,Eq.trans (World.drewN_drewN _ _ _) (congrArg (World.drewN _) (Nat.add_assoc _ _ _))⟩))))
        go_meet
        case rel=>exact ⟨_,(true),rs_,H',⟨by have:=HK1.out;first|omega|exact Nat.le_refl _⟩,⟨by (with_reducible repeat (first|refine qf ?_ _|refine qk ?_|refine qg ?_ _));refine blk_far ?_ NB210_213.out _;(with_reducible repeat (first|refine qf ?_ _|refine qk ?_|refine qg ?_ _));refine blk_far ?_ NB210_213.out _;(with_reducible repeat (first|refine qf ?_ _|refine qk ?_|refine qg ?_ _));refine blk_far ?_ NB210_213.out _;(with_reducible repeat (first|refine qf ?_ _|refine qk ?_|refine qg ?_ _));refine blk_far ?_ NB210_213.out _;(with_reducible repeat (first|refine qf ?_ _|refine qk ?_|refine qg ?_ _));refine blk_far ?_ NB210_213.out _;(with_reducible repeat (first|refine qf ?_ _|refine qk ?_|refine qg ?_ _));exact BK210.out⟩,⟨by (with_reducible repeat (first|refine qf ?_ _|refine qk ?_|refine qg ?_ _));refine blk_put (cs:=#[.int .i64 ((rd_T51 l0_1 x13_1).f0),.int .i64 ((rd_T51 l0_1 x13_1).f1),.int .i64 ((rd_T51 l0_1 x13_1).f2),.int .i64 ((rd_T51 l0_1 x13_1).f3),.int .i64 0]) ?_ 4 _ rfl;(with_reducible repeat (first|refine qf ?_ _|refine qk ?_|refine qg ?_ _));refine blk_put (cs:=#[.int .i64 ((rd_T51 l0_1 x13_1).f0),.int .i64 ((rd_T51 l0_1 x13_1).f1),.int .i64 ((rd_T51 l0_1 x13_1).f2),.int .i64 0,.int .i64 0]) ?_ 3 _ rfl;(with_reducible repeat (first|refine qf ?_ _|refine qk ?_|refine qg ?_ _));refine blk_put (cs:=#[.int .i64 ((rd_T51 l0_1 x13_1).f0),.int .i64 ((rd_T51 l0_1 x13_1).f1),.int .i64 0,.int .i64 0,.int .i64 0]) ?_ 2 _ rfl;(with_reducible repeat (first|refine qf ?_ _|refine qk ?_|refine qg ?_ _));refine blk_put (cs:=#[.int .i64 ((rd_T51 l0_1 x13_1).f0),.int .i64 0,.int .i64 0,.int .i64 0,.int .i64 0]) ?_ 1 _ rfl;(with_reducible repeat (first|refine qf ?_ _|refine qk ?_|refine qg ?_ _));refine blk_put (cs:=#[.int .i64 0,.int .i64 0,.int .i64 0,.int .i64 0,.int .i64 0]) ?_ 0 _ rfl;(with_reducible repeat (first|refine qf ?_ _|refine qk ?_|refine qg ?_ _));exact BK213.out⟩,⟨hx_⟩⟩
       replace c16:=Bool.eq_false_iff.mpr c16
       subst c16
       have H1 : (impl_GraphOk.j1 k1 x13_1 l0_1 (l0_1.length : Int) x13_1 true a0_0 l0_1 ((rd_T51 l0_1 x13_1).f0) ((rd_T51 l0_1 x13_1).f1) ((rd_T51 l0_1 x13_1).f2) ((rd_T51 l0_1 x13_1).f3) ((rd_T51 l0_1 x13_1).f4)) = some r:=by rw [if_neg (show ¬ (false = true) by decide)] at H;exact H
       clear H
       have H:=H1
       clear H1
       have H':=qy.mk H
       clear H
       have hnb35:=NB213_210.out
       have hnc35:=NB210_213.out
       obtain ⟨hcz36_0,hcz36_1,hcz36_2,hcz36_3,hcz36_4,hfz36_0,hfz36_1,hfz36_2,hfz36_3,hfz36_4⟩:=c5f_ BK213.out
       obtain ⟨hcz37_0,hcz37_1,hfz37_0,hfz37_1⟩:=c2f_ BK210.out
       go_wp2_with (first|(go_at_call 22;(with_reducible refine (impl_in.calls ((rd_T51 l0_1 x13_1).f0) 0 (wrap64 (a0_0 - 1)) true _ A13.out).mono ?_);rintro e w' ⟨rfl,⟨nd,rfl⟩⟩;(try first|exact ⟨rfl,_,World.drewN_drewN _ _ _⟩|exact ⟨rfl,_,Eq.trans (World.drewN_drewN _ _ _) (congrArg (World.drewN _) (Nat.add_assoc _ _ _))⟩))|(go_at_call 22;(with_reducible refine (impl_in.calls ((rd_T51 l0_1 x13_1).f1) 0 (wrap64 (a0_0 - 1)) false _ A15.out).mono ?_);rintro e w' ⟨rfl,⟨nd,rfl⟩⟩;(try first|exact ⟨rfl,_,World.drewN_drewN _ _ _⟩|exact ⟨rfl,_,Eq.trans (World.drewN_drewN _ _ _) (congrArg (World.drewN _) (Nat.add_assoc _ _ _))⟩)))
       repeat (go_quiet (first|(go_at_call 22;(with_reducible refine (impl_in.calls ((rd_T51 l0_1 x13_1).f0) 0 (wrap64 (a0_0 - 1)) true _ A13.out).mono ?_);rintro e w' ⟨rfl,⟨nd,rfl⟩⟩;(try first|exact ⟨rfl,_,World.drewN_drewN _ _ _⟩|exact ⟨rfl,_,Eq.trans (World.drewN_drewN _ _ _) (congrArg (World.drewN _) (Nat.add_assoc _ _ _))⟩))|(go_at_call 22;(with_reducible refine (impl_in.calls ((rd_T51 l0_1 x13_1).f1) 0 (wrap64 (a0_0 - 1)) false _ A15.out).mono ?_);rintro e w' ⟨rfl,⟨nd,rfl⟩⟩;(try first|exact ⟨rfl,_,World.drewN_drewN _ _ _⟩|exact ⟨rfl,_,Eq.trans (World.drewN_drewN _ _ _) (congrArg (World.drewN _) (Nat.add_assoc _ _ _))⟩)));try go_wp2_with (first|(go_at_call 22;(with_reducible refine (impl_in.calls ((rd_T51 l0_1 x13_1).f0) 0 (wrap64 (a0_0 - 1)) true _ A13.out).mono ?_);rintro e w' ⟨rfl,⟨nd,rfl⟩⟩;(try first|exact ⟨rfl,_,World.drewN_drewN _ _ _⟩|exact ⟨rfl,_,Eq.trans (World.drewN_drewN _ _ _) (congrArg (World.drewN _) (Nat.add_assoc _ _ _))⟩))|(go_at_call 22;(with_reducible refine (impl_in.calls ((rd_T51 l0_1 x13_1).f1) 0 (wrap64 (a0_0 - 1)) false _ A15.out).mono ?_);rintro e w' ⟨rfl,⟨nd,rfl⟩⟩;(try first|exact ⟨rfl,_,World.drewN_drewN _ _ _⟩|exact ⟨rfl,_,Eq.trans (World.drewN_drewN _ _ _) (congrArg (World.drewN _) (Nat.add_assoc _ _ _))⟩))))
       go_meet
       case rel=>exact ⟨_,(true),rs_,H',⟨by have:=HK1.out;first|omega|exact Nat.le_refl _⟩,⟨by (with_reducible repeat (first|refine qf ?_ _|refine qk ?_|refine qg ?_ _));refine blk_far ?_ NB210_213.out _;(with_reducible repeat (first|refine qf ?_ _|refine qk ?_|refine qg ?_ _));refine blk_far ?_ NB210_213.out _;(with_reducible repeat (first|refine qf ?_ _|refine qk ?_|refine qg ?_ _));refine blk_far ?_ NB210_213.out _;(with_reducible repeat (first|refine qf ?_ _|refine qk ?_|refine qg ?_ _));refine blk_far ?_ NB210_213.out _;(with_reducible repeat (first|refine qf ?_ _|refine qk ?_|refine qg ?_ _));refine blk_far ?_ NB210_213.out _;(with_reducible repeat (first|refine qf ?_ _|refine qk ?_|refine qg ?_ _));exact BK210.out⟩,⟨by (with_reducible repeat (first|refine qf ?_ _|refine qk ?_|refine qg ?_ _));refine blk_put (cs:=#[.int .i64 ((rd_T51 l0_1 x13_1).f0),.int .i64 ((rd_T51 l0_1 x13_1).f1),.int .i64 ((rd_T51 l0_1 x13_1).f2),.int .i64 ((rd_T51 l0_1 x13_1).f3),.int .i64 0]) ?_ 4 _ rfl;(with_reducible repeat (first|refine qf ?_ _|refine qk ?_|refine qg ?_ _));refine blk_put (cs:=#[.int .i64 ((rd_T51 l0_1 x13_1).f0),.int .i64 ((rd_T51 l0_1 x13_1).f1),.int .i64 ((rd_T51 l0_1 x13_1).f2),.int .i64 0,.int .i64 0]) ?_ 3 _ rfl;(with_reducible repeat (first|refine qf ?_ _|refine qk ?_|refine qg ?_ _));refine blk_put (cs:=#[.int .i64 ((rd_T51 l0_1 x13_1).f0),.int .i64 ((rd_T51 l0_1 x13_1).f1),.int .i64 0,.int .i64 0,.int .i64 0]) ?_ 2 _ rfl;(with_reducible repeat (first|refine qf ?_ _|refine qk ?_|refine qg ?_ _));refine blk_put (cs:=#[.int .i64 ((rd_T51 l0_1 x13_1).f0),.int .i64 0,.int .i64 0,.int .i64 0,.int .i64 0]) ?_ 1 _ rfl;(with_reducible repeat (first|refine qf ?_ _|refine qk ?_|refine qg ?_ _));refine blk_put (cs:=#[.int .i64 0,.int .i64 0,.int .i64 0,.int .i64 0,.int .i64 0]) ?_ 0 _ rfl;(with_reducible repeat (first|refine qf ?_ _|refine qk ?_|refine qg ?_ _));exact BK213.out⟩,⟨hx_⟩⟩
      replace c14:=Bool.eq_false_iff.mpr c14
      subst c14
      have H1 : (impl_GraphOk.j1 k1 x13_1 l0_1 (l0_1.length : Int) x13_1 true a0_0 l0_1 ((rd_T51 l0_1 x13_1).f0) ((rd_T51 l0_1 x13_1).f1) ((rd_T51 l0_1 x13_1).f2) ((rd_T51 l0_1 x13_1).f3) ((rd_T51 l0_1 x13_1).f4)) = some r:=by rw [if_neg (show ¬ (false = true) by decide)] at H;exact H
      clear H
      have H:=H1
      clear H1
      have H':=qy.mk H
      clear H
      have hnb38:=NB213_210.out
      have hnc38:=NB210_213.out
      obtain ⟨hcz39_0,hcz39_1,hcz39_2,hcz39_3,hcz39_4,hfz39_0,hfz39_1,hfz39_2,hfz39_3,hfz39_4⟩:=c5f_ BK213.out
      obtain ⟨hcz40_0,hcz40_1,hfz40_0,hfz40_1⟩:=c2f_ BK210.out
      go_wp2_with (first|(go_at_call 22;(with_reducible refine (impl_in.calls ((rd_T51 l0_1 x13_1).f0) 0 (wrap64 (a0_0 - 1)) false _ A13.out).mono ?_);rintro e w' ⟨rfl,⟨nd,rfl⟩⟩;(try first|exact ⟨rfl,_,World.drewN_drewN _ _ _⟩|exact ⟨rfl,_,Eq.trans (World.drewN_drewN _ _ _) (congrArg (World.drewN _) (Nat.add_assoc _ _ _))⟩)))
      repeat (go_quiet (first|(go_at_call 22;(with_reducible refine (impl_in.calls ((rd_T51 l0_1 x13_1).f0) 0 (wrap64 (a0_0 - 1)) false _ A13.out).mono ?_);rintro e w' ⟨rfl,⟨nd,rfl⟩⟩;(try first|exact ⟨rfl,_,World.drewN_drewN _ _ _⟩|exact ⟨rfl,_,Eq.trans (World.drewN_drewN _ _ _) (congrArg (World.drewN _) (Nat.add_assoc _ _ _))⟩)));try go_wp2_with (first|(go_at_call 22;(with_reducible refine (impl_in.calls ((rd_T51 l0_1 x13_1).f0) 0 (wrap64 (a0_0 - 1)) false _ A13.out).mono ?_);rintro e w' ⟨rfl,⟨nd,rfl⟩⟩;(try first|exact ⟨rfl,_,World.drewN_drewN _ _ _⟩|exact ⟨rfl,_,Eq.trans (World.drewN_drewN _ _ _) (congrArg (World.drewN _) (Nat.add_assoc _ _ _))⟩))))
      go_meet
      case rel=>exact ⟨_,(true),rs_,H',⟨by have:=HK1.out;first|omega|exact Nat.le_refl _⟩,⟨by (with_reducible repeat (first|refine qf ?_ _|refine qk ?_|refine qg ?_ _));refine blk_far ?_ NB210_213.out _;(with_reducible repeat (first|refine qf ?_ _|refine qk ?_|refine qg ?_ _));refine blk_far ?_ NB210_213.out _;(with_reducible repeat (first|refine qf ?_ _|refine qk ?_|refine qg ?_ _));refine blk_far ?_ NB210_213.out _;(with_reducible repeat (first|refine qf ?_ _|refine qk ?_|refine qg ?_ _));refine blk_far ?_ NB210_213.out _;(with_reducible repeat (first|refine qf ?_ _|refine qk ?_|refine qg ?_ _));refine blk_far ?_ NB210_213.out _;(with_reducible repeat (first|refine qf ?_ _|refine qk ?_|refine qg ?_ _));exact BK210.out⟩,⟨by (with_reducible repeat (first|refine qf ?_ _|refine qk ?_|refine qg ?_ _));refine blk_put (cs:=#[.int .i64 ((rd_T51 l0_1 x13_1).f0),.int .i64 ((rd_T51 l0_1 x13_1).f1),.int .i64 ((rd_T51 l0_1 x13_1).f2),.int .i64 ((rd_T51 l0_1 x13_1).f3),.int .i64 0]) ?_ 4 _ rfl;(with_reducible repeat (first|refine qf ?_ _|refine qk ?_|refine qg ?_ _));refine blk_put (cs:=#[.int .i64 ((rd_T51 l0_1 x13_1).f0),.int .i64 ((rd_T51 l0_1 x13_1).f1),.int .i64 ((rd_T51 l0_1 x13_1).f2),.int .i64 0,.int .i64 0]) ?_ 3 _ rfl;(with_reducible repeat (first|refine qf ?_ _|refine qk ?_|refine qg ?_ _));refine blk_put (cs:=#[.int .i64 ((rd_T51 l0_1 x13_1).f0),.int .i64 ((rd_T51 l0_1 x13_1).f1),.int .i64 0,.int .i64 0,.int .i64 0]) ?_ 2 _ rfl;(with_reducible repeat (first|refine qf ?_ _|refine qk ?_|refine qg ?_ _));refine blk_put (cs:=#[.int .i64 ((rd_T51 l0_1 x13_1).f0),.int .i64 0,.int .i64 0,.int .i64 0,.int .i64 0]) ?_ 1 _ rfl;(with_reducible repeat (first|refine qf ?_ _|refine qk ?_|refine qg ?_ _));refine blk_put (cs:=#[.int .i64 0,.int .i64 0,.int .i64 0,.int .i64 0,.int .i64 0]) ?_ 0 _ rfl;(with_reducible repeat (first|refine qf ?_ _|refine qk ?_|refine qg ?_ _));exact BK213.out⟩,⟨hx_⟩⟩
     clear HC9
     try clear c1
     try clear c2
     try clear p2
     try clear q2
     try clear hx2
     try clear c3
     try clear c6
     try clear c6b0
     try clear p6
     try clear c7
     try clear c7b0
     try clear c8
     try clear c8b0
     try clear c11
     try clear c13
     try clear c14
     try clear c16
     try clear c17
     try clear c17b0
     try clear c18
     try clear p21
     try clear q21
     try clear hx21
     try clear c22
     try clear c24
     try clear c26
     try clear c29
     try clear c32
     try clear c35
     try clear c38
     try clear hcz12_0
     try clear hcz12_1
     try clear hcz12_2
     try clear hcz12_3
     try clear hcz12_4
     try clear hcz19_0
     try clear hcz19_1
     try clear hcz19_2
     try clear hcz19_3
     try clear hcz19_4
     try clear hcz20_0
     try clear hcz20_1
     try clear hcz27_0
     try clear hcz27_1
     try clear hcz27_2
     try clear hcz27_3
     try clear hcz27_4
     try clear hcz28_0
     try clear hcz28_1
     try clear hcz30_0
     try clear hcz30_1
     try clear hcz30_2
     try clear hcz30_3
     try clear hcz30_4
     try clear hcz31_0
     try clear hcz31_1
     try clear hcz33_0
     try clear hcz33_1
     try clear hcz33_2
     try clear hcz33_3
     try clear hcz33_4
     try clear hcz34_0
     try clear hcz34_1
     try clear hcz36_0
     try clear hcz36_1
     try clear hcz36_2
     try clear hcz36_3
     try clear hcz36_4
     try clear hcz37_0
     try clear hcz37_1
     try clear hcz39_0
     try clear hcz39_1
     try clear hcz39_2
     try clear hcz39_3
     try clear hcz39_4
     try clear hcz40_0
     try clear hcz40_1
     try clear hcz5_0
     try clear hcz5_1
     try clear hfz12_0
     try clear hfz12_1
     try clear hfz12_2
     try clear hfz12_3
     try clear hfz12_4
     try clear hfz19_0
     try clear hfz19_1
     try clear hfz19_2
     try clear hfz19_3
     try clear hfz19_4
     try clear hfz20_0
     try clear hfz20_1
     try clear hfz27_0
     try clear hfz27_1
     try clear hfz27_2
     try clear hfz27_3
     try clear hfz27_4
     try clear hfz28_0
     try clear hfz28_1
     try clear hfz30_0
     try clear hfz30_1
     try clear hfz30_2
     try clear hfz30_3
     try clear hfz30_4
     try clear hfz31_0
     try clear hfz31_1
     try clear hfz33_0
     try clear hfz33_1
     try clear hfz33_2
     try clear hfz33_3
     try clear hfz33_4
     try clear hfz34_0
     try clear hfz34_1
     try clear hfz36_0
     try clear hfz36_1
     try clear hfz36_2
     try clear hfz36_3
     try clear hfz36_4
     try clear hfz37_0
     try clear hfz37_1
     try clear hfz39_0
     try clear hfz39_1
     try clear hfz39_2
     try clear hfz39_3
     try clear hfz39_4
     try clear hfz40_0
     try clear hfz40_1
     try clear hfz5_0
     try clear hfz5_1
     try clear hx212_0
     try clear hx212_1
     try clear hx212_2
     try clear hx212_3
     try clear hx212_4
     try clear p2
     try clear p212
     try clear q212
     obtain ⟨kq,x58_8,rfl,HA,HJ8,BK210,BK213,HB⟩:=hcut
     obtain _|kj8:=kq
     ·exact absurd HA.out (by simp [impl_GraphOk.j1])
     have H:=HA.out
     clear HA
     simp only [impl_GraphOk.j1] at H
     by_cases c41 : x58_8 = true
     ·subst c41
      have H1 : (some false) = some r:=by rw [if_pos rfl] at H;exact H
      clear H
      have H:=H1
      clear H1
      obtain rfl:=Option.some.inj H
      go_wp2
      repeat (go_quiet (fail);try go_wp2)
      go_ret
      exact ⟨rt_,hx_⟩
     replace c41:=Bool.eq_false_iff.mpr c41
     subst c41
     have H1 : (if x13_1 > 0 then (if 0 ≤ (wrap64 (x13_1 - 1)) then (if (wrap64 (x13_1 - 1)) < (l0_1.length : Int) then (if ((rd_T51 l0_1 (wrap64 (x13_1 - 1))).f0) > ((rd_T51 l0_1 x13_1).f0) then (some false) else (if ((rd_T51 l0_1 (wrap64 (x13_1 - 1))).f0) = ((rd_T51 l0_1 x13_1).f0) then (if ((rd_T51 l0_1 (wrap64 (x13_1 - 1))).f1) ≥ ((rd_T51 l0_1 x13_1).f1) then (some false) else (impl_GraphOk.l0 kj8 l0_1 (l0_1.length : Int) (wrap64 (x13_1 + 1)) a0_0 l0_1)) else (impl_GraphOk.l0 kj8 l0_1 (l0_1.length : Int) (wrap64 (x13_1 + 1)) a0_0 l0_1))) else (none)) else (none)) else (impl_GraphOk.l0 kj8 l0_1 (l0_1.length : Int) (wrap64 (x13_1 + 1)) a0_0 l0_1)) = some r:=by rw [if_neg (show ¬ (false = true) by decide)] at H;exact H
     clear H
     have H:=H1
     clear H1
     by_cases c42 : x13_1 > 0
     ·rw [if_pos c42] at H
      have c42b0 : decide (0 < x13_1) = true:=decide_eq_true c42
      clear c42
      obtain ⟨ji43,hji43⟩ : ∃ j_ : Int,(wrap64 (x13_1 - 1)) = j_:=⟨_,rfl⟩
      replace H : (if 0 ≤ (ji43) then (if (ji43) < (l0_1.length : Int) then (if ((rd_T51 l0_1 (ji43)).f0) > ((rd_T51 l0_1 x13_1).f0) then (some false) else (if ((rd_T51 l0_1 (ji43)).f0) = ((rd_T51 l0_1 x13_1).f0) then (if ((rd_T51 l0_1 (ji43)).f1) ≥ ((rd_T51 l0_1 x13_1).f1) then (some false) else (impl_GraphOk.l0 kj8 l0_1 (l0_1.length : Int) (wrap64 (x13_1 + 1)) a0_0 l0_1)) else (impl_GraphOk.l0 kj8 l0_1 (l0_1.length : Int) (wrap64 (x13_1 + 1)) a0_0 l0_1))) else (none)) else (none)) = some r:=by first|(rw [hji43] at H;exact H)|(simp only [hji43] at H ⊢;exact H)
      have hji43w : (IntKind.i64.wrap (x13_1 - 1)) = ji43:=(i64_w _).trans hji43
      by_cases c44 : 0 ≤ (ji43)
      ·rw [if_pos c44] at H
       have c44b0 : decide (0 ≤ (ji43)) = true:=decide_eq_true c44
       clear c44
       by_cases c45 : (ji43) < (l0_1.length : Int)
       ·rw [if_pos c45] at H
        have c45b0 : decide ((ji43) < (l0_1.length : Int)) = true:=decide_eq_true c45
        clear c45
        by_cases c46 : ((rd_T51 l0_1 (ji43)).f0) > ((rd_T51 l0_1 x13_1).f0)
        ·rw [if_pos c46] at H
         have c46b0 : decide (((rd_T51 l0_1 x13_1).f0) < ((rd_T51 l0_1 (ji43)).f0)) = true:=decide_eq_true c46
         clear c46
         obtain rfl:=Option.some.inj H
         have hnb47:=NB210_213.out
         have hnc47:=NB213_210.out
         obtain ⟨hcz48_0,hcz48_1,hfz48_0,hfz48_1⟩:=c2f_ BK210.out
         have p219 : 0 ≤ ((ji43) : Int):=dt_
         have q219 : (ji43) < (l0_1.length : Int):=dt_
         obtain ⟨ad219,e219,hx219_0,hx219_1,hx219_2,hx219_3,hx219_4⟩:=at_T51 HR0_1.out (ji43) p219 q219
         obtain rfl : ad212 = ad219:=(by injection e219)
         replace hx219_0:=cb_ HB hx219_0
         replace hx219_1:=cb_ HB hx219_1
         replace hx219_2:=cb_ HB hx219_2
         replace hx219_3:=cb_ HB hx219_3
         replace hx219_4:=cb_ HB hx219_4
         replace p219:=eq_true p219
         replace q219:=eq_true q219
         obtain ⟨hcz49_0,hcz49_1,hcz49_2,hcz49_3,hcz49_4,hfz49_0,hfz49_1,hfz49_2,hfz49_3,hfz49_4⟩:=c5f_ BK213.out
         go_wp2
         repeat (go_quiet (fail);try go_wp2)
         go_ret
         exact ⟨by first|rfl|(simp [errW_none,errW_some] <;> rfl)|(simp only [← hji43];first|rfl|(simp [errW_none,errW_some] <;> rfl))|(simp [*,errW_none,errW_some] <;> rfl),hx_⟩
        rw [if_neg c46] at H
        have c46b0 : decide (((rd_T51 l0_1 x13_1).f0) < ((rd_T51 l0_1 (ji43)).f0)) = false:=decide_eq_false c46
        clear c46
        by_cases c50 : ((rd_T51 l0_1 (ji43)).f0) = ((rd_T51 l0_1 x13_1).f0)
        ·rw [if_pos c50] at H
         have c50b0 : (((rd_T51 l0_1 (ji43)).f0) == ((rd_T51 l0_1 x13_1).f0)) = true:=beq_iff_eq.mpr c50
         have c50b1 : (((rd_T51 l0_1 (ji43)).f0) != ((rd_T51 l0_1 x13_1).f0)) = false:=bne_eq_false_iff_eq.mpr c50
         clear c50
         by_cases c51 : ((rd_T51 l0_1 (ji43)).f1) ≥ ((rd_T51 l0_1 x13_1).f1)
         ·rw [if_pos c51] at H
          have c51b0 : decide (((rd_T51 l0_1 x13_1).f1) ≤ ((rd_T51 l0_1 (ji43)).f1)) = true:=decide_eq_true c51
          clear c51
          obtain rfl:=Option.some.inj H
          have hnb52:=NB210_213.out
          have hnc52:=NB213_210.out
          obtain ⟨hcz53_0,hcz53_1,hfz53_0,hfz53_1⟩:=c2f_ BK210.out
          have p219 : 0 ≤ ((ji43) : Int):=dt_
          have q219 : (ji43) < (l0_1.length : Int):=dt_
          obtain ⟨ad219,e219,hx219_0,hx219_1,hx219_2,hx219_3,hx219_4⟩:=at_T51 HR0_1.out (ji43) p219 q219
          obtain rfl : ad212 = ad219:=(by injection e219)
          replace hx219_0:=cb_ HB hx219_0
          replace hx219_1:=cb_ HB hx219_1
          replace hx219_2:=cb_ HB hx219_2
          replace hx219_3:=cb_ HB hx219_3
          replace hx219_4:=cb_ HB hx219_4
          replace p219:=eq_true p219
          replace q219:=eq_true q219
          obtain ⟨hcz54_0,hcz54_1,hcz54_2,hcz54_3,hcz54_4,hfz54_0,hfz54_1,hfz54_2,hfz54_3,hfz54_4⟩:=c5f_ BK213.out
          have p220 : 0 ≤ ((ji43) : Int):=dt_
          have q220 : (ji43) < (l0_1.length : Int):=dt_
          obtain ⟨ad220,e220,hx220_0,hx220_1,hx220_2,hx220_3,hx220_4⟩:=at_T51 HR0_1.out (ji43) p220 q220
          obtain rfl : ad212 = ad220:=(by injection e220)
          replace hx220_0:=cb_ HB hx220_0
          replace hx220_1:=cb_ HB hx220_1
          replace hx220_2:=cb_ HB hx220_2
          replace hx220_3:=cb_ HB hx220_3
          replace hx220_4:=cb_ HB hx220_4
          replace p220:=eq_true p220
          replace q220:=eq_true q220
          have p221 : 0 ≤ ((ji43) : Int):=dt_
          have q221 : (ji43) < (l0_1.length : Int):=dt_
          obtain ⟨ad221,e221,hx221_0,hx221_1,hx221_2,hx221_3,hx221_4⟩:=at_T51 HR0_1.out (ji43) p221 q221
          obtain rfl : ad212 = ad221:=(by injection e221)
          replace hx221_0:=cb_ HB hx221_0
          replace hx221_1:=cb_ HB hx221_1
          replace hx221_2:=cb_ HB hx221_2
          replace hx221_3:=cb_ HB hx221_3
          replace hx221_4:=cb_ HB hx221_4
          replace p221:=eq_true p221
          replace q221:=eq_true q221
          go_wp2
          repeat (go_quiet (fail);try go_wp2)
          go_ret
          exact ⟨by first|rfl|(simp [errW_none,errW_some] <;> rfl)|(simp only [← hji43];first|rfl|(simp [errW_none,errW_some] <;> rfl))|(simp [*,errW_none,errW_some] <;> rfl),hx_⟩
         rw [if_neg c51] at H
         have c51b0 : decide (((rd_T51 l0_1 x13_1).f1) ≤ ((rd_T51 l0_1 (ji43)).f1)) = false:=decide_eq_false c51
         clear c51
         have H':=qy.mk H
         clear H
         have hnb55:=NB210_213.out
         have hnc55:=NB213_210.out
         obtain ⟨hcz56_0,hcz56_1,hfz56_0,hfz56_1⟩:=c2f_ BK210.out
         have p219 : 0 ≤ ((ji43) : Int):=dt_
         have q219 : (ji43) < (l0_1.length : Int):=dt_
         obtain ⟨ad219,e219,hx219_0,hx219_1,hx219_2,hx219_3,hx219_4⟩:=at_T51 HR0_1.out (ji43) p219 q219
         obtain rfl : ad212 = ad219:=(by injection e219)
         replace hx219_0:=cb_ HB hx219_0
         replace hx219_1:=cb_ HB hx219_1
         replace hx219_2:=cb_ HB hx219_2
         replace hx219_3:=cb_ HB hx219_3
         replace hx219_4:=cb_ HB hx219_4
         replace p219:=eq_true p219
         replace q219:=eq_true q219
         obtain ⟨hcz57_0,hcz57_1,hcz57_2,hcz57_3,hcz57_4,hfz57_0,hfz57_1,hfz57_2,hfz57_3,hfz57_4⟩:=c5f_ BK213.out
         have p220 : 0 ≤ ((ji43) : Int):=dt_
         have q220 : (ji43) < (l0_1.length : Int):=dt_
         obtain ⟨ad220,e220,hx220_0,hx220_1,hx220_2,hx220_3,hx220_4⟩:=at_T51 HR0_1.out (ji43) p220 q220
         obtain rfl : ad212 = ad220:=(by injection e220)
         replace hx220_0:=cb_ HB hx220_0
         replace hx220_1:=cb_ HB hx220_1
         replace hx220_2:=cb_ HB hx220_2
         replace hx220_3:=cb_ HB hx220_3
         replace hx220_4:=cb_ HB hx220_4
         replace p220:=eq_true p220
         replace q220:=eq_true q220
         have p221 : 0 ≤ ((ji43) : Int):=dt_
         have q221 : (ji43) < (l0_1.length : Int):=dt_
         obtain ⟨ad221,e221,hx221_0,hx221_1,hx221_2,hx221_3,hx221_4⟩:=at_T51 HR0_1.out (ji43) p221 q221
         obtain rfl : ad212 = ad221:=(by injection e221)
         replace hx221_0:=cb_ HB hx221_0
         replace hx221_1:=cb_ HB hx221_1
         replace hx221_2:=cb_ HB hx221_2
         replace hx221_3:=cb_ HB hx221_3
         replace hx221_4:=cb_ HB hx221_4
         replace p221:=eq_true p221
         replace q221:=eq_true q221
         go_wp2
         repeat (go_quiet (fail);try go_wp2)
         go_roundg kj8
         case measure=>have:=HK1.out;have:=HJ8.out;omega
         case rel=>exact ⟨(wrap64 (x13_1 + 1)),rs_,H',⟨by have:=HK1.out;have:=HJ8.out;omega⟩,(bx_ BK210),⟨hx_⟩⟩
        rw [if_neg c50] at H
        have c50b0 : (((rd_T51 l0_1 (ji43)).f0) == ((rd_T51 l0_1 x13_1).f0)) = false:=beq_eq_false_iff_ne.mpr c50
        have c50b1 : (((rd_T51 l0_1 (ji43)).f0) != ((rd_T51 l0_1 x13_1).f0)) = true:=bne_iff_ne.mpr c50
        have H':=qy.mk H
        clear H
        have hnb58:=NB210_213.out
        have hnc58:=NB213_210.out
        obtain ⟨hcz59_0,hcz59_1,hfz59_0,hfz59_1⟩:=c2f_ BK210.out
        have p219 : 0 ≤ ((ji43) : Int):=dt_
        have q219 : (ji43) < (l0_1.length : Int):=dt_
        obtain ⟨ad219,e219,hx219_0,hx219_1,hx219_2,hx219_3,hx219_4⟩:=at_T51 HR0_1.out (ji43) p219 q219
        obtain rfl : ad212 = ad219:=(by injection e219)
        replace hx219_0:=cb_ HB hx219_0
        replace hx219_1:=cb_ HB hx219_1
        replace hx219_2:=cb_ HB hx219_2
        replace hx219_3:=cb_ HB hx219_3
        replace hx219_4:=cb_ HB hx219_4
        replace p219:=eq_true p219
        replace q219:=eq_true q219
        obtain ⟨hcz60_0,hcz60_1,hcz60_2,hcz60_3,hcz60_4,hfz60_0,hfz60_1,hfz60_2,hfz60_3,hfz60_4⟩:=c5f_ BK213.out
        have p220 : 0 ≤ ((ji43) : Int):=dt_
        have q220 : (ji43) < (l0_1.length : Int):=dt_
        obtain ⟨ad220,e220,hx220_0,hx220_1,hx220_2,hx220_3,hx220_4⟩:=at_T51 HR0_1.out (ji43) p220 q220
        obtain rfl : ad212 = ad220:=(by injection e220)
        replace hx220_0:=cb_ HB hx220_0
        replace hx220_1:=cb_ HB hx220_1
        replace hx220_2:=cb_ HB hx220_2
        replace hx220_3:=cb_ HB hx220_3
        replace hx220_4:=cb_ HB hx220_4
        replace p220:=eq_true p220
        replace q220:=eq_true q220
        go_wp2
        repeat (go_quiet (fail);try go_wp2)
        go_roundg kj8
        case measure=>have:=HK1.out;have:=HJ8.out;omega
        case rel=>exact ⟨(wrap64 (x13_1 + 1)),rs_,H',⟨by have:=HK1.out;have:=HJ8.out;omega⟩,(bx_ BK210),⟨hx_⟩⟩
       rw [if_neg c45] at H
       exact absurd H (by simp)
      rw [if_neg c44] at H
      exact absurd H (by simp)
     rw [if_neg c42] at H
     have c42b0 : decide (0 < x13_1) = false:=decide_eq_false c42
     clear c42
     have H':=qy.mk H
     clear H
     go_wp2
     repeat (go_quiet (fail);try go_wp2)
     go_roundg kj8
     case measure=>have:=HK1.out;have:=HJ8.out;omega
     case rel=>exact ⟨(wrap64 (x13_1 + 1)),rs_,H',⟨by have:=HK1.out;have:=HJ8.out;omega⟩,(bx_ BK210),⟨hx_⟩⟩
    rw [if_neg c8] at H
    exact absurd H (by simp)
   rw [if_neg c7] at H
   exact absurd H (by simp)
  rw [if_neg c6] at H
  have c6b0 : decide (x13_1 < (l0_1.length : Int)) = false:=decide_eq_false c6
  clear c6
  obtain rfl:=Option.some.inj H
  go_wp2
  repeat (go_quiet (fail);try go_wp2)
  go_ret
  exact ⟨rt_,hx_⟩
 replace c3:=Bool.eq_false_iff.mpr c3
 subst c3
 have H1 : (some false) = some r:=by rw [if_neg (show ¬ (false = true) by decide)] at H;exact H
 clear H
 have H:=H1
 clear H1
 obtain rfl:=Option.some.inj H
 go_enter Try.func13,Try.ntmps13
 go_wp2_with (first|((with_reducible refine gate_dst (N:=1) rfl ?_);refine box_event ?hg (N:=1) ?hd (cs:=#[.int .i64 a0_0,.slice A0_1 l0_1.length c0_1]) (t:=29) ?hr ?_;(case hd=>rfl);(case hg=>rfl);(case hr=>first|(go_simp;done)|(go_simp;rfl));intro gb210 hg w61 hbox hb;have BK210:=qy.mk (hbox);have GW210:=qy.mk ((by rw [hg];exact (qu hx_) : w.heap.size ≤ gb210));have GE210:=qy.mk ((by rw [hg];exact (qu hx_) : w.heap.size ≤ gb210));replace HB:=hs_ HB hb;clear hb hbox hg;obtain ⟨hcz62_0,hcz62_1,hfz62_0,hfz62_1⟩:=c2f_ BK210.out)|(go_at_call 22;(with_reducible refine (impl_in.calls a0_0 0 9 false _ A2.out).mono ?_);rintro e w' ⟨rfl,⟨nd,rfl⟩⟩;(try first|exact ⟨rfl,_,World.drewN_drewN _ _ _⟩|exact ⟨rfl,_,Eq.trans (World.drewN_drewN _ _ _) (congrArg (World.drewN _) (Nat.add_assoc _ _ _))⟩)))
 repeat (go_quiet (first|((with_reducible refine gate_dst (N:=1) rfl ?_);refine box_event ?hg (N:=1) ?hd (cs:=#[.int .i64 a0_0,.slice A0_1 l0_1.length c0_1]) (t:=29) ?hr ?_;(case hd=>rfl);(case hg=>rfl);(case hr=>first|(go_simp;done)|(go_simp;rfl));intro gb210 hg w61 hbox hb;have BK210:=qy.mk (hbox);have GW210:=qy.mk ((by rw [hg];exact (qu hx_) : w.heap.size ≤ gb210));have GE210:=qy.mk ((by rw [hg];exact (qu hx_) : w.heap.size ≤ gb210));replace HB:=hs_ HB hb;clear hb hbox hg;obtain ⟨hcz62_0,hcz62_1,hfz62_0,hfz62_1⟩:=c2f_ BK210.out)|(go_at_call 22;(with_reducible refine (impl_in.calls a0_0 0 9 false _ A2.out).mono ?_);rintro e w' ⟨rfl,⟨nd,rfl⟩⟩;(try first|exact ⟨rfl,_,World.drewN_drewN _ _ _⟩|exact ⟨rfl,_,Eq.trans (World.drewN_drewN _ _ _) (congrArg (World.drewN _) (Nat.add_assoc _ _ _))⟩)));try go_wp2_with (first|((with_reducible refine gate_dst (N:=1) rfl ?_);refine box_event ?hg (N:=1) ?hd (cs:=#[.int .i64 a0_0,.slice A0_1 l0_1.length c0_1]) (t:=29) ?hr ?_;(case hd=>rfl);(case hg=>rfl);(case hr=>first|(go_simp;done)|(go_simp;rfl));intro gb210 hg w61 hbox hb;have BK210:=qy.mk (hbox);have GW210:=qy.mk ((by rw [hg];exact (qu hx_) : w.heap.size ≤ gb210));have GE210:=qy.mk ((by rw [hg];exact (qu hx_) : w.heap.size ≤ gb210));replace HB:=hs_ HB hb;clear hb hbox hg;obtain ⟨hcz62_0,hcz62_1,hfz62_0,hfz62_1⟩:=c2f_ BK210.out)|(go_at_call 22;(with_reducible refine (impl_in.calls a0_0 0 9 false _ A2.out).mono ?_);rintro e w' ⟨rfl,⟨nd,rfl⟩⟩;(try first|exact ⟨rfl,_,World.drewN_drewN _ _ _⟩|exact ⟨rfl,_,Eq.trans (World.drewN_drewN _ _ _) (congrArg (World.drewN _) (Nat.add_assoc _ _ _))⟩))))
 go_ret
 exact ⟨rt_,hx_⟩

/-! ### impl_Scalar: function 23 -/
def impl_Scalar.f (a0_0 : Int) (a0_1 : Int) (a0_2 : Int) (a0_3 : Int) (a0_4 : Int) : Option (Int):=some (wrap64 ((wrap64 ((wrap64 (90000 * a0_2)) + (wrap64 (300 * a0_3)))) + a0_4))
set_option maxHeartbeats 8000000 in
set_option maxRecDepth 100000 in
theorem impl_Scalar.calls (a0_0 : Int) (a0_1 : Int) (a0_2 : Int) (a0_3 : Int) (a0_4 : Int) (r : Int) (w : World) (h : impl_Scalar.f a0_0 a0_1 a0_2 a0_3 a0_4 = some r) :
  Calls Try.prog 23 #[.agg #[.int .i64 a0_0,.int .i64 a0_1,.int .i64 a0_2,.int .i64 a0_3,.int .i64 a0_4]] w fun e w'=>e = .returned (.int .i64 r) ∧ Below w.heap.size w w':=by
 have hu51:=Try.underlying51
 have HB:=qy.mk (Below.refl w.heap.size w)
 have H : (some (wrap64 ((wrap64 ((wrap64 (90000 * a0_2)) + (wrap64 (300 * a0_3)))) + a0_4))) = some r:=h
 clear h
 obtain rfl:=Option.some.inj H
 go_enter Try.func23,Try.ntmps23
 go_wp2_with (first|((with_reducible refine gate_dst (N:=1) rfl ?_);refine box_event ?hg (N:=1) ?hd (cs:=#[.int .i64 a0_0,.int .i64 a0_1,.int .i64 a0_2,.int .i64 a0_3,.int .i64 a0_4]) (t:=51) ?hr ?_;(case hd=>rfl);(case hg=>rfl);(case hr=>first|(go_simp;done)|(go_simp;rfl));intro gb222 hg w2 hbox hb;have BK222:=qy.mk (hbox);have GW222:=qy.mk ((by rw [hg];exact (qu hx_) : w.heap.size ≤ gb222));have GE222:=qy.mk ((by rw [hg];exact (qu hx_) : w.heap.size ≤ gb222));replace HB:=hs_ HB hb;clear hb hbox hg;obtain ⟨hcz3_0,hcz3_1,hcz3_2,hcz3_3,hcz3_4,hfz3_0,hfz3_1,hfz3_2,hfz3_3,hfz3_4⟩:=c5f_ BK222.out))
 go_ret
 exact ⟨rt_,hx_⟩

-- NOT PRINTED: function 14 (impl_newSolver)

end Go.Proofs.Ytnffimpoekjkpaa.QFnExactRounds
