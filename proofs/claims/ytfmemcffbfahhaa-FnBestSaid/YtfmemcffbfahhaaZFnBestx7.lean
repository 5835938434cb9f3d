/- Lean functions for the Go functions that the law FnBest reaches, and that each Go function comes to just its Lean function's answer; by a program of this session. -/
import Derived.Test.YtfmemcffbfahhaaZFnBestx0
import Derived.Test.YtfmemcffbfahhaaZFnBestx6
namespace Go.Proofs.Ytfmemcffbfahhaa.QFnBest
open Go.RowKit Go.Proofs.YtfmemcffbfahhaaW.PrintWords Go.Proofs.YtfmemcffbfahhaaW.PrintLast Go.Proofs.YtfmemcffbfahhaaW.PrintMore
attribute [local go_sem] max2_int min2_int max_two min_two max_three min_three max_four min_four   -- for this text's walks alone
set_option linter.unusedVariables false
set_option linter.unusedSimpArgs false

/-! ### spec_l01New: function 56 -/
def spec_l01New.l0 : Nat → List Int → Int → Int → Option (List Int × Int × Int)
 | 0,_,_,_=>none
 | k + 1,x0,x3,x4=>if x4 < (x0.length : Int) then (if x4 < 4000 then (if 0 ≤ x4 then (spec_l01New.l0 k x0 (Go.bits .and .i64 (wrap64 ((wrap64 ((wrap64 (x3 * 131)) + (wrap64 (rd x0 x4)))) + 7)) 1073741823) (wrap64 (x4 + 1))) else (none)) else (some (x0,0,x3))) else (some (x0,0,x3))
def spec_l01New.f (k : Nat) (l0 : List Int) : Option (List Int × Int × Int):=spec_l01New.l0 k l0 (wrap64 (10501 + (l0.length : Int))) 0
theorem spec_l01New.mono_l : ∀ k,(∀ y0 y1 y2,LeO (spec_l01New.l0 k y0 y1 y2) (spec_l01New.l0 (k + 1) y0 y1 y2))
 | 0=>fun _ _ _ r h=>by simp [spec_l01New.l0] at h
 | k + 1=>by
  have ih0:=spec_l01New.mono_l k
  ·intro y0 y1 y2
   unfold spec_l01New.l0
   repeat' first
   | (with_reducible exact ih0 _ _ _)
   | (with_reducible exact LeO.refl _)
   | (with_reducible exact LeO.none _)
   | (with_reducible refine LeO.ite ?_ ?_)
   | (with_reducible refine LeO.bind ?_ (fun _=>?_))
   | exact ih0 _ _ _
   | exact LeO.none _
   | refine LeO.ite ?_ ?_
   | refine LeO.bind ?_ (fun _=>?_)
theorem spec_l01New.mono : ∀ a0 k,LeO (spec_l01New.f k a0) (spec_l01New.f (k + 1) a0):=by
 intro a0 k
 have ih0:=spec_l01New.mono_l k
 unfold spec_l01New.f
 repeat' first
   | (with_reducible exact ih0 _ _ _)
   | (with_reducible exact LeO.refl _)
   | (with_reducible exact LeO.none _)
   | (with_reducible refine LeO.ite ?_ ?_)
   | (with_reducible refine LeO.bind ?_ (fun _=>?_))
   | exact ih0 _ _ _
   | exact LeO.none _
   | refine LeO.ite ?_ ?_
   | refine LeO.bind ?_ (fun _=>?_)
set_option maxHeartbeats 8000000 in
set_option maxRecDepth 100000 in
theorem spec_l01New.calls (k : Nat) (A0 : Option Addr) (c0 : Nat) (l0 : List Int) (r1 : List Int) (r2 : Int) (r3 : Int) (w0 w : World) (hB : Below w0.heap.size w0 w) (hr0 : Kd.C (Kd.int .u8) w0 A0 l0.length l0) (hc0 : l0.length ≤ c0) (h : spec_l01New.f k l0 = some (r1,r2,r3)) :
  Calls Try.prog 56 #[.slice A0 l0.length c0] w fun e w'=>∃ g_ : Nat,e = .returned (.pointer (some ⟨g_,0,none⟩)) ∧ IsS140 w0 w' g_ r1 r2 r3 ∧ Below w0.heap.size w0 w' ∧ Below w.heap.size w w':=by
 have hu140:=Try.underlying140
 have HR0:=qn.mk hr0
 have HC0:=qn.mk hc0
 clear hr0 hc0
 have HBW:=qn.mk (Below.refl w.heap.size w)
 have HW0:=qn.mk hB.size
 have HB:=qn.mk hB
 clear hB
 have H : (spec_l01New.l0 k l0 (wrap64 (10501 + (l0.length : Int))) 0) = some (r1,r2,r3):=h
 clear h
 have H':=qn.mk H
 clear H
 go_enter Try.func56,Try.ntmps56
 go_wp2
 go_loopg [3,4] k (fun kq v3 v4 w'=>∃ (x3_1 : Int) (x4_1 : Int),v3 = .int .i64 x3_1 ∧ v4 = .int .i64 x4_1 ∧ qn (spec_l01New.l0 kq l0 x3_1 x4_1 = some (r1,r2,r3)) ∧ qn (kq ≤ k) ∧ qn (Below w0.heap.size w0 w') ∧ qn (Below w.heap.size w w'))
 case atStart=>exact ⟨(wrap64 (10501 + (l0.length : Int))),(0),(by first|rfl|(simp;done)|(simp [*];done)),(by first|rfl|(simp;done)|(simp [*];done)),H',⟨Nat.le_refl _⟩,⟨by repeat (first|(with_reducible first|exact HB.out|apply qf|apply qa|apply qd)|exact HB.out)⟩,⟨by repeat (first|(with_reducible first|exact HBW.out|apply qf|apply qa|apply qd)|exact HBW.out)⟩⟩
 case round =>
  clear H'
  clear HBW
  obtain ⟨x3_1,x4_1,rfl,rfl,HA,HK1,HB,HBW⟩:=hrel
  cases gk with
  | zero=>exact absurd HA.out (by simp [spec_l01New.l0])
  | succ k1 =>
   have H:=HA.out
   clear HA
   simp only [spec_l01New.l0] at H
   by_cases c2 : x4_1 < (l0.length : Int)
   ·rw [if_pos c2] at H
    have c2b0 : decide (x4_1 < (l0.length : Int)) = true:=decide_eq_true c2
    clear c2
    by_cases c3 : x4_1 < 4000
    ·rw [if_pos c3] at H
     have c3b0 : decide (x4_1 < 4000) = true:=decide_eq_true c3
     clear c3
     by_cases c4 : 0 ≤ x4_1
     ·rw [if_pos c4] at H
      have c4b0 : decide (0 ≤ x4_1) = true:=decide_eq_true c4
      clear c4
      have H':=qn.mk H
      clear H
      have p250 : 0 ≤ (x4_1 : Int):=of_decide_eq_true (by first|(with_reducible assumption)|assumption)
      have q250 : x4_1 < (l0.length : Int):=of_decide_eq_true (by first|(with_reducible assumption)|assumption)
      obtain ⟨ad250,e250,hx250_0⟩:=Kd.at_int HR0.out x4_1 p250 q250
      cases e250
      replace hx250_0:=pw_cell_below HB.out hx250_0
      replace p250:=eq_true p250
      replace q250:=eq_true q250
      go_wp2
      go_roundg k1
      case measure=>have:=HK1.out;omega
      case rel=>exact ⟨(Go.bits .and .i64 (wrap64 ((wrap64 ((wrap64 (x3_1 * 131)) + (wrap64 (rd l0 x4_1)))) + 7)) 1073741823),(wrap64 (x4_1 + 1)),(by first|rfl|(simp;done)|(simp [*];done)),(by first|rfl|(simp;done)|(simp [*];done)),H',⟨by have:=HK1.out;omega⟩,⟨by repeat (first|(with_reducible first|exact HB.out|apply qf|apply qa|apply qd)|exact HB.out)⟩,⟨by repeat (first|(with_reducible first|exact HBW.out|apply qf|apply qa|apply qd)|exact HBW.out)⟩⟩
     ·rw [if_neg c4] at H
      exact absurd H (by simp)
    ·rw [if_neg c3] at H
     have c3b0 : decide (x4_1 < 4000) = false:=decide_eq_false c3
     clear c3
     simp only [Option.some.injEq,Prod.mk.injEq] at H
     obtain ⟨rfl,rfl,rfl⟩:=H
     go_wp2_with (first|((with_reducible refine gate_dst (N:=31) rfl ?_);refine box_event ?hg (N:=31) ?hd (cs:=#[.slice A0 l0.length c0,.int .i64 0,.int .i64 x3_1]) (t:=140) ?hr ?_;(case hd=>rfl);(case hg=>rfl);(case hr=>first|(go_simp;done)|(go_simp;rfl));intro gb251 hg w5 hbox hb;have n0_:=qn.mk (qm HBW.out hb);have n1_:=hs_ HB hb;have n2_:=qn.mk (hbox);have n3_:=qn.mk ((by rw [hg];exact (qj (by repeat (first|(with_reducible first|exact HBW.out|apply qf|apply qa|apply qd)|exact HBW.out))) : w.heap.size ≤ gb251));have n4_:=qn.mk ((Nat.le_trans HW0.out (by rw [hg];exact (qj (by repeat (first|(with_reducible first|exact HBW.out|apply qf|apply qa|apply qd)|exact HBW.out))) : w.heap.size ≤ gb251) : w0.heap.size ≤ gb251));clear HBW;clear HB;have HBW:=n0_;have HB:=n1_;have BK251:=n2_;have GW251:=n3_;have GE251:=n4_;clear n0_ n1_ n2_ n3_ n4_;clear hb hbox hg))
     go_ret
     exact ⟨_,rfl,(show IsS140 w0 _ gb251 l0 0 x3_1 from ⟨_,_,by (with_reducible repeat (first|refine qb ?_ _|refine qe ?_|refine qc ?_ _));exact BK251.out,GE251.out,HR0.out⟩),by repeat (first|(with_reducible first|exact HB.out|apply qf|apply qa|apply qd|refine qg ?_ GE251.out)|exact HB.out),by repeat (first|(with_reducible first|exact HBW.out|apply qf|apply qa|apply qd|refine qg ?_ GW251.out)|exact HBW.out)⟩
   ·rw [if_neg c2] at H
    have c2b0 : decide (x4_1 < (l0.length : Int)) = false:=decide_eq_false c2
    clear c2
    simp only [Option.some.injEq,Prod.mk.injEq] at H
    obtain ⟨rfl,rfl,rfl⟩:=H
    go_wp2_with (first|((with_reducible refine gate_dst (N:=31) rfl ?_);refine box_event ?hg (N:=31) ?hd (cs:=#[.slice A0 l0.length c0,.int .i64 0,.int .i64 x3_1]) (t:=140) ?hr ?_;(case hd=>rfl);(case hg=>rfl);(case hr=>first|(go_simp;done)|(go_simp;rfl));intro gb252 hg w6 hbox hb;have n0_:=qn.mk (qm HBW.out hb);have n1_:=hs_ HB hb;have n2_:=qn.mk (hbox);have n3_:=qn.mk ((by rw [hg];exact (qj (by repeat (first|(with_reducible first|exact HBW.out|apply qf|apply qa|apply qd)|exact HBW.out))) : w.heap.size ≤ gb252));have n4_:=qn.mk ((Nat.le_trans HW0.out (by rw [hg];exact (qj (by repeat (first|(with_reducible first|exact HBW.out|apply qf|apply qa|apply qd)|exact HBW.out))) : w.heap.size ≤ gb252) : w0.heap.size ≤ gb252));clear HBW;clear HB;have HBW:=n0_;have HB:=n1_;have BK252:=n2_;have GW252:=n3_;have GE252:=n4_;clear n0_ n1_ n2_ n3_ n4_;clear hb hbox hg))
    go_ret
    exact ⟨_,rfl,(show IsS140 w0 _ gb252 l0 0 x3_1 from ⟨_,_,by (with_reducible repeat (first|refine qb ?_ _|refine qe ?_|refine qc ?_ _));exact BK252.out,GE252.out,HR0.out⟩),by repeat (first|(with_reducible first|exact HB.out|apply qf|apply qa|apply qd|refine qg ?_ GE252.out)|exact HB.out),by repeat (first|(with_reducible first|exact HBW.out|apply qf|apply qa|apply qd|refine qg ?_ GW252.out)|exact HBW.out)⟩

end Go.Proofs.Ytfmemcffbfahhaa.QFnBest
