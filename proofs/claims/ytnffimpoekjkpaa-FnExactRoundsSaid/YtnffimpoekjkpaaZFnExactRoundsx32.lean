/- The program's solver: newSolver. -/
import Derived.Test.YtnffimpoekjkpaaZFnExactRoundsx31
namespace Go.Proofs.Ytnffimpoekjkpaa.QFnExactRounds
open Go.RowKit Go.Proofs.YtnffimpoekjkpaaW.PrintWords Go.Proofs.YtnffimpoekjkpaaW.PrintLast Go.Proofs.YtnffimpoekjkpaaW.PrintMore
attribute [local go_sem] max2_int min2_int max_two min_two max_three min_three max_four min_four
set_option linter.unusedVariables false
set_option linter.unusedSimpArgs false
section
variable {w0 W w1 : World} {g : Nat} {N : Int} {Ae : Option Addr} {ce : Nat} {es : List (S51)} {col : Nat → Nat} {vy vn vl va vb v1 : Value} {s : SI}
/-- A number appended to the row y, and the new row stored. -/
theorem Sol.app_y {ys : List Int} (h : Sol w0 W g N Ae ce es col vy vn vl va vb s) (ho : Kd.R (Kd.int .i64) 3 w1 w0.heap.size (fun k=>col k = 1) v1 ys) (hb : Below w0.heap.size w0 w1) (hg : W.grownBy w1 vy.ownBlock) :
  Sol w0 (w1.setCell ⟨g,2,none⟩ v1) g N Ae ce es col v1 vn vl va vb { s with y:=ys } ∧ w1.cell? ⟨g,2,none⟩ = some vy ∧ w1.frozen? ⟨g,2,none⟩ = false:=by
 have b1:=blk_grown h.blk hg (Kd.R_ne h.ry h.blk (by decide))
 have hne : ∀ {c : Nat},c ≠ 1 → ∀ k,col k = c → some k ≠ vy.ownBlock:=fun hc k hk e=>hc (by rw [← hk];exact h.ry.1 k e.symm)
 exact ⟨⟨by simpa using blk_set b1 2 v1,h.ge,qp hb h.ge,h.he,h.hec,Kd.R_set ho b1 t47_3 _ _,Kd.R_set (Kd.R_grown h.rn hg (hne (by decide))) b1 t47_60 _ _,Kd.R_set (Kd.R_grown h.rl hg (hne (by decide))) b1 t47_3 _ _,Kd.R_set (Kd.R_grown h.ra hg (hne (by decide))) b1 t47_3 _ _,Kd.R_set (Kd.R_grown h.rb hg (hne (by decide))) b1 t47_3 _ _⟩,(qq b1 2).trans rfl,qs b1 2⟩
/-- A node appended, and the new row stored. -/
theorem Sol.app_n {ys : List (S60)} (h : Sol w0 W g N Ae ce es col vy vn vl va vb s) (ho : Kd.R k60 60 w1 w0.heap.size (fun k=>col k = 2) v1 ys) (hb : Below w0.heap.size w0 w1) (hg : W.grownBy w1 vn.ownBlock) :
  Sol w0 (w1.setCell ⟨g,3,none⟩ v1) g N Ae ce es col vy v1 vl va vb { s with nd:=ys } ∧ w1.cell? ⟨g,3,none⟩ = some vn ∧ w1.frozen? ⟨g,3,none⟩ = false:=by
 have b1:=blk_grown h.blk hg (Kd.R_ne h.rn h.blk (by decide))
 have hne : ∀ {c : Nat},c ≠ 2 → ∀ k,col k = c → some k ≠ vn.ownBlock:=fun hc k hk e=>hc (by rw [← hk];exact h.rn.1 k e.symm)
 exact ⟨⟨by simpa using blk_set b1 3 v1,h.ge,qp hb h.ge,h.he,h.hec,Kd.R_set (Kd.R_grown h.ry hg (hne (by decide))) b1 t47_3 _ _,Kd.R_set ho b1 t47_60 _ _,Kd.R_set (Kd.R_grown h.rl hg (hne (by decide))) b1 t47_3 _ _,Kd.R_set (Kd.R_grown h.ra hg (hne (by decide))) b1 t47_3 _ _,Kd.R_set (Kd.R_grown h.rb hg (hne (by decide))) b1 t47_3 _ _⟩,(qq b1 3).trans rfl,qs b1 3⟩
/-- All blocks to come are of one colour. -/
theorem Sol.ahead (h : Sol w0 W g N Ae ce es col vy vn vl va vb s) (c : Nat) : Sol w0 W g N Ae ce es (fun k=>if W.heap.size ≤ k then c else col k) vy vn vl va vb s :=
 h.recol fun k hk=>by rw [if_neg (by omega)]
end
def mostF (es : List (S51)) : Nat → Int → Int → Int
 | 0,_,m=>m
 | k + 1,i,m=>if i < (es.length : Int) then mostF es k (i + 1) (max m (scI (rd_T51 es i))) else m
def mostI (es : List (S51)) : Int:=mostF es (es.length + 1) 0 0
def newNode (v : Int) : S60:=⟨[],[],-1,-1,v,0,false⟩
def newI (N : Int) (es : List (S51)) : SI:=⟨List.replicate N.toNat (mostI es),(List.range N.toNat).map fun (v : Nat)=>newNode (v : Int),[],[],[],0⟩
set_option maxHeartbeats 8000000 in
set_option maxRecDepth 100000 in
theorem newSolver_calls (w : World) (N : Int) (Ae : Option Addr) (ce : Nat) (es : List (S51)) (hC : Kd.C k51 w Ae es.length es) (hec : es.length ≤ ce) (hN : 0 ≤ N ∧ N ≤ 1000) :
  Calls Try.prog 14 #[.agg #[.int .i64 N,.slice Ae es.length ce]] w fun e w'=>∃ g col vy vn vl va vb,e = .returned (.pointer (some ⟨g,0,none⟩)) ∧ Sol w w' g N Ae ce es col vy vn vl va vb (newI N es):=by
 have hu47:=Try.underlying47
 have hu60:=Try.underlying60
 have hu51:=Try.underlying51
 have hu29:=Try.underlying29
 have HC:=qy.mk hC
 have HEC:=qy.mk hec
 have HN:=qy.mk hN
 have HM:=qy.mk (Kd.C_max hC)
 clear hC hec hN
 go_enter Try.func14,Try.ntmps14
 go_wp2_with fail
 have BX1 : qy ((w.alloc (.cells #[.int .i64 N,.slice Ae es.length ce] 29)).heap[w.heap.size]? = some (.cells #[.int .i64 N,.slice Ae es.length ce] 29 (0,0))):=⟨blk_new w _⟩
 have HB1 : qy (Below w.heap.size w (w.alloc (.cells #[.int .i64 N,.slice Ae es.length ce] 29))):=⟨qo (Below.refl _ _) _⟩
 generalize w.alloc (.cells #[.int .i64 N,.slice Ae es.length ce] 29) = W1 at *
 generalize hgb : w.heap.size = gb at BX1 ⊢
 obtain ⟨mm,hmm⟩ : ∃ mm,mostI es = mm:=⟨_,rfl⟩
 have HT:=qy.mk hmm
 have HMM:=qy.mk hmm
 clear hmm
 go_loopg [3,11] (es.length + 1) (fun kq v3 v11 w'=>∃ m i : Int,v3 = .int .i64 m ∧ v11 = .int .i64 i ∧ qy (0 ≤ i ∧ i + kq = es.length + 1 ∧ i ≤ es.length) ∧ qy (mostF es kq i m = mm) ∧ qy (Below W1.heap.size W1 w'))
 case atStart=>exact ⟨0,0,rfl,rfl,⟨by omega,by omega,by omega⟩,HT,⟨Below.refl _ _⟩⟩
 clear HT
 obtain ⟨m,i,rfl,rfl,HI,HT,HB⟩:=hrel
 cases gk with
 | zero =>
  exfalso
  have h1:=HI.out
  omega
 | succ k1 =>
  have h:=HT.out
  clear HT
  rw [mostF] at h
  by_cases c : i < (es.length : Int)
  ·rw [if_pos c] at h
   have HT:=qy.mk h
   have hi0:=HI.out.1
   have HIL:=qy.mk c
   have cl0 : decide (i < (es.length : Int)) = true:=decide_eq_true c
   obtain ⟨adE,e_,he0,he1,he2,he3,he4⟩:=at_T51 (Kd.C_below HC.out (qx HB1.out HB.out)) i hi0 c
   subst e_
   have pi:=eq_true hi0
   have qi:=eq_true c
   clear h c
   go_wp2_with (first|(go_at_call 23;refine (impl_Scalar.calls _ _ _ _ _ _ _ rfl).mono ?_;rintro e w3 ⟨rfl,hb⟩;have HB3 : qy (Below W1.heap.size W1 w3):=⟨qx (by repeat (first|exact HB.out|apply qo|apply qd)) hb⟩;clear hb))
   all_goals (go_roundg k1;(case measure=>omega);(case rel=>exact ⟨_,i + 1,rfl,by rw [w64 (by omega) (by have:=HIL.out;have:=HM.out;omega)],⟨by omega,by have:=HI.out;omega,by have:=HIL.out;omega⟩,⟨(congrArg (mostF es k1 (i + 1)) (by simp only [scI];omega)).trans HT.out⟩,HB3⟩))
  rw [if_neg c] at h
  have cl0 : decide (i < (es.length : Int)) = false:=decide_eq_false c
  subst h
  clear c HI
  have BX2:=qy.mk (qw BX1.out HB.out)
  have hb0 : wr.cell? ⟨gb,0,none⟩ = some (.int .i64 N):=(qq BX2.out 0).trans rfl
  have hb1 : wr.cell? ⟨gb,1,none⟩ = some (.slice Ae es.length ce):=(qq BX2.out 1).trans rfl
  go_upto_region 8 with fail
  have BXS : qy ((wr.alloc (.cells #[.int .i64 N,.slice Ae es.length ce,.slice none 0 0,.slice none 0 0,.slice none 0 0,.slice none 0 0,.slice none 0 0,.int .i64 0] 47)).heap[wr.heap.size]? = some (.cells #[.int .i64 N,.slice Ae es.length ce,.slice none 0 0,.slice none 0 0,.slice none 0 0,.slice none 0 0,.slice none 0 0,.int .i64 0] 47 (0,0))):=⟨blk_new wr _⟩
  have HBS : qy (Below wr.heap.size wr (wr.alloc (.cells #[.int .i64 N,.slice Ae es.length ce,.slice none 0 0,.slice none 0 0,.slice none 0 0,.slice none 0 0,.slice none 0 0,.int .i64 0] 47))):=⟨qo (Below.refl _ _) _⟩
  generalize wr.alloc (.cells #[.int .i64 N,.slice Ae es.length ce,.slice none 0 0,.slice none 0 0,.slice none 0 0,.slice none 0 0,.slice none 0 0,.int .i64 0] 47) = W2 at *
  have HGS : qy (w.heap.size ≤ wr.heap.size):=⟨(qx HB1.out HB.out).size⟩
  have BX3:=qy.mk (qw BX2.out HBS.out)
  have HS0 : qy (Sol w W2 wr.heap.size N (Ae) ce es (fun _=>0) (.slice none 0 0) (.slice none 0 0) (.slice none 0 0) (.slice none 0 0) (.slice none 0 0) ⟨[],[],[],[],[],0⟩) :=
   ⟨⟨BXS.out,HGS.out,qx (qx HB1.out HB.out) HBS.out,HC.out,HEC.out,Kd.R_nil _ _ _ _ _,Kd.R_nil _ _ _ _ _,Kd.R_nil _ _ _ _ _,Kd.R_nil _ _ _ _ _,Kd.R_nil _ _ _ _ _⟩⟩
  generalize wr.heap.size = gs at HS0 HGS ⊢
  clear hb0 hb1 BX2 BXS HBS HB
  have hb0 : W2.cell? ⟨gb,0,none⟩ = some (.int .i64 N):=(qq BX3.out 0).trans rfl
  go_wp2_with fail
  clear hb0
  go_loopg [25] (N.toNat + 1) (fun kq v25 w'=>∃ (i : Nat) (col : Nat → Nat) (vy vn : Value),v25 = .int .i64 (i : Int) ∧ qy (i + kq = N.toNat + 1 ∧ i ≤ N.toNat) ∧ qy (Sol w w' gs N Ae ce es col vy vn (.slice none 0 0) (.slice none 0 0) (.slice none 0 0) ⟨List.replicate i m,(List.range i).map fun (v : Nat)=>newNode (v : Int),[],[],[],0⟩))
  case atStart=>exact ⟨0,_,_,_,rfl,⟨by omega,by omega⟩,HS0⟩
  clear HS0
  obtain ⟨j,col,vy,vn,rfl,HI,HS⟩:=hrel
  cases gk with
  | zero =>
   exfalso
   have h1:=HI.out
   omega
  | succ k1 =>
   by_cases c : (j : Int) < N
   ·have cl1 : decide ((j : Int) < N) = true:=decide_eq_true c
    have HIL:=qy.mk c
    clear c
    obtain ⟨Ay,cy,e_⟩:=Kd.R_slice HS.out.ry
    change vy = .slice Ay (List.replicate j m).length cy at e_
    rw [List.length_replicate] at e_
    subst e_
    obtain ⟨An,cn,e_⟩:=Kd.R_slice HS.out.rn
    change vn = .slice An ((List.range j).map fun (v : Nat)=>newNode (v : Int)).length cn at e_
    rw [List.length_map,List.length_range] at e_
    subst e_
    have HA:=qy.mk (HS.out.ahead 1)
    have hc:=HS.out.cells
    have hw1 : wrap64 ((j : Int) + 1) = ((j + 1 : Nat) : Int):=by rw [w64 (by omega) (by have:=HIL.out;have:=HN.out;omega)];omega
    go_upto_region 12 with (first|((with_reducible refine gate_builtin (b:=.append) (xs:=#[.tmp 32,.tmp 34]) rfl ?_);at_builtin;refine Kd.R_append (Kd.int .i64) (w0:=w) w.heap.size rfl (.tmp 32) (.tmp 34) 35 3 (.int .i64 0) 8 rfl Try.underlying35 info3 rfl (by decide) (by omega) _ (List.replicate j m) m [.int .i64 m] (fun k=>(if wr.heap.size ≤ k then 1 else col k) = 1) (fun _=>False) rfl rfl ?aP (fun _ hk=>hk.elim) ?aF HA.out.ry HA.out.hb HA.out.hb.size ?aL ?_;(case aP=>exact rfl);(case aF=>exact (fun k hk=>by rw [if_pos hk]));(case aL=>rw [List.length_replicate];have:=HIL.out;have:=HN.out;omega);intro v7 w7 ho hb hg hat;obtain ⟨A7,c7,e_⟩:=Kd.R_slice ho;rw [List.length_append,List.length_replicate,List.length_singleton] at e_;subst e_;obtain ⟨hs3,hx3,hf3⟩:=Sol.app_y HA.out ho hb hg;have HS3:=qy.mk hs3;clear hs3 ho hb hg hat))
    clear hx3 hf3 hc HA HS
    generalize w7.setCell _ _ = w8 at HS3 ⊢
    have HS4:=qy.mk (HS3.out.ahead 2)
    have hc:=HS3.out.cells
    clear HS3
    go_wp2_with (first|((with_reducible refine gate_builtin (b:=.append) (xs:=#[.tmp 42,.tmp 45]) rfl ?_);at_builtin;refine Kd.R_append k60 (w0:=w) w.heap.size rfl (.tmp 42) (.tmp 45) 45 60 (.agg #[(.slice none 0 0),(.slice none 0 0),(.int .i64 0),(.int .i64 0),(.int .i64 0),(.int .i64 0),(.bool false)]) 88 rfl Try.underlying45 info60 rfl (by decide) (by omega) _ ((List.range j).map fun (v : Nat)=>newNode (v : Int)) (newNode (j : Int)) [.slice none 0 0,.slice none 0 0,.int .i64 (-1),.int .i64 (-1),.int .i64 (j : Int),.int .i64 0,.bool false] _ (fun _=>False) rfl rfl (k60_mkM _ _ _ (newNode (j : Int)) (Kd.R_nil _ _ _ _ _) (Kd.R_nil _ _ _ _ _)) (fun _ hk=>hk.elim) ?aF HS4.out.rn HS4.out.hb HS4.out.hb.size ?aL ?_;(case aF=>exact (fun k hk=>by rw [if_pos hk]));(case aL=>rw [List.length_map,List.length_range];have:=HIL.out;have:=HN.out;omega);intro v9 w9 ho hb hg hat;obtain ⟨A9,c9,e_⟩:=Kd.R_slice ho;rw [List.length_append,List.length_map,List.length_range,List.length_singleton] at e_;subst e_;obtain ⟨hs5,hx5,hf5⟩:=Sol.app_n HS4.out ho hb hg;have HS5:=qy.mk hs5;clear hs5 ho hb hg hat))
    go_roundg k1
    case measure=>omega
    case rel=>exact ⟨j + 1,_,_,_,by first|rfl|rw [hw1]|simp,⟨by have:=HI.out;omega,by have:=HIL.out;omega⟩,⟨by rw [List.replicate_succ',List.range_succ,List.map_append];exact HS5.out⟩⟩
   have cl1 : decide ((j : Int) < N) = false:=decide_eq_false c
   go_wp2_with fail
   go_ret
   have hj : j = N.toNat:=by have:=HI.out;have:=HN.out;omega
   subst hj
   have HF : Sol w wr gs N Ae ce es col vy vn (.slice none 0 0) (.slice none 0 0) (.slice none 0 0) (newI N es):=by
    rw [newI,HMM.out]
    exact HS.out
   exact ⟨gs,rfl,_,_,_,_,_,_,HF⟩
end Go.Proofs.Ytnffimpoekjkpaa.QFnExactRounds
