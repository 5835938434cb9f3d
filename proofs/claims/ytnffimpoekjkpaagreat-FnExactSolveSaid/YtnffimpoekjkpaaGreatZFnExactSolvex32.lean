import Derived.Test.YtnffimpoekjkpaaGreatZFnExactSolvex31
set_option linter.all false
namespace Go.Proofs.YtnffimpoekjkpaaGreat.QFnExactSolve
open Go.RowKit Go.Proofs.YtnffimpoekjkpaaGreatW.PrintWords Go.Proofs.YtnffimpoekjkpaaGreatW.PrintLast Go.Proofs.YtnffimpoekjkpaaGreatW.PrintMore
set_option maxHeartbeats 8000000
set_option maxRecDepth 100000
attribute [local go_sem] Od' Pd' Xd' Yd' Jd' Kd' Qd' Rd'
section
variable {w0 W w1 : World} {g : Nat} {N : Int} {Ae : Option Addr} {ce : Nat} {es : List (S73)} {col : Nat → Nat} {vy vn vl va vb v1 : Value} {s : SI}
theorem Sol.app_y {ys : List Int} (h : Sol w0 W g N Ae ce es col vy vn vl va vb s) (ho : Kd.R (Kd.int .i64) 3 w1 w0.heap.size (fun k=>col k = 1) v1 ys) (hb : Below w0.heap.size w0 w1) (hg : W.grownBy w1 vy.ownBlock) :
  Sol w0 (w1.setCell ⟨g,2,none⟩ v1) g N Ae ce es col v1 vn vl va vb { s with y:=ys } ∧ w1.cell? ⟨g,2,none⟩ = some vy ∧ w1.frozen? ⟨g,2,none⟩ = false:=by
 have b1:=le' h.blk hg (Kd.R_ne h.ry h.blk ba')
 have hne : ∀ {c : Nat},c ≠ 1 → ∀ k,col k = c → some k ≠ vy.ownBlock:=fun hc k hk e=>hc (by rw [← hk];exact h.ry.1 k e.symm)
 exact ⟨⟨by simpa using be' b1 2 v1,h.ge,qp hb h.ge,h.he,h.hec,Kd.R_set ho b1 Te' _ _,Kd.R_set (Kd.R_grown h.rn hg (hne ba')) b1 Fi' _ _,Kd.R_set (Kd.R_grown h.rl hg (hne ba')) b1 Te' _ _,Kd.R_set (Kd.R_grown h.ra hg (hne ba')) b1 Te' _ _,Kd.R_set (Kd.R_grown h.rb hg (hne ba')) b1 Te' _ _⟩,(qq b1 2).trans rfl,qu b1 2⟩
theorem Sol.app_n {ys : List (S89)} (h : Sol w0 W g N Ae ce es col vy vn vl va vb s) (ho : Kd.R k89 89 w1 w0.heap.size (fun k=>col k = 2) v1 ys) (hb : Below w0.heap.size w0 w1) (hg : W.grownBy w1 vn.ownBlock) :
  Sol w0 (w1.setCell ⟨g,3,none⟩ v1) g N Ae ce es col vy v1 vl va vb { s with nd:=ys } ∧ w1.cell? ⟨g,3,none⟩ = some vn ∧ w1.frozen? ⟨g,3,none⟩ = false:=by
 have b1:=le' h.blk hg (Kd.R_ne h.rn h.blk ba')
 have hne : ∀ {c : Nat},c ≠ 2 → ∀ k,col k = c → some k ≠ vn.ownBlock:=fun hc k hk e=>hc (by rw [← hk];exact h.rn.1 k e.symm)
 exact ⟨⟨by simpa using be' b1 3 v1,h.ge,qp hb h.ge,h.he,h.hec,Kd.R_set (Kd.R_grown h.ry hg (hne ba')) b1 Te' _ _,Kd.R_set ho b1 Fi' _ _,Kd.R_set (Kd.R_grown h.rl hg (hne ba')) b1 Te' _ _,Kd.R_set (Kd.R_grown h.ra hg (hne ba')) b1 Te' _ _,Kd.R_set (Kd.R_grown h.rb hg (hne ba')) b1 Te' _ _⟩,(qq b1 3).trans rfl,qu b1 3⟩
theorem Sol.ahead (h : Sol w0 W g N Ae ce es col vy vn vl va vb s) (c : Nat) : Sol w0 W g N Ae ce es (fun k=>if W.heap.size ≤ k then c else col k) vy vn vl va vb s :=
 h.recol fun k hk=>by rw [if_neg aa']
end
def Xg' (es : List (S73)) : Nat → Int → Int → Int
 | 0,_,m=>m
 | k + 1,i,m=>if i < (es.length : Int) then Xg' es k (i + 1) (max m (scI (ud' es i))) else m
def kg' (es : List (S73)) : Int:=Xg' es (es.length + 1) 0 0
def Pe' (v : Int) : S89:=⟨[],[],-1,-1,v,0,false⟩
def newI (N : Int) (es : List (S73)) : SI:=⟨List.replicate N.toNat (kg' es),(List.range N.toNat).map fun (v : Nat)=>Pe' (v : Int),[],[],[],0⟩
theorem Hk' (w : World) (N : Int) (Ae : Option Addr) (ce : Nat) (es : List (S73)) (hC : Kd.C k73 w Ae es.length es) (hec : es.length ≤ ce) (hN : 0 ≤ N ∧ N ≤ 1000) :
  Calls Tryz.prog 24 #[.agg #[.int .i64 N,.slice Ae es.length ce]] w fun e w'=>∃ g col vy vn vl va vb,e = .returned (.pointer (some ⟨g,0,none⟩)) ∧ Sol w w' g N Ae ce es col vy vn vl va vb (newI N es):=by
 have hu87:=Tryz.underlying87
 have hu89:=Tryz.underlying89
 have hu73:=Tryz.underlying73
 have hu35:=Tryz.underlying35
 have HC:=qz.mk hC
 have HEC:=qz.mk hec
 have HN:=qz.mk hN
 have HM:=qz.mk (Kd.C_max hC)
 clear hC hec hN
 go_enter Tryz.func24,Tryz.ntmps24
 go_wp2_with fail
 have BX1 : qz ((w.alloc (.cells #[.int .i64 N,.slice Ae es.length ce] 35)).heap[w.heap.size]? = some (.cells #[.int .i64 N,.slice Ae es.length ce] 35 (0,0))):=⟨yd' w _⟩
 have HB1 : qz (Below w.heap.size w (w.alloc (.cells #[.int .i64 N,.slice Ae es.length ce] 35))):=⟨qo (Below.refl _ _) _⟩
 generalize w.alloc (.cells #[.int .i64 N,.slice Ae es.length ce] 35) = W1 at *
 generalize hgb : w.heap.size = gb at BX1 ⊢
 obtain ⟨mm,hmm⟩ : ∃ mm,kg' es = mm:=⟨_,rfl⟩
 have HT:=qz.mk hmm
 have HMM:=qz.mk hmm
 clear hmm
 go_loopg [3,11] (es.length + 1) (fun kq v3 v11 w'=>∃ m i : Int,v3 = .int .i64 m ∧ v11 = .int .i64 i ∧ qz (0 ≤ i ∧ i + kq = es.length + 1 ∧ i ≤ es.length) ∧ qz (Xg' es kq i m = mm) ∧ qz (Below W1.heap.size W1 w'))
 case atStart=>exact ⟨0,0,rfl,rfl,⟨aa',aa',aa'⟩,HT,⟨Below.refl _ _⟩⟩
 clear HT
 obtain ⟨m,i,rfl,rfl,HI,HT,HB⟩:=hrel
 cases gk with
 | zero =>
  exfalso
  have h1:=HI.o
  omega
 | succ k1 =>
  have h:=HT.o
  clear HT
  rw [Xg'] at h
  by_cases c : i < (es.length : Int)
  ·rw [if_pos c] at h
   have HT:=qz.mk h
   have hi0:=HI.o.1
   have HIL:=qz.mk c
   have cl0 : decide (i < (es.length : Int)) = true:=decide_eq_true c
   obtain ⟨adE,e_,he0,he1,he2,he3,he4⟩:=of' (Kd.C_below HC.o (qy HB1.o HB.o)) i hi0 c
   subst e_
   have pi:=eq_true hi0
   have qi:=eq_true c
   clear h c
   go_wp2_with (first|(go_at_call 46;refine (impl_Scalar.calls _ _ _ _ _ _ _ rfl).mono ?_;rintro e w3 ⟨rfl,hb⟩;have HB3 : qz (Below W1.heap.size W1 w3):=⟨qy (by repeat (first|exact HB.o|apply qo|apply qd)) hb⟩;clear hb))
   all_goals (go_roundg k1;(case measure=>omega);(case rel=>exact ⟨_,i + 1,rfl,by rw [w64 aa' (by have:=HIL.o;have:=HM.o;omega)],⟨aa',fa',ga'⟩,⟨(congrArg (Xg' es k1 (i + 1)) (by simp only [scI];omega)).trans HT.o⟩,HB3⟩))
  rw [if_neg c] at h
  have cl0 : decide (i < (es.length : Int)) = false:=decide_eq_false c
  subst h
  clear c HI
  have BX2:=qz.mk (qx BX1.o HB.o)
  have hb0 : wr.cell? ⟨gb,0,none⟩ = some (.int .i64 N):=(qq BX2.o 0).trans rfl
  have hb1 : wr.cell? ⟨gb,1,none⟩ = some (.slice Ae es.length ce):=(qq BX2.o 1).trans rfl
  go_upto_region 8 with fail
  have BXS : qz ((wr.alloc (.cells #[.int .i64 N,.slice Ae es.length ce,.slice none 0 0,.slice none 0 0,.slice none 0 0,.slice none 0 0,.slice none 0 0,.int .i64 0] 87)).heap[wr.heap.size]? = some (.cells #[.int .i64 N,.slice Ae es.length ce,.slice none 0 0,.slice none 0 0,.slice none 0 0,.slice none 0 0,.slice none 0 0,.int .i64 0] 87 (0,0))):=⟨yd' wr _⟩
  have HBS : qz (Below wr.heap.size wr (wr.alloc (.cells #[.int .i64 N,.slice Ae es.length ce,.slice none 0 0,.slice none 0 0,.slice none 0 0,.slice none 0 0,.slice none 0 0,.int .i64 0] 87))):=⟨qo (Below.refl _ _) _⟩
  generalize wr.alloc (.cells #[.int .i64 N,.slice Ae es.length ce,.slice none 0 0,.slice none 0 0,.slice none 0 0,.slice none 0 0,.slice none 0 0,.int .i64 0] 87) = W2 at *
  have HGS : qz (w.heap.size ≤ wr.heap.size):=⟨(qy HB1.o HB.o).size⟩
  have BX3:=qz.mk (qx BX2.o HBS.o)
  have HS0 : qz (Sol w W2 wr.heap.size N (Ae) ce es (fun _=>0) (.slice none 0 0) (.slice none 0 0) (.slice none 0 0) (.slice none 0 0) (.slice none 0 0) ⟨[],[],[],[],[],0⟩) :=
   ⟨⟨BXS.o,HGS.o,qy (qy HB1.o HB.o) HBS.o,HC.o,HEC.o,Kd.R_nil _ _ _ _ _,Kd.R_nil _ _ _ _ _,Kd.R_nil _ _ _ _ _,Kd.R_nil _ _ _ _ _,Kd.R_nil _ _ _ _ _⟩⟩
  generalize wr.heap.size = gs at HS0 HGS ⊢
  clear hb0 hb1 BX2 BXS HBS HB
  have hb0 : W2.cell? ⟨gb,0,none⟩ = some (.int .i64 N):=(qq BX3.o 0).trans rfl
  go_wp2_with fail
  clear hb0
  go_loopg [25] (N.toNat + 1) (fun kq v25 w'=>∃ (i : Nat) (col : Nat → Nat) (vy vn : Value),v25 = .int .i64 (i : Int) ∧ qz (i + kq = N.toNat + 1 ∧ i ≤ N.toNat) ∧ qz (Sol w w' gs N Ae ce es col vy vn (.slice none 0 0) (.slice none 0 0) (.slice none 0 0) ⟨List.replicate i m,(List.range i).map fun (v : Nat)=>Pe' (v : Int),[],[],[],0⟩))
  case atStart=>exact ⟨0,_,_,_,rfl,⟨aa',aa'⟩,HS0⟩
  clear HS0
  obtain ⟨j,col,vy,vn,rfl,HI,HS⟩:=hrel
  cases gk with
  | zero =>
   exfalso
   have h1:=HI.o
   omega
  | succ k1 =>
   by_cases c : (j : Int) < N
   ·have cl1 : decide ((j : Int) < N) = true:=decide_eq_true c
    have HIL:=qz.mk c
    clear c
    obtain ⟨Ay,cy,e_⟩:=Kd.R_slice HS.o.ry
    change vy = .slice Ay (List.replicate j m).length cy at e_
    rw [List.length_replicate] at e_
    subst e_
    obtain ⟨An,cn,e_⟩:=Kd.R_slice HS.o.rn
    change vn = .slice An ((List.range j).map fun (v : Nat)=>Pe' (v : Int)).length cn at e_
    rw [List.length_map,List.length_range] at e_
    subst e_
    have HA:=qz.mk (HS.o.ahead 1)
    have hc:=HS.o.cells
    have hw1 : wrap64 ((j : Int) + 1) = ((j + 1 : Nat) : Int):=by rw [w64 aa' Tb'];omega
    go_upto_region 12 with (first|((with_reducible refine Ld' (b:=.append) (xs:=#[.tmp 32,.tmp 34]) rfl ?_);at_builtin;refine Kd.R_append (Kd.int .i64) (w0:=w) w.heap.size rfl (.tmp 32) (.tmp 34) 27 3 (.int .i64 0) 8 rfl Tryz.underlying27 Ud' rfl ba' aa' _ (List.replicate j m) m [.int .i64 m] (fun k=>(if wr.heap.size ≤ k then 1 else col k) = 1) (fun _=>False) rfl rfl ?aP (fun _ hk=>hk.elim) ?aF HA.o.ry HA.o.hb HA.o.hb.size ?aL ?_;(case aP=>exact rfl);(case aF=>exact (fun k hk=>by rw [if_pos hk]));(case aL=>rw [List.length_replicate];have:=HIL.o;have:=HN.o;omega);intro v7 w7 ho hb hg hat;obtain ⟨A7,c7,e_⟩:=Kd.R_slice ho;rw [List.length_append,List.length_replicate,List.length_singleton] at e_;subst e_;obtain ⟨hs3,hx3,hf3⟩:=Sol.app_y HA.o ho hb hg;have HS3:=qz.mk hs3;clear hs3 ho hb hg hat))
    clear hx3 hf3 hc HA HS
    generalize w7.setCell _ _ = w8 at HS3 ⊢
    have HS4:=qz.mk (HS3.o.ahead 2)
    have hc:=HS3.o.cells
    clear HS3
    go_wp2_with (first|((with_reducible refine Ld' (b:=.append) (xs:=#[.tmp 42,.tmp 45]) rfl ?_);at_builtin;refine Kd.R_append k89 (w0:=w) w.heap.size rfl (.tmp 42) (.tmp 45) 85 89 (.agg #[(.slice none 0 0),(.slice none 0 0),(.int .i64 0),(.int .i64 0),(.int .i64 0),(.int .i64 0),(.bool false)]) 88 rfl Tryz.underlying85 bp' rfl ba' aa' _ ((List.range j).map fun (v : Nat)=>Pe' (v : Int)) (Pe' (j : Int)) [.slice none 0 0,.slice none 0 0,.int .i64 (-1),.int .i64 (-1),.int .i64 (j : Int),.int .i64 0,.bool false] _ (fun _=>False) rfl rfl (pl' _ _ _ (Pe' (j : Int)) (Kd.R_nil _ _ _ _ _) (Kd.R_nil _ _ _ _ _)) (fun _ hk=>hk.elim) ?aF HS4.o.rn HS4.o.hb HS4.o.hb.size ?aL ?_;(case aF=>exact (fun k hk=>by rw [if_pos hk]));(case aL=>rw [List.length_map,List.length_range];have:=HIL.o;have:=HN.o;omega);intro v9 w9 ho hb hg hat;obtain ⟨A9,c9,e_⟩:=Kd.R_slice ho;rw [List.length_append,List.length_map,List.length_range,List.length_singleton] at e_;subst e_;obtain ⟨hs5,hx5,hf5⟩:=Sol.app_n HS4.o ho hb hg;have HS5:=qz.mk hs5;clear hs5 ho hb hg hat))
    go_roundg k1
    case measure=>omega
    case rel=>exact ⟨j + 1,_,_,_,by first|rfl|rw [hw1]|simp,⟨fa',ga'⟩,⟨by rw [List.replicate_succ',List.range_succ,List.map_append];exact HS5.o⟩⟩
   have cl1 : decide ((j : Int) < N) = false:=decide_eq_false c
   go_wp2_with fail
   go_ret
   have hj : j = N.toNat:=by have:=HI.o;have:=HN.o;omega
   subst hj
   have HF : Sol w wr gs N Ae ce es col vy vn (.slice none 0 0) (.slice none 0 0) (.slice none 0 0) (newI N es):=by
    rw [newI,HMM.o]
    exact HS.o
   exact ⟨gs,rfl,_,_,_,_,_,_,HF⟩
end Go.Proofs.YtnffimpoekjkpaaGreat.QFnExactSolve
