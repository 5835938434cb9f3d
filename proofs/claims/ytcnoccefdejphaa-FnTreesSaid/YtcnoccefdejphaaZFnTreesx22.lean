/- impl.with: ascending numbers with one more: its answer is the same slice, or a row of its own. -/
import Derived.Test.YtcnoccefdejphaaZFnTreesx20
import Derived.Test.YtcnoccefdejphaaZFnTreesx6
import Derived.RegionTactic
import Derived.BigRegion
import Derived.RegionCalls
namespace Go.Proofs.Ytcnoccefdejphaa.QFnTrees
open Go.RowKit Go.Proofs.YtcnoccefdejphaaW.PrintWords Go.Proofs.YtcnoccefdejphaaW.PrintLast Go.Proofs.YtcnoccefdejphaaW.PrintMore
attribute [local go_sem] max2_int min2_int max_two min_two max_three min_three max_four min_four
set_option linter.unusedVariables false
set_option linter.unusedSimpArgs false
/-- How many stand ahead of x. -/
def impl_with.at (l : List Int) (x : Int) : Nat:=(l.takeWhile fun y=>decide (y < x)).length
def impl_with.f (l : List Int) (x : Int) : List Int:=if impl_with.at l x < l.length ∧ rd l (impl_with.at l x : Int) = x then l else (l.take (impl_with.at l x) ++ [x]) ++ l.drop (impl_with.at l x)
def RetW (w' : World) (base : Nat) (A : Option Addr) (c : Nat) (l : List Int) (v : Value) (r : List Int) : Prop:=(v = .slice A l.length c ∧ r = l) ∨ Kd.R (Kd.int .i64) 3 w' base (fun _=>True) v r
theorem impl_with.at_le (l : List Int) (x : Int) : impl_with.at l x ≤ l.length:=by
 unfold impl_with.at
 exact (List.takeWhile_prefix _).length_le
theorem impl_with.at_lt {l : List Int} {x : Int} {i : Nat} (h : i < impl_with.at l x) : rd l (i : Int) < x:=by
 have hl:=impl_with.at_le l x
 unfold impl_with.at at h hl
 have hp:=(List.takeWhile_prefix (fun y : Int=>decide (y < x)) (l:=l))
 have h1 : (l.takeWhile fun y=>decide (y < x))[i]? = l[i]?:=by
  obtain ⟨t,ht⟩:=hp
  conv=>rhs;rw [← ht]
  rw [List.getElem?_append_left h]
 have h2 : (l.takeWhile fun y=>decide (y < x))[i] ∈ l.takeWhile fun y=>decide (y < x):=List.getElem_mem h
 have h3 : (fun y : Int=>decide (y < x)) ((l.takeWhile fun y=>decide (y < x))[i]) = true:=by
  have:=List.all_takeWhile (l:=l) (p:=fun y : Int=>decide (y < x))
  exact List.all_eq_true.1 this _ h2
 rw [List.getElem?_eq_getElem h] at h1
 unfold rd
 rw [Int.toNat_natCast,List.getD_eq_getElem?_getD,← h1,Option.getD_some]
 exact of_decide_eq_true h3
theorem impl_with.at_ge {l : List Int} {x : Int} (h : impl_with.at l x < l.length) : ¬ rd l (impl_with.at l x : Int) < x:=by
 induction l with
 | nil=>simp at h
 | cons y l ih =>
  unfold impl_with.at at h ⊢
  rw [List.takeWhile_cons] at h ⊢
  by_cases c : y < x
  ·rw [if_pos (decide_eq_true c)] at h ⊢
   have h2:=ih (by simpa [impl_with.at] using h)
   unfold impl_with.at at h2
   simpa [rd] using h2
  rw [if_neg (by simpa using c)]
  simpa [rd] using c
theorem one_C {w : World} {g : Nat} {a : Int} (h : w.heap[g]? = some (.cells #[.int .i64 a] 3 (0,0))) : (Kd.int .i64).C w (some ⟨g,0,none⟩) 1 [a]:=by
 refine ⟨rfl,by omega,fun _=>⟨_,rfl,fun j p hj=>?_⟩⟩
 obtain rfl : j = 0:=by
  rcases j with _|j
  ·rfl
  simp at hj
 obtain rfl : a = p:=by simpa using hj
 refine ⟨[.int .i64 a],rfl,rfl,fun i u hi=>?_⟩
 obtain rfl : i = 0:=by
  rcases i with _|i
  ·rfl
  simp at hi
 obtain rfl : Value.int .i64 a = u:=by simpa using hi
 exact (qh h 0).trans rfl
set_option maxHeartbeats 4000000 in
set_option maxRecDepth 100000 in
theorem impl_with.calls (A0 : Option Addr) (c0 : Nat) (l0 : List Int) (a1 : Int) (w : World) (hr0 : Kd.C (Kd.int .i64) w A0 l0.length l0) (hc0 : l0.length ≤ c0) (hl0 : l0.length ≤ 1000000) :
  Calls Try.prog 73 #[.slice A0 l0.length c0,.int .i64 a1] w fun e w'=>∃ v : Value,e = .returned v ∧ RetW w' w.heap.size A0 c0 l0 v (impl_with.f l0 a1) ∧ Below w.heap.size w w':=by
 have HR:=qo.mk hr0
 have HC:=qo.mk hc0
 have HL:=qo.mk hl0
 have HB:=qo.mk (Below.refl w.heap.size w)
 have hle:=impl_with.at_le l0 a1
 have HLE:=qo.mk hle
 clear hr0 hc0 hl0 hle
 go_enter Try.func73,Try.ntmps73
 go_wp2
 go_loopg [5] (l0.length + 1) (fun kq v5 w'=>∃ i : Nat,v5 = .int .i64 (i : Int) ∧ qo (i + kq = l0.length + 1 ∧ i ≤ impl_with.at l0 a1) ∧ qo (Below w.heap.size w w'))
 case atStart=>exact ⟨0,rfl,⟨by omega,Nat.zero_le _⟩,HB⟩
 clear HB
 obtain ⟨i,rfl,HI,HB⟩:=hrel
 have hi1:=HI.out.1
 have hi2:=HI.out.2
 have hi3:=HLE.out
 have hi4:=HL.out
 obtain ⟨k1,rfl⟩ : ∃ k,gk = k + 1:=⟨gk - 1,by omega⟩
 by_cases ca : i < impl_with.at l0 a1
 ·have hlt : i < l0.length:=by omega
  have c0b : decide ((i : Int) < (l0.length : Int)) = true:=decide_eq_true (by omega)
  have p0 : 0 ≤ (i : Int):=Int.natCast_nonneg i
  have q0 : (i : Int) < (l0.length : Int):=by omega
  obtain ⟨ad,eA,hx0⟩:=Kd.at_int HR.out (i : Int) p0 q0
  subst eA
  have hx1:=(HB.out.cell (World.block_lt_of_cell? _ _ hx0)).trans hx0
  have hx2:=impl_with.at_lt ca
  have c1b : decide (rd l0 (i : Int) < a1) = true:=decide_eq_true hx2
  rw [Int.toNat_natCast] at hx1
  have HA:=qo.mk ca
  clear hx0 ca hi1 hi2 hi3 hx2
  go_wp2
  go_roundg k1
  case measure=>omega
  case rel=>exact ⟨i + 1,by first|rfl|(simp;done)|(rw [show wrap64 ((i : Int) + 1) = ((i + 1 : Nat) : Int) from by unfold wrap64;omega]),⟨by have:=HI.out.1;omega,by have:=HA.out;omega⟩,HB⟩
 have hi5 : i = impl_with.at l0 a1:=by omega
 by_cases cb : i < l0.length
 ·have c0b : decide ((i : Int) < (l0.length : Int)) = true:=decide_eq_true (by omega)
  have p0 : 0 ≤ (i : Int):=Int.natCast_nonneg i
  have q0 : (i : Int) < (l0.length : Int):=by omega
  obtain ⟨ad,eA,hx0⟩:=Kd.at_int HR.out (i : Int) p0 q0
  subst eA
  have hx1:=(HB.out.cell (World.block_lt_of_cell? _ _ hx0)).trans hx0
  rw [Int.toNat_natCast] at hx1
  have c1b : decide (rd l0 (i : Int) < a1) = false:=decide_eq_false (by rw [hi5];exact impl_with.at_ge (by omega))
  by_cases ce : rd l0 (i : Int) = a1
  ·have c2b : (rd l0 (i : Int) == a1) = true:=beq_iff_eq.2 ce
   have hf : impl_with.f l0 a1 = l0:=by
    unfold impl_with.f
    rw [← hi5,if_pos ⟨cb,ce⟩]
   have HF:=qo.mk hf
   clear hx0 ca hi1 hi2 hi3 hi5 ce hf
   go_wp2
   go_ret
   exact ⟨_,rfl,.inl ⟨rfl,HF.out⟩,HB.out⟩
  have c2b : (rd l0 (i : Int) == a1) = false:=beq_eq_false_iff_ne.2 ce
  have hf : impl_with.f l0 a1 = (l0.take i ++ [a1]) ++ l0.drop i:=by
   unfold impl_with.f
   rw [← hi5,if_neg (fun h=>ce h.2)]
  have HF:=qo.mk hf
  clear hx0 ca hi1 hi2 hi3 hi5 ce hf
  go_upto_region 6 with (fail)
  obtain ⟨T,hT⟩ : ∃ T,T = l0.take i:=⟨_,rfl⟩
  obtain ⟨D,hD⟩ : ∃ D,D = l0.drop i:=⟨_,rfl⟩
  have hTl : T.length = i:=by rw [hT,List.length_take];have:=HLE.out;have:=HI.out.2;omega
  have hDl : l0.length - i = D.length:=by rw [hD,List.length_drop]
  obtain ⟨i0,hi0,hz0_,hsz,hz2_⟩:=info_parts info3
  have hj0 : (0 : Int) ≤ (i : Int):=Int.natCast_nonneg i
  have hj1 : (i : Int) ≤ (l0.length : Int):=by have:=HLE.out;have:=HI.out.2;omega
  have hcut1:=cut_to (P:=Try.prog) 26 3 .i64 Try.underlying26 hi0 (some ad) l0.length c0 (i : Int) hj0 hj1 HC.out
  have hcut2:=cut_from (P:=Try.prog) 26 3 .i64 Try.underlying26 hi0 1 hsz (some ad) l0.length c0 (i : Int) hj0 hj1
  obtain ⟨AD,hAD⟩ : ∃ AD,AD = (if c0 = (i : Int).toNat then (some ad) else ((some ad) : Option Addr).map (·.add ((i : Int).toNat * 1))):=⟨_,rfl⟩
  obtain ⟨cD,hcD⟩ : ∃ cD,cD = c0 - (i : Int).toNat:=⟨_,rfl⟩
  rw [← hAD,← hcD,Int.toNat_natCast,hDl] at hcut2
  have hcut1' : ∀ W : World,Sem.run Try.prog (Instr.slice 26 (Value.slice (some ad) l0.length c0) none (some (Value.int IntKind.i64 (i : Int))) none) W = Result.ok (.slice (some ad) T.length c0) W:=by intro W;rw [hcut1 W,Int.toNat_natCast,hTl]
  have HCT : qo ((Kd.int .i64).C w (some ad) T.length T):=⟨by rw [hT];exact Kd.C_take HR.out (by have:=HLE.out;have:=HI.out.2;omega)⟩
  have HCD : qo ((Kd.int .i64).C w AD D.length D):=⟨by have:=Kd.C_drop HR.out (m:=i) (c:=c0) (by have:=HLE.out;have:=HI.out.2;omega) HC.out;rw [hAD,hD,Int.toNat_natCast];exact this⟩
  have HTC : qo (T.length ≤ c0):=⟨by rw [hTl];have:=HC.out;have:=HLE.out;have:=HI.out.2;omega⟩
  have HF2 : qo (impl_with.f l0 a1 = (T ++ [a1]) ++ D):=⟨by rw [hT,hD];exact HF.out⟩
  have HSM : qo (T.length ≤ 1000000 ∧ D.length ≤ 1000000):=⟨by have:=HL.out;omega⟩
  have HCI : qo (impl_copyInts.f T = some T):=⟨by unfold impl_copyInts.f;rw [if_pos (by have:=HSM.out;simp only [List.length_nil];omega)];rfl⟩
  clear hcut1 hj0 hj1 hD hDl hAD hcD hT hi0 hsz hz0_ hz2_ i0
  have HTL:=qo.mk hTl
  clear hTl
  clear HI HF HLE
  refine start_ (n:=12) (S:=fun w'=>True) (ds:=[]) (Array.replicate 12 false) (by kernel_rfl) rfl rfl trivial (fun hHeld=>?_)
  refine pa_ 0 33 (bz_ 12 1) ?_
  refine pa_ 1 34 (bz_ 12 3) ?_
  refine pa_ 2 35 (bz_ 12 7) ?_
  refine pa_ 4 37 (bz_ 12 23) ?_
  refine pa_ 7 40 (bz_ 12 151) ?_
  refine pa_ 8 41 (bz_ 12 407) ?_
  refine pa_ 9 42 (bz_ 12 919) ?_
  refine join_ (σ:=Value × Nat) 3 (bz_ 12 959) (fun s=>[(36,s.1),(38,.slice (some ⟨s.2,0,none⟩) 1 1)]) (fun s w'=>Kd.R (Kd.int .i64) 3 w' w.heap.size (fun _=>True) s.1 T ∧ w'.heap[s.2]? = some (.cells #[.int .i64 a1] 3 (0,0)) ∧ Below w.heap.size w w' ∧ w.heap.size ≤ s.2) ?_ ?_
  rotate_left
  ·intro hCont
   refine two_ (i:=3) (j:=5) (Ni:=some 36) (Nj:=some 38) (bz_ 12 927) (bz_ 12 951) rfl rfl rfl rfl (by kernel_rfl) (by decide) (by decide) (fun K hK=>?_) (fun K hK=>?_)
   ·skip
    refine goes_ Try.func93 (by kernel_rfl) rfl #[.slice (some ad) T.length c0] (by rfl) rfl rfl (by simp only [List.map_toArray,List.map_cons,List.map_nil];rfl) ?_
    with_reducible refine (impl_copyInts.calls _ _ T T _ ?s1 HTC.out HCI.out).mono ?_
    (case s1=>exact (by repeat (first|exact Kd.C_below HCT.out HB.out|(with_reducible refine Kd.C_alloc ?_ _)|(with_reducible refine Kd.C_drewN ?_ _)|(with_reducible refine Kd.C_drew ?_))))
    rintro e w3 ⟨v3,rfl,ho,hb⟩
    refine ⟨_,rfl,?_⟩
    have HB3:=qo.mk (qn (by repeat (first|(with_reducible first|exact HB.out|apply qf|apply qa|apply qd|apply below_drew)|exact HB.out)) hb)
    have HO3:=qo.mk (Kd.R_lower ho (qk (by repeat (first|(with_reducible first|exact HB.out|apply qf|apply qa|apply qd|apply below_drew)|exact HB.out))))
    have HS3:=qo.mk hb
    clear ho hb
    refine hK.out _ _ trivial (fun hHeld=>?_)
    clear hK K
    refine norm_ (a':=?_) ?_ ?_
    rotate_left
    ·show Act.put _ (some 36) _ = _
     simp only [Act.put,List.setIfInBounds_toArray,List.set_cons_zero,List.set_cons_succ,i64_w,i32_w]
     rfl
    refine one_ (i:=5) (N:=some 38) (bz_ 12 959) rfl rfl (by kernel_rfl) (by decide) (fun K hK=>?_)
    refine value_ (w1:=?_) (v:=?_) (by rfl) rfl ?_ ?_
    rotate_left 2
    ·go_simp
     constructor
     ·rfl
     rfl
    refine hK.out _ _ trivial (fun hHeld=>?_)
    clear hK K
    refine norm_ (a':=?_) ?_ ?_
    rotate_left
    ·show Act.put _ (some 38) _ = _
     simp only [Act.put,List.setIfInBounds_toArray,List.set_cons_zero,List.set_cons_succ,i64_w,i32_w]
     rfl
    exact norm_ (by simp only [putAll,Act.put,List.setIfInBounds_toArray,List.set_cons_zero,List.set_cons_succ]) (hCont (v3,w3.heap.size) _ ⟨Kd.R_alloc HO3.out _,heap_alloc_new w3 _,qf HB3.out _,qk HB3.out⟩)
   skip
   refine value_ (w1:=?_) (v:=?_) (by rfl) rfl ?_ ?_
   rotate_left 2
   ·go_simp
    constructor
    ·rfl
    rfl
   refine hK.out _ _ trivial (fun hHeld=>?_)
   clear hK K
   refine norm_ (a':=?_) ?_ ?_
   rotate_left
   ·show Act.put _ (some 38) _ = _
    simp only [Act.put,List.setIfInBounds_toArray,List.set_cons_zero,List.set_cons_succ,i64_w,i32_w]
    rfl
   refine one_ (i:=3) (N:=some 36) (bz_ 12 959) rfl rfl (by kernel_rfl) (by decide) (fun K hK=>?_)
   refine goes_ Try.func93 (by kernel_rfl) rfl #[.slice (some ad) T.length c0] (by rfl) rfl rfl (by simp only [List.map_toArray,List.map_cons,List.map_nil];rfl) ?_
   with_reducible refine (impl_copyInts.calls _ _ T T _ ?s1 HTC.out HCI.out).mono ?_
   (case s1=>exact (by repeat (first|exact Kd.C_below HCT.out HB.out|(with_reducible refine Kd.C_alloc ?_ _)|(with_reducible refine Kd.C_drewN ?_ _)|(with_reducible refine Kd.C_drew ?_))))
   rintro e w3 ⟨v3,rfl,ho,hb⟩
   refine ⟨_,rfl,?_⟩
   have HB3:=qo.mk (qn (by repeat (first|(with_reducible first|exact HB.out|apply qf|apply qa|apply qd|apply below_drew)|exact HB.out)) hb)
   have HO3:=qo.mk (Kd.R_lower ho (qk (by repeat (first|(with_reducible first|exact HB.out|apply qf|apply qa|apply qd|apply below_drew)|exact HB.out))))
   have HS3:=qo.mk hb
   clear ho hb
   refine hK.out _ _ trivial (fun hHeld=>?_)
   clear hK K
   refine norm_ (a':=?_) ?_ ?_
   rotate_left
   ·show Act.put _ (some 36) _ = _
    simp only [Act.put,List.setIfInBounds_toArray,List.set_cons_zero,List.set_cons_succ,i64_w,i32_w]
    rfl
   exact norm_ (by simp only [putAll,Act.put,List.setIfInBounds_toArray,List.set_cons_zero,List.set_cons_succ]) (hCont (v3,wr.heap.size) _ ⟨HO3.out,qm (by first|exact heap_alloc_new _ _|exact (heap_alloc_new (wr.drewN _) _)) HS3.out,HB3.out,qk HB.out⟩)
  clear HB
  rintro ⟨v4,g4⟩ w4 ⟨ho,hg4,hb,hge⟩
  have hHeld : True:=trivial
  have HB:=qo.mk hb
  have HO:=qo.mk ho
  have HG:=qo.mk hg4
  clear hb ho hg4 hge
  refine norm_ (a':=?_) ?_ ?_
  rotate_left
  ·simp only [putAll,Act.put,List.setIfInBounds_toArray,List.set_cons_zero,List.set_cons_succ]
   rfl
  refine one_ (i:=6) (N:=some 39) (bz_ 12 1023) rfl rfl (by kernel_rfl) (by decide) (fun K hK=>?_)
  refine Kd.R_append_rows_step (Kd.int .i64) (Rr:=fun x cs=>cs = [Value.int .i64 x]) (w0:=w) w.heap.size (by rfl) (.tmp 36) (.tmp 38) 26 3 (.int .i64 0) 8 rfl Try.underlying26 info3 rfl (by decide) (by omega) v4 T [a1] (some ⟨g4,0,none⟩) 1 1 (fun _=>True) (fun _=>False) (by rfl) (by rfl) HO.out (one_C HG.out) (fun x cs h=>h) (fun _ hk=>hk.elim) (fun _ _=>trivial) (by repeat (first|(with_reducible first|exact HB.out|apply qf|apply qa|apply qd|apply below_drew)|exact HB.out)) (qk (by repeat (first|(with_reducible first|exact HB.out|apply qf|apply qa|apply qd|apply below_drew)|exact HB.out))) (by have:=HSM.out;omega) ?_
  intro v5 w5 ho hb hg hat
  have HB5:=qo.mk hb
  have HO5:=qo.mk ho
  clear ho hb hg hat HB HO
  have HB:=HB5
  have HO:=HO5
  clear HB5 HO5
  refine hK.out _ _ trivial (fun hHeld=>?_)
  clear hK K
  refine norm_ (a':=?_) ?_ ?_
  rotate_left
  ·show Act.put _ (some 39) _ = _
   simp only [Act.put,List.setIfInBounds_toArray,List.set_cons_zero,List.set_cons_succ,i64_w,i32_w]
   rfl
  refine one_ (i:=10) (N:=some 43) (bz_ 12 2047) rfl rfl (by kernel_rfl) (by decide) (fun K hK=>?_)
  refine Kd.R_append_rows_step (Kd.int .i64) (Rr:=fun x cs=>cs = [Value.int .i64 x]) (w0:=w) w.heap.size (by rfl) (.tmp 39) (.tmp 42) 26 3 (.int .i64 0) 8 rfl Try.underlying26 info3 rfl (by decide) (by omega) v5 (T ++ [a1]) D AD D.length cD (fun _=>True) (fun _=>False) (by rfl) (by rfl) HO.out (Kd.C_below HCD.out HB.out) (fun x cs h=>h) (fun _ hk=>hk.elim) (fun _ _=>trivial) (by repeat (first|(with_reducible first|exact HB.out|apply qf|apply qa|apply qd|apply below_drew)|exact HB.out)) (qk (by repeat (first|(with_reducible first|exact HB.out|apply qf|apply qa|apply qd|apply below_drew)|exact HB.out))) (by have:=HSM.out;simp only [List.length_append,List.length_singleton];omega) ?_
  intro v6 w6 ho hb hg hat
  have HB6:=qo.mk hb
  have HO6:=qo.mk ho
  clear ho hb hg hat HB HO
  have HB:=HB6
  have HO:=HO6
  clear HB6 HO6
  refine hK.out _ _ trivial (fun hHeld=>?_)
  clear hK K
  refine norm_ (a':=?_) ?_ ?_
  rotate_left
  ·show Act.put _ (some 43) _ = _
   simp only [Act.put,List.setIfInBounds_toArray,List.set_cons_zero,List.set_cons_succ,i64_w,i32_w]
   rfl
  refine pa_ 11 4 (bz_ 12 4095) ?_
  refine done_ (by kernel_rfl) ?_
  go_wp2
  go_ret
  exact ⟨_,rfl,.inr (by rw [HF2.out];exact HO.out),HB.out⟩
 have c0b : decide ((i : Int) < (l0.length : Int)) = false:=decide_eq_false (by omega)
 have hf : impl_with.f l0 a1 = (l0.take i ++ [a1]) ++ l0.drop i:=by
  unfold impl_with.f
  rw [← hi5,if_neg (fun h=>cb h.1)]
 have HF:=qo.mk hf
 clear ca hi1 hi2 hi3 hi5 hf
 go_upto_region 6 with (fail)
 obtain ⟨T,hT⟩ : ∃ T,T = l0.take i:=⟨_,rfl⟩
 obtain ⟨D,hD⟩ : ∃ D,D = l0.drop i:=⟨_,rfl⟩
 have hTl : T.length = i:=by rw [hT,List.length_take];have:=HLE.out;have:=HI.out.2;omega
 have hDl : l0.length - i = D.length:=by rw [hD,List.length_drop]
 obtain ⟨i0,hi0,hz0_,hsz,hz2_⟩:=info_parts info3
 have hj0 : (0 : Int) ≤ (i : Int):=Int.natCast_nonneg i
 have hj1 : (i : Int) ≤ (l0.length : Int):=by have:=HLE.out;have:=HI.out.2;omega
 have hcut1:=cut_to (P:=Try.prog) 26 3 .i64 Try.underlying26 hi0 A0 l0.length c0 (i : Int) hj0 hj1 HC.out
 have hcut2:=cut_from (P:=Try.prog) 26 3 .i64 Try.underlying26 hi0 1 hsz A0 l0.length c0 (i : Int) hj0 hj1
 obtain ⟨AD,hAD⟩ : ∃ AD,AD = (if c0 = (i : Int).toNat then A0 else (A0 : Option Addr).map (·.add ((i : Int).toNat * 1))):=⟨_,rfl⟩
 obtain ⟨cD,hcD⟩ : ∃ cD,cD = c0 - (i : Int).toNat:=⟨_,rfl⟩
 rw [← hAD,← hcD,Int.toNat_natCast,hDl] at hcut2
 have hcut1' : ∀ W : World,Sem.run Try.prog (Instr.slice 26 (Value.slice A0 l0.length c0) none (some (Value.int IntKind.i64 (i : Int))) none) W = Result.ok (.slice A0 T.length c0) W:=by intro W;rw [hcut1 W,Int.toNat_natCast,hTl]
 have HCT : qo ((Kd.int .i64).C w A0 T.length T):=⟨by rw [hT];exact Kd.C_take HR.out (by have:=HLE.out;have:=HI.out.2;omega)⟩
 have HCD : qo ((Kd.int .i64).C w AD D.length D):=⟨by have:=Kd.C_drop HR.out (m:=i) (c:=c0) (by have:=HLE.out;have:=HI.out.2;omega) HC.out;rw [hAD,hD,Int.toNat_natCast];exact this⟩
 have HTC : qo (T.length ≤ c0):=⟨by rw [hTl];have:=HC.out;have:=HLE.out;have:=HI.out.2;omega⟩
 have HF2 : qo (impl_with.f l0 a1 = (T ++ [a1]) ++ D):=⟨by rw [hT,hD];exact HF.out⟩
 have HSM : qo (T.length ≤ 1000000 ∧ D.length ≤ 1000000):=⟨by have:=HL.out;omega⟩
 have HCI : qo (impl_copyInts.f T = some T):=⟨by unfold impl_copyInts.f;rw [if_pos (by have:=HSM.out;simp only [List.length_nil];omega)];rfl⟩
 clear hcut1 hj0 hj1 hD hDl hAD hcD hT hi0 hsz hz0_ hz2_ i0
 have HTL:=qo.mk hTl
 clear hTl
 clear HI HF HLE
 refine start_ (n:=12) (S:=fun w'=>True) (ds:=[]) (Array.replicate 12 false) (by kernel_rfl) rfl rfl trivial (fun hHeld=>?_)
 refine pa_ 0 33 (bz_ 12 1) ?_
 refine pa_ 1 34 (bz_ 12 3) ?_
 refine pa_ 2 35 (bz_ 12 7) ?_
 refine pa_ 4 37 (bz_ 12 23) ?_
 refine pa_ 7 40 (bz_ 12 151) ?_
 refine pa_ 8 41 (bz_ 12 407) ?_
 refine pa_ 9 42 (bz_ 12 919) ?_
 refine join_ (σ:=Value × Nat) 3 (bz_ 12 959) (fun s=>[(36,s.1),(38,.slice (some ⟨s.2,0,none⟩) 1 1)]) (fun s w'=>Kd.R (Kd.int .i64) 3 w' w.heap.size (fun _=>True) s.1 T ∧ w'.heap[s.2]? = some (.cells #[.int .i64 a1] 3 (0,0)) ∧ Below w.heap.size w w' ∧ w.heap.size ≤ s.2) ?_ ?_
 rotate_left
 ·intro hCont
  refine two_ (i:=3) (j:=5) (Ni:=some 36) (Nj:=some 38) (bz_ 12 927) (bz_ 12 951) rfl rfl rfl rfl (by kernel_rfl) (by decide) (by decide) (fun K hK=>?_) (fun K hK=>?_)
  ·skip
   refine goes_ Try.func93 (by kernel_rfl) rfl #[.slice A0 T.length c0] (by rfl) rfl rfl (by simp only [List.map_toArray,List.map_cons,List.map_nil];rfl) ?_
   with_reducible refine (impl_copyInts.calls _ _ T T _ ?s1 HTC.out HCI.out).mono ?_
   (case s1=>exact (by repeat (first|exact Kd.C_below HCT.out HB.out|(with_reducible refine Kd.C_alloc ?_ _)|(with_reducible refine Kd.C_drewN ?_ _)|(with_reducible refine Kd.C_drew ?_))))
   rintro e w3 ⟨v3,rfl,ho,hb⟩
   refine ⟨_,rfl,?_⟩
   have HB3:=qo.mk (qn (by repeat (first|(with_reducible first|exact HB.out|apply qf|apply qa|apply qd|apply below_drew)|exact HB.out)) hb)
   have HO3:=qo.mk (Kd.R_lower ho (qk (by repeat (first|(with_reducible first|exact HB.out|apply qf|apply qa|apply qd|apply below_drew)|exact HB.out))))
   have HS3:=qo.mk hb
   clear ho hb
   refine hK.out _ _ trivial (fun hHeld=>?_)
   clear hK K
   refine norm_ (a':=?_) ?_ ?_
   rotate_left
   ·show Act.put _ (some 36) _ = _
    simp only [Act.put,List.setIfInBounds_toArray,List.set_cons_zero,List.set_cons_succ,i64_w,i32_w]
    rfl
   refine one_ (i:=5) (N:=some 38) (bz_ 12 959) rfl rfl (by kernel_rfl) (by decide) (fun K hK=>?_)
   refine value_ (w1:=?_) (v:=?_) (by rfl) rfl ?_ ?_
   rotate_left 2
   ·go_simp
    constructor
    ·rfl
    rfl
   refine hK.out _ _ trivial (fun hHeld=>?_)
   clear hK K
   refine norm_ (a':=?_) ?_ ?_
   rotate_left
   ·show Act.put _ (some 38) _ = _
    simp only [Act.put,List.setIfInBounds_toArray,List.set_cons_zero,List.set_cons_succ,i64_w,i32_w]
    rfl
   exact norm_ (by simp only [putAll,Act.put,List.setIfInBounds_toArray,List.set_cons_zero,List.set_cons_succ]) (hCont (v3,w3.heap.size) _ ⟨Kd.R_alloc HO3.out _,heap_alloc_new w3 _,qf HB3.out _,qk HB3.out⟩)
  skip
  refine value_ (w1:=?_) (v:=?_) (by rfl) rfl ?_ ?_
  rotate_left 2
  ·go_simp
   constructor
   ·rfl
   rfl
  refine hK.out _ _ trivial (fun hHeld=>?_)
  clear hK K
  refine norm_ (a':=?_) ?_ ?_
  rotate_left
  ·show Act.put _ (some 38) _ = _
   simp only [Act.put,List.setIfInBounds_toArray,List.set_cons_zero,List.set_cons_succ,i64_w,i32_w]
   rfl
  refine one_ (i:=3) (N:=some 36) (bz_ 12 959) rfl rfl (by kernel_rfl) (by decide) (fun K hK=>?_)
  refine goes_ Try.func93 (by kernel_rfl) rfl #[.slice A0 T.length c0] (by rfl) rfl rfl (by simp only [List.map_toArray,List.map_cons,List.map_nil];rfl) ?_
  with_reducible refine (impl_copyInts.calls _ _ T T _ ?s1 HTC.out HCI.out).mono ?_
  (case s1=>exact (by repeat (first|exact Kd.C_below HCT.out HB.out|(with_reducible refine Kd.C_alloc ?_ _)|(with_reducible refine Kd.C_drewN ?_ _)|(with_reducible refine Kd.C_drew ?_))))
  rintro e w3 ⟨v3,rfl,ho,hb⟩
  refine ⟨_,rfl,?_⟩
  have HB3:=qo.mk (qn (by repeat (first|(with_reducible first|exact HB.out|apply qf|apply qa|apply qd|apply below_drew)|exact HB.out)) hb)
  have HO3:=qo.mk (Kd.R_lower ho (qk (by repeat (first|(with_reducible first|exact HB.out|apply qf|apply qa|apply qd|apply below_drew)|exact HB.out))))
  have HS3:=qo.mk hb
  clear ho hb
  refine hK.out _ _ trivial (fun hHeld=>?_)
  clear hK K
  refine norm_ (a':=?_) ?_ ?_
  rotate_left
  ·show Act.put _ (some 36) _ = _
   simp only [Act.put,List.setIfInBounds_toArray,List.set_cons_zero,List.set_cons_succ,i64_w,i32_w]
   rfl
  exact norm_ (by simp only [putAll,Act.put,List.setIfInBounds_toArray,List.set_cons_zero,List.set_cons_succ]) (hCont (v3,wr.heap.size) _ ⟨HO3.out,qm (by first|exact heap_alloc_new _ _|exact (heap_alloc_new (wr.drewN _) _)) HS3.out,HB3.out,qk HB.out⟩)
 clear HB
 rintro ⟨v4,g4⟩ w4 ⟨ho,hg4,hb,hge⟩
 have hHeld : True:=trivial
 have HB:=qo.mk hb
 have HO:=qo.mk ho
 have HG:=qo.mk hg4
 clear hb ho hg4 hge
 refine norm_ (a':=?_) ?_ ?_
 rotate_left
 ·simp only [putAll,Act.put,List.setIfInBounds_toArray,List.set_cons_zero,List.set_cons_succ]
  rfl
 refine one_ (i:=6) (N:=some 39) (bz_ 12 1023) rfl rfl (by kernel_rfl) (by decide) (fun K hK=>?_)
 refine Kd.R_append_rows_step (Kd.int .i64) (Rr:=fun x cs=>cs = [Value.int .i64 x]) (w0:=w) w.heap.size (by rfl) (.tmp 36) (.tmp 38) 26 3 (.int .i64 0) 8 rfl Try.underlying26 info3 rfl (by decide) (by omega) v4 T [a1] (some ⟨g4,0,none⟩) 1 1 (fun _=>True) (fun _=>False) (by rfl) (by rfl) HO.out (one_C HG.out) (fun x cs h=>h) (fun _ hk=>hk.elim) (fun _ _=>trivial) (by repeat (first|(with_reducible first|exact HB.out|apply qf|apply qa|apply qd|apply below_drew)|exact HB.out)) (qk (by repeat (first|(with_reducible first|exact HB.out|apply qf|apply qa|apply qd|apply below_drew)|exact HB.out))) (by have:=HSM.out;omega) ?_
 intro v5 w5 ho hb hg hat
 have HB5:=qo.mk hb
 have HO5:=qo.mk ho
 clear ho hb hg hat HB HO
 have HB:=HB5
 have HO:=HO5
 clear HB5 HO5
 refine hK.out _ _ trivial (fun hHeld=>?_)
 clear hK K
 refine norm_ (a':=?_) ?_ ?_
 rotate_left
 ·show Act.put _ (some 39) _ = _
  simp only [Act.put,List.setIfInBounds_toArray,List.set_cons_zero,List.set_cons_succ,i64_w,i32_w]
  rfl
 refine one_ (i:=10) (N:=some 43) (bz_ 12 2047) rfl rfl (by kernel_rfl) (by decide) (fun K hK=>?_)
 refine Kd.R_append_rows_step (Kd.int .i64) (Rr:=fun x cs=>cs = [Value.int .i64 x]) (w0:=w) w.heap.size (by rfl) (.tmp 39) (.tmp 42) 26 3 (.int .i64 0) 8 rfl Try.underlying26 info3 rfl (by decide) (by omega) v5 (T ++ [a1]) D AD D.length cD (fun _=>True) (fun _=>False) (by rfl) (by rfl) HO.out (Kd.C_below HCD.out HB.out) (fun x cs h=>h) (fun _ hk=>hk.elim) (fun _ _=>trivial) (by repeat (first|(with_reducible first|exact HB.out|apply qf|apply qa|apply qd|apply below_drew)|exact HB.out)) (qk (by repeat (first|(with_reducible first|exact HB.out|apply qf|apply qa|apply qd|apply below_drew)|exact HB.out))) (by have:=HSM.out;simp only [List.length_append,List.length_singleton];omega) ?_
 intro v6 w6 ho hb hg hat
 have HB6:=qo.mk hb
 have HO6:=qo.mk ho
 clear ho hb hg hat HB HO
 have HB:=HB6
 have HO:=HO6
 clear HB6 HO6
 refine hK.out _ _ trivial (fun hHeld=>?_)
 clear hK K
 refine norm_ (a':=?_) ?_ ?_
 rotate_left
 ·show Act.put _ (some 43) _ = _
  simp only [Act.put,List.setIfInBounds_toArray,List.set_cons_zero,List.set_cons_succ,i64_w,i32_w]
  rfl
 refine pa_ 11 4 (bz_ 12 4095) ?_
 refine done_ (by kernel_rfl) ?_
 go_wp2
 go_ret
 exact ⟨_,rfl,.inr (by rw [HF2.out];exact HO.out),HB.out⟩
end Go.Proofs.Ytcnoccefdejphaa.QFnTrees
