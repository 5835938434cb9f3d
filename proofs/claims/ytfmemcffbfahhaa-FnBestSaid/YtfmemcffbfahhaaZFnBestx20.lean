/- How every pairing is gone through (impl.every), with the closure that counts or keeps the best: by contracts; the world changes in the captured variable's block alone. -/
import Derived.Test.YtfmemcffbfahhaaZFnBestx5
import Derived.Test.YtfmemcffbfahhaaZFnBestx12
import Derived.RegionTactic
import Derived.BigRegion
import Derived.RegionCalls
import Derived.ChangeAlike
import Derived.OneCell
import Derived.OwnWalk
import Derived.Outline
namespace Go.Proofs.Ytfmemcffbfahhaa.QFnBest
open Go.RowKit Go.Proofs.YtfmemcffbfahhaaW.PrintWords Go.Proofs.YtfmemcffbfahhaaW.PrintLast Go.Proofs.YtfmemcffbfahhaaW.PrintMore
set_option linter.unusedVariables false
set_option linter.unusedSimpArgs false

/-- The mask of an edge's two ends. -/
def bothM (e : S36) : Int:=Go.bits .or .i64 (wrap64 (2 ^ min e.f0.toNat 64)) (wrap64 (2 ^ min e.f1.toNat 64))
def plus3 (s : Int × Int × Int) (e : S36) : Int × Int × Int:=(wrap64 (s.1 + e.f2),wrap64 (s.2.1 + e.f3),wrap64 (s.2.2 + e.f4))
/-- What is told of all pairings that go on from here. -/
def evG {α : Type} (step : Int × Int × Int → α → α) : List S36 → Int → Int × Int × Int → α → α
 | [],_,s,x=>step s x
 | e :: E,m,s,x=>if Go.bits .and .i64 m (bothM e) = 0 then evG step E (Go.bits .or .i64 m (bothM e)) (plus3 s e) (evG step E m s x) else evG step E m s x

theorem new_ (w : World) (o : Obj) : (w.alloc o).heap[w.heap.size]? = some o:=heap_alloc_new w o
theorem new2_ (w : World) (o o' : Obj) : ((w.alloc o).alloc o').heap[w.heap.size + 1]? = some o':=by
 have:=new_ (w.alloc o) o'
 rwa [show (w.alloc o).heap.size = w.heap.size + 1 from by simp] at this
theorem grown_set (w : World) (p i : Nat) (u : Value) : w.grownBy (w.setCell ⟨p,i,none⟩ u) (some p) :=
 ⟨rfl,rfl,rfl,by simp [World.setCell],fun k hk hne=>Below.heap_setCell w ⟨p,i,none⟩ u k (fun e=>hne (by rw [e]))⟩
theorem clo_count (p : Nat) (s0 s1 s2 size x : Int) (w : World) (h : w.heap[p]? = some (.cells #[.int .i64 x] 3 (0,0))) :
  Calls Try.prog 86 #[.agg #[.int .i64 s0,.int .i64 s1,.int .i64 s2],.int .i64 size,.pointer (some ⟨p,0,none⟩)] w fun e w'=>e = .returned (.tuple #[]) ∧ w'.heap[p]? = some (.cells #[.int .i64 (wrap64 (x + 1))] 3 (0,0)) ∧ w.grownBy w' (some p):=by
 have hlt : p < w.heap.size:=by rcases Nat.lt_or_ge p w.heap.size with h'|h';exact h';rw [Array.getElem?_eq_none h'] at h;cases h
 obtain ⟨w1,hw1⟩ : ∃ w1,w1 = w.alloc (.cells #[.int .i64 s0,.int .i64 s1,.int .i64 s2] 72):=⟨_,rfl⟩
 have h1 : w1.heap[p]? = some (.cells #[.int .i64 x] 3 (0,0)):=by rw [hw1,Below.heap_alloc _ _ _ hlt];exact h
 have hc:=qh h1 0
 have hf:=qi h1 0
 have hc' : (w.alloc (.cells #[.int .i64 s0,.int .i64 s1,.int .i64 s2] 72)).cell? ⟨p,0,none⟩ = some (.int .i64 x):=by rw [← hw1];exact hc.trans rfl
 have hf' : (w.alloc (.cells #[.int .i64 s0,.int .i64 s1,.int .i64 s2] 72)).frozen? ⟨p,0,none⟩ = false:=by rw [← hw1];exact hf
 have HW:=qn.mk hw1
 have H1:=qn.mk h1
 clear hw1 h1 hc hf
 have HH:=qn.mk h
 clear h
 go_enter Try.func86,Try.ntmps86
 go_wp2
 go_end0
 refine ⟨rfl,qc (blk_put HH.out 0 _ rfl) _,(grown_set w p 0 _).trans (World.grownBy_alloc _ _ _)⟩

set_option maxHeartbeats 4000000 in
set_option maxRecDepth 100000 in
theorem every_count (n : Int) (A : Option Addr) (c : Nat) (L : List S36) (w0 : World) (hr : Kd.C k36 w0 A L.length L) (hc : L.length ≤ c) (hL : L.length ≤ 2000000) (hv : ∀ e ∈ L,0 ≤ e.f0 ∧ 0 ≤ e.f1) (p : Nat) (hp : w0.heap.size ≤ p) : ∀ (d i : Nat) (m : Int) (s : Int × Int × Int) (size x : Int) (w : World),i + d = L.length → Below w0.heap.size w0 w → w.heap[p]? = some (.cells #[.int .i64 x] 3 (0,0)) →
  Calls Try.prog 85 #[.agg #[.int .i64 n,.slice A L.length c],.int .i64 (i : Int),.int .i64 m,.agg #[.int .i64 s.1,.int .i64 s.2.1,.int .i64 s.2.2],.int .i64 size,.func (.func 86) #[] #[.pointer (some ⟨p,0,none⟩)]] w fun e w'=>e = .returned (.tuple #[]) ∧ w'.heap[p]? = some (.cells #[.int .i64 (evG (fun _ x=>wrap64 (x + 1)) (L.drop i) m s x)] 3 (0,0)) ∧ w.grownBy w' (some p) ∧ Below w0.heap.size w0 w'
 | 0,i,m,s,size,x,w,hi,hB,hP=>by
  have HR:=qn.mk hr
  have HI:=qn.mk hi
  have HV:=qn.mk hv
  have HB:=qn.mk hB
  have HP:=qn.mk hP
  have hlen : ((i : Int) == (L.length : Int)) = true:=by simp;omega
  clear hr hi hv hB hP
  obtain ⟨s0,s1,s2⟩:=s
  go_enter Try.func85,Try.ntmps85
  go_upto_region 0 with (fail)
  go_cut [6,9] (fun v6 v9 wc=>∃ g6 g9 : Nat,v6 = .pointer (some ⟨g6,0,none⟩) ∧ v9 = .pointer (some ⟨g9,0,none⟩) ∧ qn (wc.heap[g6]? = some (.cells #[.int .i64 n,.slice A L.length c] 26 (0,0))) ∧ qn (wc.heap[g9]? = some (.cells #[.int .i64 s0,.int .i64 s1,.int .i64 s2] 72 (0,0))) ∧ qn (wc.heap[p]? = some (.cells #[.int .i64 x] 3 (0,0))) ∧ qn (Below w0.heap.size w0 wc) ∧ qn (Below w.heap.size w wc) ∧ qn (g6 ≠ p) ∧ qn (g9 ≠ p))
  case first =>
   go_wp2
   go_meet
   case rel=>exact ⟨w.heap.size,w.heap.size + 1,rfl,by first|rfl|simp,⟨qc (new_ w _) _⟩,⟨new2_ w _ _⟩,⟨qc (qc HP.out _) _⟩,⟨by repeat (first|(with_reducible first|exact HB.out|apply qf)|exact HB.out)⟩,⟨qf (qf (Below.refl _ _) _) _⟩,⟨by have:=blk_lt HP.out;omega⟩,⟨by have:=blk_lt HP.out;omega⟩⟩
  case rest =>
   obtain ⟨g6,g9,rfl,rfl,B6,B9,BP,HB0,HBW,N6,N9⟩:=hcut
   have c60 : wc.cell? ⟨g6,0,none⟩ = some (.int .i64 n):=(qh B6.out 0).trans rfl
   have c61 : wc.cell? ⟨g6,1,none⟩ = some (.slice A L.length c):=(qh B6.out 1).trans rfl
   have c90 : wc.cell? ⟨g9,0,none⟩ = some (.int .i64 s0):=(qh B9.out 0).trans rfl
   have c91 : wc.cell? ⟨g9,1,none⟩ = some (.int .i64 s1):=(qh B9.out 1).trans rfl
   have c92 : wc.cell? ⟨g9,2,none⟩ = some (.int .i64 s2):=(qh B9.out 2).trans rfl
   go_wp2_with (first|(go_at_call 86;(with_reducible refine (clo_count p s0 s1 s2 size x _ ?h).mono ?_);(case h=>exact BP.out);rintro e w2 ⟨rfl,hq,hg⟩;have HQ:=qn.mk hq;have HG:=qn.mk hg;clear hq hg))
   refine bodyPost_ret (v:=.tuple #[]) (by simp [results,Try.results85,go_sem]) rfl ⟨rfl,?_,(grown_of_below HBW.out _).trans HG.out,HB0.out.grown HG.out HB0.out.size (fun k hk=>by injection hk with hk;omega)⟩
   rw [List.drop_of_length_le (by have:=HI.out;omega)]
   exact HQ.out
 | d + 1,i,m,s,size,x,w,hi,hB,hP=>by
  have ih : ∀ (m s0 s1 s2 size x : Int) (w : World),Below w0.heap.size w0 w → w.heap[p]? = some (.cells #[.int .i64 x] 3 (0,0)) →
    Calls Try.prog 85 #[.agg #[.int .i64 n,.slice A L.length c],.int .i64 ((i : Int) + 1),.int .i64 m,.agg #[.int .i64 s0,.int .i64 s1,.int .i64 s2],.int .i64 size,.func (.func 86) #[] #[.pointer (some ⟨p,0,none⟩)]] w fun e w'=>e = .returned (.tuple #[]) ∧ w'.heap[p]? = some (.cells #[.int .i64 (evG (fun _ x=>wrap64 (x + 1)) (L.drop (i + 1)) m (s0,s1,s2) x)] 3 (0,0)) ∧ w.grownBy w' (some p) ∧ Below w0.heap.size w0 w' :=
   fun m s0 s1 s2 size x w=>every_count n A c L w0 hr hc hL hv p hp d (i + 1) m (s0,s1,s2) size x w (by omega)
  have hlt : i < L.length:=by omega
  have HIH:=qn.mk ih
  have HR:=qn.mk hr
  have HI:=qn.mk hi
  have HV:=qn.mk (hv _ (List.getElem_mem hlt))
  have HB:=qn.mk hB
  have HP:=qn.mk hP
  have HLT:=qn.mk hlt
  have hlen : ((i : Int) == (L.length : Int)) = false:=beq_eq_false_iff_ne.mpr (by omega)
  clear hr hi hv hB hP ih
  obtain ⟨s0,s1,s2⟩:=s
  go_enter Try.func85,Try.ntmps85
  go_upto_region 0 with (fail)
  go_cut [6,9] (fun v6 v9 wc=>∃ g6 g9 : Nat,v6 = .pointer (some ⟨g6,0,none⟩) ∧ v9 = .pointer (some ⟨g9,0,none⟩) ∧ qn (wc.heap[g6]? = some (.cells #[.int .i64 n,.slice A L.length c] 26 (0,0))) ∧ qn (wc.heap[g9]? = some (.cells #[.int .i64 s0,.int .i64 s1,.int .i64 s2] 72 (0,0))) ∧ qn (wc.heap[p]? = some (.cells #[.int .i64 x] 3 (0,0))) ∧ qn (Below w0.heap.size w0 wc) ∧ qn (Below w.heap.size w wc) ∧ qn (g6 ≠ p) ∧ qn (g9 ≠ p))
  case first =>
   go_wp2
   go_meet
   case rel=>exact ⟨w.heap.size,w.heap.size + 1,rfl,by first|rfl|simp,⟨qc (new_ w _) _⟩,⟨new2_ w _ _⟩,⟨qc (qc HP.out _) _⟩,⟨by repeat (first|(with_reducible first|exact HB.out|apply qf)|exact HB.out)⟩,⟨qf (qf (Below.refl _ _) _) _⟩,⟨by have:=blk_lt HP.out;omega⟩,⟨by have:=blk_lt HP.out;omega⟩⟩
  case rest =>
   obtain ⟨g6,g9,rfl,rfl,B6,B9,BP,HB0,HBW,N6,N9⟩:=hcut
   have c60 : wc.cell? ⟨g6,0,none⟩ = some (.int .i64 n):=(qh B6.out 0).trans rfl
   have c61 : wc.cell? ⟨g6,1,none⟩ = some (.slice A L.length c):=(qh B6.out 1).trans rfl
   have c90 : wc.cell? ⟨g9,0,none⟩ = some (.int .i64 s0):=(qh B9.out 0).trans rfl
   have c91 : wc.cell? ⟨g9,1,none⟩ = some (.int .i64 s1):=(qh B9.out 1).trans rfl
   have c92 : wc.cell? ⟨g9,2,none⟩ = some (.int .i64 s2):=(qh B9.out 2).trans rfl
   have hi1 : (i : Int) + 1 ≤ 2000000:=by omega
   go_upto_region 4 with (first|(go_at_call 85;(with_reducible refine (HIH.out m s0 s1 s2 size x _ ?h1 ?h2).mono ?_);(case h1=>exact HB0.out);(case h2=>exact BP.out);rintro e w2 ⟨rfl,hq,hg,hb⟩;have HQ:=qn.mk hq;have HG:=qn.mk hg;have HB2:=qn.mk hb;clear hq hg hb))
   have B62:=qn.mk (blk_grown B6.out HG.out (fun h=>N6.out (Option.some.inj h)))
   have B92:=qn.mk (blk_grown B9.out HG.out (fun h=>N9.out (Option.some.inj h)))
   have HG2:=qn.mk ((grown_of_below HBW.out (some p)).trans HG.out)
   clear B6 B9 HG BP HBW HB0 c60 c61 c90 c91 c92
   have c61 : w2.cell? ⟨g6,1,none⟩ = some (.slice A L.length c):=(qh B62.out 1).trans rfl
   obtain ⟨ad,eA,x0,x1,x2,x3,x4⟩:=at_T36 HR.out (i : Int) (Int.natCast_nonneg i) (by have:=HLT.out;omega)
   subst eA
   have hrd : rd_T36 L (i : Int) = L[i]'HLT.out:=by
    unfold rd_T36
    rw [Int.toNat_natCast,List.getD_eq_getElem?_getD,List.getElem?_eq_getElem HLT.out];rfl
   rw [hrd] at x0 x1 x2 x3 x4
   rw [Int.toNat_natCast] at x0 x1 x2 x3 x4
   obtain ⟨f,hf⟩ : ∃ f,f = L[i]'HLT.out:=⟨_,rfl⟩
   rw [← hf] at x0 x1 x2 x3 x4 HV
   have HF:=qn.mk hf
   clear hf hrd
   replace x0:=(HB2.out.cell (World.block_lt_of_cell? _ _ x0)).trans x0
   replace x1:=(HB2.out.cell (World.block_lt_of_cell? _ _ x1)).trans x1
   replace x2:=(HB2.out.cell (World.block_lt_of_cell? _ _ x2)).trans x2
   replace x3:=(HB2.out.cell (World.block_lt_of_cell? _ _ x3)).trans x3
   replace x4:=(HB2.out.cell (World.block_lt_of_cell? _ _ x4)).trans x4
   have hi0 : 0 ≤ (i : Int):=Int.natCast_nonneg i
   have hil : (i : Int) < (L.length : Int):=by have:=HLT.out;omega
   go_cut [12] (fun v12 wd=>∃ g12 : Nat,v12 = .pointer (some ⟨g12,0,none⟩) ∧ qn (wd.heap[g12]? = some (.cells #[.int .i64 f.f0,.int .i64 f.f1,.int .i64 f.f2,.int .i64 f.f3,.int .i64 f.f4] 36 (0,0))) ∧ qn (Below w2.heap.size w2 wd) ∧ qn (g12 ≠ p))
   case first =>
    go_wp2
    go_meet
    case rel=>exact ⟨w2.heap.size,rfl,⟨new_ w2 _⟩,⟨qf (Below.refl _ _) _⟩,⟨by have:=blk_lt HQ.out;omega⟩⟩
   case rest =>
    obtain ⟨g12,rfl,B12,HBd,N12⟩:=hcut
    have B6d:=qn.mk (ql B62.out HBd.out)
    have B9d:=qn.mk (ql B92.out HBd.out)
    have BPd:=qn.mk (ql HQ.out HBd.out)
    have HB0d:=qn.mk (qm HB2.out HBd.out)
    have HGd:=qn.mk (HG2.out.trans (grown_of_below HBd.out (some p)))
    clear c61 x0 x1 x2 x3 x4 B62 B92 HQ HB2 HG2
    have v0 : 0 ≤ f.f0:=HV.out.1
    have v1 : 0 ≤ f.f1:=HV.out.2
    have ce0 : wc.cell? ⟨g12,0,none⟩ = some (.int .i64 f.f0):=(qh B12.out 0).trans rfl
    have ce1 : wc.cell? ⟨g12,1,none⟩ = some (.int .i64 f.f1):=(qh B12.out 1).trans rfl
    have ce2 : wc.cell? ⟨g12,2,none⟩ = some (.int .i64 f.f2):=(qh B12.out 2).trans rfl
    have ce3 : wc.cell? ⟨g12,3,none⟩ = some (.int .i64 f.f3):=(qh B12.out 3).trans rfl
    have ce4 : wc.cell? ⟨g12,4,none⟩ = some (.int .i64 f.f4):=(qh B12.out 4).trans rfl
    go_upto_region 5 with (fail)
    go_quiet (fail)
    go_upto_region 6 with (fail)
    obtain ⟨mb,hmb⟩ : ∃ mb,bothM f = mb:=⟨_,rfl⟩
    have hmb' : Go.bits .or .i64 (wrap64 (2 ^ min f.f0.toNat 64)) (wrap64 (2 ^ min f.f1.toNat 64)) = mb:=hmb
    rw [hmb']
    have HMB:=qn.mk hmb
    clear hmb hmb'
    have c60 : wc.cell? ⟨g6,0,none⟩ = some (.int .i64 n):=(qh B6d.out 0).trans rfl
    have c61 : wc.cell? ⟨g6,1,none⟩ = some (.slice (some ad) L.length c):=(qh B6d.out 1).trans rfl
    have c90 : wc.cell? ⟨g9,0,none⟩ = some (.int .i64 s0):=(qh B9d.out 0).trans rfl
    have c91 : wc.cell? ⟨g9,1,none⟩ = some (.int .i64 s1):=(qh B9d.out 1).trans rfl
    have c92 : wc.cell? ⟨g9,2,none⟩ = some (.int .i64 s2):=(qh B9d.out 2).trans rfl
    by_cases cm : Go.bits .and .i64 m mb = 0
    ·have cmb : (Go.bits .and .i64 m mb == 0) = true:=beq_iff_eq.mpr cm
     have CM:=qn.mk cm
     clear cm
     go_upto_region 7 with (fail)
     have hwi : IntKind.i64.wrap ((i : Int) + 1) = (i : Int) + 1:=by rw [i64_w];unfold wrap64;omega
     go_region_with (first
      | (go_at_call 91;(with_reducible refine (impl_Sums_plus.calls s0 s1 s2 f.f0 f.f1 f.f2 f.f3 f.f4 (wrap64 (s0 + f.f2)) (wrap64 (s1 + f.f3)) (wrap64 (s2 + f.f4)) _ rfl).mono ?_);rintro e w3 ⟨rfl,hb3⟩;have HB3:=qn.mk hb3;have c60' : w3.cell? ⟨g6,0,none⟩ = some (.int .i64 n):=(qh (ql B6d.out (qm (by repeat (first|apply qa|exact Below.refl _ _)) hb3)) 0).trans rfl;have c61' : w3.cell? ⟨g6,1,none⟩ = some (.slice (some ad) L.length c):=(qh (ql B6d.out (qm (by repeat (first|apply qa|exact Below.refl _ _)) hb3)) 1).trans rfl;clear hb3)
      | (go_at_call 85;(with_reducible refine (HIH.out (Go.bits .or .i64 m mb) (wrap64 (s0 + f.f2)) (wrap64 (s1 + f.f3)) (wrap64 (s2 + f.f4)) (IntKind.i64.wrap (size + 1)) (evG (fun _ x=>wrap64 (x + 1)) (L.drop (i + 1)) m (s0,s1,s2) x) _ ?h1 ?h2).mono ?_);(case h1=>exact qm (by repeat (first|(with_reducible first|exact HB0d.out|apply qa)|exact HB0d.out)) HB3.out);(case h2=>exact ql (by repeat (first|(with_reducible first|exact BPd.out|refine qb ?_ _)|exact BPd.out)) HB3.out);rintro e w4 ⟨rfl,hq,hg,hb⟩;have HQ4:=qn.mk hq;have HG4:=qn.mk hg;have HB4:=qn.mk hb;clear hq hg hb))
     all_goals (try go_wp2)
     all_goals go_end0
     all_goals (refine ⟨rfl,?_,HGd.out.trans ((grown_of_below (qm (by repeat (first|apply qa|exact Below.refl _ _)) HB3.out) _).trans HG4.out),HB4.out⟩;rw [List.drop_eq_getElem_cons HLT.out,← HF.out,evG,HMB.out,if_pos CM.out];exact HQ4.out)
    ·have cmb : (Go.bits .and .i64 m mb == 0) = false:=beq_eq_false_iff_ne.mpr cm
     have CM:=qn.mk cm
     clear cm
     go_wp2_with (fail)
     go_end0
     refine ⟨rfl,?_,HGd.out.trans (grown_of_below (by repeat (first|apply qa|exact Below.refl _ _)) _),by repeat (first|(with_reducible first|exact HB0d.out|apply qa)|exact HB0d.out)⟩
     rw [List.drop_eq_getElem_cons HLT.out,← HF.out,evG,HMB.out,if_neg CM.out]
     exact qb BPd.out _

abbrev encB (x : Int × Int × Int) : Array Value:=#[.int .i64 x.1,.int .i64 x.2.1,.int .i64 x.2.2]
/-- Whether sums are better than others (as impl.Better says). -/
def better3 (s x : Int × Int × Int) : Bool:=if s.1 = x.1 then (if s.2.1 = x.2.1 then decide (s.2.2 > x.2.2) else decide (s.2.1 > x.2.1)) else decide (s.1 > x.1)
def bstep (s x : Int × Int × Int) : Int × Int × Int:=if better3 s x = true then s else x

theorem i_better3 (s0 s1 s2 x0 x1 x2 : Int) (b : Bool) (h : better3 (s0,s1,s2) (x0,x1,x2) = b) : impl_Better.f s0 s1 s2 x0 x1 x2 = some b:=by
 subst h
 unfold impl_Better.f better3
 simp only
 split
 ·split <;> rfl
 ·rfl

theorem clo_best (p : Nat) (s0 s1 s2 size : Int) (x : Int × Int × Int) (w : World) (h : w.heap[p]? = some (.cells (encB x) 72 (0,0))) :
  Calls Try.prog 88 #[.agg #[.int .i64 s0,.int .i64 s1,.int .i64 s2],.int .i64 size,.pointer (some ⟨p,0,none⟩)] w fun e w'=>e = .returned (.tuple #[]) ∧ w'.heap[p]? = some (.cells (encB (bstep (s0,s1,s2) x)) 72 (0,0)) ∧ w.grownBy w' (some p):=by
 obtain ⟨x0,x1,x2⟩:=x
 replace h : w.heap[p]? = some (.cells #[.int .i64 x0,.int .i64 x1,.int .i64 x2] 72 (0,0)):=h
 have HH:=qn.mk h
 clear h
 have hu72:=Try.underlying72
 go_enter Try.func88,Try.ntmps88
 go_upto_region 0 with (fail)
 go_cut [3] (fun v3 wc=>∃ g3 : Nat,v3 = .pointer (some ⟨g3,0,none⟩) ∧ qn (wc.heap[g3]? = some (.cells #[.int .i64 s0,.int .i64 s1,.int .i64 s2] 72 (0,0))) ∧ qn (wc.heap[p]? = some (.cells #[.int .i64 x0,.int .i64 x1,.int .i64 x2] 72 (0,0))) ∧ qn (Below w.heap.size w wc) ∧ qn (g3 ≠ p))
 case first =>
  go_wp2
  go_meet
  case rel=>exact ⟨w.heap.size,rfl,⟨new_ w _⟩,⟨qc HH.out _⟩,⟨qf (Below.refl _ _) _⟩,⟨by have:=blk_lt HH.out;omega⟩⟩
 case rest =>
  obtain ⟨g3,rfl,B3,BP,HBW,N3⟩:=hcut
  have c30 : wc.cell? ⟨g3,0,none⟩ = some (.int .i64 s0):=(qh B3.out 0).trans rfl
  have c31 : wc.cell? ⟨g3,1,none⟩ = some (.int .i64 s1):=(qh B3.out 1).trans rfl
  have c32 : wc.cell? ⟨g3,2,none⟩ = some (.int .i64 s2):=(qh B3.out 2).trans rfl
  have cp0 : wc.cell? ⟨p,0,none⟩ = some (.int .i64 x0):=(qh BP.out 0).trans rfl
  have cp1 : wc.cell? ⟨p,1,none⟩ = some (.int .i64 x1):=(qh BP.out 1).trans rfl
  have cp2 : wc.cell? ⟨p,2,none⟩ = some (.int .i64 x2):=(qh BP.out 2).trans rfl
  by_cases cb : better3 (s0,s1,s2) (x0,x1,x2) = true
  ·have HI:=qn.mk (i_better3 s0 s1 s2 x0 x1 x2 true cb)
   have CB:=qn.mk cb
   clear cb
   go_wp2_with (first|(go_at_call 43;(with_reducible refine (impl_Better.calls s0 s1 s2 x0 x1 x2 true _ HI.out).mono ?_);rintro e w2 ⟨rfl,hb⟩;have B32:=qn.mk (ql B3.out hb);have BP2:=qn.mk (ql BP.out hb);have HB2:=qn.mk hb;clear hb;have d30 : w2.cell? ⟨g3,0,none⟩ = some (.int .i64 s0):=(qh B32.out 0).trans rfl;have d31 : w2.cell? ⟨g3,1,none⟩ = some (.int .i64 s1):=(qh B32.out 1).trans rfl;have d32 : w2.cell? ⟨g3,2,none⟩ = some (.int .i64 s2):=(qh B32.out 2).trans rfl;have dp0 : w2.cell? ⟨p,0,none⟩ = some (.int .i64 x0):=(qh BP2.out 0).trans rfl;have dp1 : w2.cell? ⟨p,1,none⟩ = some (.int .i64 x1):=(qh BP2.out 1).trans rfl;have dp2 : w2.cell? ⟨p,2,none⟩ = some (.int .i64 x2):=(qh BP2.out 2).trans rfl;have fp0:=qi BP2.out 0;have fp1:=qi BP2.out 1;have fp2:=qi BP2.out 2;have nn:=N3.out;have nn':=N3.out.symm))
   go_end0
   refine ⟨rfl,?_,(grown_of_below HBW.out _).trans ((grown_of_below HB2.out _).trans ((grown_set _ p 0 _).trans ((grown_set _ p 1 _).trans (grown_set _ p 2 _))))⟩
   rw [bstep,if_pos CB.out]
   exact blk_put (blk_put (blk_put BP2.out 0 _ rfl) 1 _ rfl) 2 _ rfl
  ·replace cb:=Bool.eq_false_iff.mpr cb
   have HI:=qn.mk (i_better3 s0 s1 s2 x0 x1 x2 false cb)
   have CB:=qn.mk cb
   clear cb
   go_wp2_with (first|(go_at_call 43;(with_reducible refine (impl_Better.calls s0 s1 s2 x0 x1 x2 false _ HI.out).mono ?_);rintro e w2 ⟨rfl,hb⟩;have BP2:=qn.mk (ql BP.out hb);have HB2:=qn.mk hb;clear hb))
   go_end0
   refine ⟨rfl,?_,(grown_of_below HBW.out _).trans (grown_of_below HB2.out _)⟩
   rw [bstep,if_neg (by rw [CB.out];decide)]
   exact BP2.out

set_option maxHeartbeats 4000000 in
set_option maxRecDepth 100000 in
theorem every_best (n : Int) (A : Option Addr) (c : Nat) (L : List S36) (w0 : World) (hr : Kd.C k36 w0 A L.length L) (hc : L.length ≤ c) (hL : L.length ≤ 2000000) (hv : ∀ e ∈ L,0 ≤ e.f0 ∧ 0 ≤ e.f1) (p : Nat) (hp : w0.heap.size ≤ p) : ∀ (d i : Nat) (m : Int) (s : Int × Int × Int) (size : Int) (x : Int × Int × Int) (w : World),i + d = L.length → Below w0.heap.size w0 w → w.heap[p]? = some (.cells (encB x) 72 (0,0)) →
  Calls Try.prog 85 #[.agg #[.int .i64 n,.slice A L.length c],.int .i64 (i : Int),.int .i64 m,.agg #[.int .i64 s.1,.int .i64 s.2.1,.int .i64 s.2.2],.int .i64 size,.func (.func 88) #[] #[.pointer (some ⟨p,0,none⟩)]] w fun e w'=>e = .returned (.tuple #[]) ∧ w'.heap[p]? = some (.cells (encB (evG bstep (L.drop i) m s x)) 72 (0,0)) ∧ w.grownBy w' (some p) ∧ Below w0.heap.size w0 w'
 | 0,i,m,s,size,x,w,hi,hB,hP=>by
  have HR:=qn.mk hr
  have HI:=qn.mk hi
  have HV:=qn.mk hv
  have HB:=qn.mk hB
  have HP:=qn.mk hP
  have hlen : ((i : Int) == (L.length : Int)) = true:=by simp;omega
  clear hr hi hv hB hP
  obtain ⟨s0,s1,s2⟩:=s
  go_enter Try.func85,Try.ntmps85
  go_upto_region 0 with (fail)
  go_cut [6,9] (fun v6 v9 wc=>∃ g6 g9 : Nat,v6 = .pointer (some ⟨g6,0,none⟩) ∧ v9 = .pointer (some ⟨g9,0,none⟩) ∧ qn (wc.heap[g6]? = some (.cells #[.int .i64 n,.slice A L.length c] 26 (0,0))) ∧ qn (wc.heap[g9]? = some (.cells #[.int .i64 s0,.int .i64 s1,.int .i64 s2] 72 (0,0))) ∧ qn (wc.heap[p]? = some (.cells (encB x) 72 (0,0))) ∧ qn (Below w0.heap.size w0 wc) ∧ qn (Below w.heap.size w wc) ∧ qn (g6 ≠ p) ∧ qn (g9 ≠ p))
  case first =>
   go_wp2
   go_meet
   case rel=>exact ⟨w.heap.size,w.heap.size + 1,rfl,by first|rfl|simp,⟨qc (new_ w _) _⟩,⟨new2_ w _ _⟩,⟨qc (qc HP.out _) _⟩,⟨by repeat (first|(with_reducible first|exact HB.out|apply qf)|exact HB.out)⟩,⟨qf (qf (Below.refl _ _) _) _⟩,⟨by have:=blk_lt HP.out;omega⟩,⟨by have:=blk_lt HP.out;omega⟩⟩
  case rest =>
   obtain ⟨g6,g9,rfl,rfl,B6,B9,BP,HB0,HBW,N6,N9⟩:=hcut
   have c60 : wc.cell? ⟨g6,0,none⟩ = some (.int .i64 n):=(qh B6.out 0).trans rfl
   have c61 : wc.cell? ⟨g6,1,none⟩ = some (.slice A L.length c):=(qh B6.out 1).trans rfl
   have c90 : wc.cell? ⟨g9,0,none⟩ = some (.int .i64 s0):=(qh B9.out 0).trans rfl
   have c91 : wc.cell? ⟨g9,1,none⟩ = some (.int .i64 s1):=(qh B9.out 1).trans rfl
   have c92 : wc.cell? ⟨g9,2,none⟩ = some (.int .i64 s2):=(qh B9.out 2).trans rfl
   go_wp2_with (first|(go_at_call 88;(with_reducible refine (clo_best p s0 s1 s2 size x _ ?h).mono ?_);(case h=>exact BP.out);rintro e w2 ⟨rfl,hq,hg⟩;have HQ:=qn.mk hq;have HG:=qn.mk hg;clear hq hg))
   refine bodyPost_ret (v:=.tuple #[]) (by simp [results,Try.results85,go_sem]) rfl ⟨rfl,?_,(grown_of_below HBW.out _).trans HG.out,HB0.out.grown HG.out HB0.out.size (fun k hk=>by injection hk with hk;omega)⟩
   rw [List.drop_of_length_le (by have:=HI.out;omega)]
   exact HQ.out
 | d + 1,i,m,s,size,x,w,hi,hB,hP=>by
  have ih : ∀ (m s0 s1 s2 size : Int) (x : Int × Int × Int) (w : World),Below w0.heap.size w0 w → w.heap[p]? = some (.cells (encB x) 72 (0,0)) →
    Calls Try.prog 85 #[.agg #[.int .i64 n,.slice A L.length c],.int .i64 ((i : Int) + 1),.int .i64 m,.agg #[.int .i64 s0,.int .i64 s1,.int .i64 s2],.int .i64 size,.func (.func 88) #[] #[.pointer (some ⟨p,0,none⟩)]] w fun e w'=>e = .returned (.tuple #[]) ∧ w'.heap[p]? = some (.cells (encB (evG bstep (L.drop (i + 1)) m (s0,s1,s2) x)) 72 (0,0)) ∧ w.grownBy w' (some p) ∧ Below w0.heap.size w0 w' :=
   fun m s0 s1 s2 size x w=>every_best n A c L w0 hr hc hL hv p hp d (i + 1) m (s0,s1,s2) size x w (by omega)
  have hlt : i < L.length:=by omega
  have HIH:=qn.mk ih
  have HR:=qn.mk hr
  have HI:=qn.mk hi
  have HV:=qn.mk (hv _ (List.getElem_mem hlt))
  have HB:=qn.mk hB
  have HP:=qn.mk hP
  have HLT:=qn.mk hlt
  have hlen : ((i : Int) == (L.length : Int)) = false:=beq_eq_false_iff_ne.mpr (by omega)
  clear hr hi hv hB hP ih
  obtain ⟨s0,s1,s2⟩:=s
  go_enter Try.func85,Try.ntmps85
  go_upto_region 0 with (fail)
  go_cut [6,9] (fun v6 v9 wc=>∃ g6 g9 : Nat,v6 = .pointer (some ⟨g6,0,none⟩) ∧ v9 = .pointer (some ⟨g9,0,none⟩) ∧ qn (wc.heap[g6]? = some (.cells #[.int .i64 n,.slice A L.length c] 26 (0,0))) ∧ qn (wc.heap[g9]? = some (.cells #[.int .i64 s0,.int .i64 s1,.int .i64 s2] 72 (0,0))) ∧ qn (wc.heap[p]? = some (.cells (encB x) 72 (0,0))) ∧ qn (Below w0.heap.size w0 wc) ∧ qn (Below w.heap.size w wc) ∧ qn (g6 ≠ p) ∧ qn (g9 ≠ p))
  case first =>
   go_wp2
   go_meet
   case rel=>exact ⟨w.heap.size,w.heap.size + 1,rfl,by first|rfl|simp,⟨qc (new_ w _) _⟩,⟨new2_ w _ _⟩,⟨qc (qc HP.out _) _⟩,⟨by repeat (first|(with_reducible first|exact HB.out|apply qf)|exact HB.out)⟩,⟨qf (qf (Below.refl _ _) _) _⟩,⟨by have:=blk_lt HP.out;omega⟩,⟨by have:=blk_lt HP.out;omega⟩⟩
  case rest =>
   obtain ⟨g6,g9,rfl,rfl,B6,B9,BP,HB0,HBW,N6,N9⟩:=hcut
   have c60 : wc.cell? ⟨g6,0,none⟩ = some (.int .i64 n):=(qh B6.out 0).trans rfl
   have c61 : wc.cell? ⟨g6,1,none⟩ = some (.slice A L.length c):=(qh B6.out 1).trans rfl
   have c90 : wc.cell? ⟨g9,0,none⟩ = some (.int .i64 s0):=(qh B9.out 0).trans rfl
   have c91 : wc.cell? ⟨g9,1,none⟩ = some (.int .i64 s1):=(qh B9.out 1).trans rfl
   have c92 : wc.cell? ⟨g9,2,none⟩ = some (.int .i64 s2):=(qh B9.out 2).trans rfl
   have hi1 : (i : Int) + 1 ≤ 2000000:=by omega
   go_upto_region 4 with (first|(go_at_call 85;(with_reducible refine (HIH.out m s0 s1 s2 size x _ ?h1 ?h2).mono ?_);(case h1=>exact HB0.out);(case h2=>exact BP.out);rintro e w2 ⟨rfl,hq,hg,hb⟩;have HQ:=qn.mk hq;have HG:=qn.mk hg;have HB2:=qn.mk hb;clear hq hg hb))
   have B62:=qn.mk (blk_grown B6.out HG.out (fun h=>N6.out (Option.some.inj h)))
   have B92:=qn.mk (blk_grown B9.out HG.out (fun h=>N9.out (Option.some.inj h)))
   have HG2:=qn.mk ((grown_of_below HBW.out (some p)).trans HG.out)
   clear B6 B9 HG BP HBW HB0 c60 c61 c90 c91 c92
   have c61 : w2.cell? ⟨g6,1,none⟩ = some (.slice A L.length c):=(qh B62.out 1).trans rfl
   obtain ⟨ad,eA,x0,x1,x2,x3,x4⟩:=at_T36 HR.out (i : Int) (Int.natCast_nonneg i) (by have:=HLT.out;omega)
   subst eA
   have hrd : rd_T36 L (i : Int) = L[i]'HLT.out:=by
    unfold rd_T36
    rw [Int.toNat_natCast,List.getD_eq_getElem?_getD,List.getElem?_eq_getElem HLT.out];rfl
   rw [hrd] at x0 x1 x2 x3 x4
   rw [Int.toNat_natCast] at x0 x1 x2 x3 x4
   obtain ⟨f,hf⟩ : ∃ f,f = L[i]'HLT.out:=⟨_,rfl⟩
   rw [← hf] at x0 x1 x2 x3 x4 HV
   have HF:=qn.mk hf
   clear hf hrd
   replace x0:=(HB2.out.cell (World.block_lt_of_cell? _ _ x0)).trans x0
   replace x1:=(HB2.out.cell (World.block_lt_of_cell? _ _ x1)).trans x1
   replace x2:=(HB2.out.cell (World.block_lt_of_cell? _ _ x2)).trans x2
   replace x3:=(HB2.out.cell (World.block_lt_of_cell? _ _ x3)).trans x3
   replace x4:=(HB2.out.cell (World.block_lt_of_cell? _ _ x4)).trans x4
   have hi0 : 0 ≤ (i : Int):=Int.natCast_nonneg i
   have hil : (i : Int) < (L.length : Int):=by have:=HLT.out;omega
   go_cut [12] (fun v12 wd=>∃ g12 : Nat,v12 = .pointer (some ⟨g12,0,none⟩) ∧ qn (wd.heap[g12]? = some (.cells #[.int .i64 f.f0,.int .i64 f.f1,.int .i64 f.f2,.int .i64 f.f3,.int .i64 f.f4] 36 (0,0))) ∧ qn (Below w2.heap.size w2 wd) ∧ qn (g12 ≠ p))
   case first =>
    go_wp2
    go_meet
    case rel=>exact ⟨w2.heap.size,rfl,⟨new_ w2 _⟩,⟨qf (Below.refl _ _) _⟩,⟨by have:=blk_lt HQ.out;omega⟩⟩
   case rest =>
    obtain ⟨g12,rfl,B12,HBd,N12⟩:=hcut
    have B6d:=qn.mk (ql B62.out HBd.out)
    have B9d:=qn.mk (ql B92.out HBd.out)
    have BPd:=qn.mk (ql HQ.out HBd.out)
    have HB0d:=qn.mk (qm HB2.out HBd.out)
    have HGd:=qn.mk (HG2.out.trans (grown_of_below HBd.out (some p)))
    clear c61 x0 x1 x2 x3 x4 B62 B92 HQ HB2 HG2
    have v0 : 0 ≤ f.f0:=HV.out.1
    have v1 : 0 ≤ f.f1:=HV.out.2
    have ce0 : wc.cell? ⟨g12,0,none⟩ = some (.int .i64 f.f0):=(qh B12.out 0).trans rfl
    have ce1 : wc.cell? ⟨g12,1,none⟩ = some (.int .i64 f.f1):=(qh B12.out 1).trans rfl
    have ce2 : wc.cell? ⟨g12,2,none⟩ = some (.int .i64 f.f2):=(qh B12.out 2).trans rfl
    have ce3 : wc.cell? ⟨g12,3,none⟩ = some (.int .i64 f.f3):=(qh B12.out 3).trans rfl
    have ce4 : wc.cell? ⟨g12,4,none⟩ = some (.int .i64 f.f4):=(qh B12.out 4).trans rfl
    go_upto_region 5 with (fail)
    go_quiet (fail)
    go_upto_region 6 with (fail)
    obtain ⟨mb,hmb⟩ : ∃ mb,bothM f = mb:=⟨_,rfl⟩
    have hmb' : Go.bits .or .i64 (wrap64 (2 ^ min f.f0.toNat 64)) (wrap64 (2 ^ min f.f1.toNat 64)) = mb:=hmb
    rw [hmb']
    have HMB:=qn.mk hmb
    clear hmb hmb'
    have c60 : wc.cell? ⟨g6,0,none⟩ = some (.int .i64 n):=(qh B6d.out 0).trans rfl
    have c61 : wc.cell? ⟨g6,1,none⟩ = some (.slice (some ad) L.length c):=(qh B6d.out 1).trans rfl
    have c90 : wc.cell? ⟨g9,0,none⟩ = some (.int .i64 s0):=(qh B9d.out 0).trans rfl
    have c91 : wc.cell? ⟨g9,1,none⟩ = some (.int .i64 s1):=(qh B9d.out 1).trans rfl
    have c92 : wc.cell? ⟨g9,2,none⟩ = some (.int .i64 s2):=(qh B9d.out 2).trans rfl
    by_cases cm : Go.bits .and .i64 m mb = 0
    ·have cmb : (Go.bits .and .i64 m mb == 0) = true:=beq_iff_eq.mpr cm
     have CM:=qn.mk cm
     clear cm
     go_upto_region 7 with (fail)
     have hwi : IntKind.i64.wrap ((i : Int) + 1) = (i : Int) + 1:=by rw [i64_w];unfold wrap64;omega
     go_region_with (first
      | (go_at_call 91;(with_reducible refine (impl_Sums_plus.calls s0 s1 s2 f.f0 f.f1 f.f2 f.f3 f.f4 (wrap64 (s0 + f.f2)) (wrap64 (s1 + f.f3)) (wrap64 (s2 + f.f4)) _ rfl).mono ?_);rintro e w3 ⟨rfl,hb3⟩;have HB3:=qn.mk hb3;have c60' : w3.cell? ⟨g6,0,none⟩ = some (.int .i64 n):=(qh (ql B6d.out (qm (by repeat (first|apply qa|exact Below.refl _ _)) hb3)) 0).trans rfl;have c61' : w3.cell? ⟨g6,1,none⟩ = some (.slice (some ad) L.length c):=(qh (ql B6d.out (qm (by repeat (first|apply qa|exact Below.refl _ _)) hb3)) 1).trans rfl;clear hb3)
      | (go_at_call 85;(with_reducible refine (HIH.out (Go.bits .or .i64 m mb) (wrap64 (s0 + f.f2)) (wrap64 (s1 + f.f3)) (wrap64 (s2 + f.f4)) (IntKind.i64.wrap (size + 1)) (evG bstep (L.drop (i + 1)) m (s0,s1,s2) x) _ ?h1 ?h2).mono ?_);(case h1=>exact qm (by repeat (first|(with_reducible first|exact HB0d.out|apply qa)|exact HB0d.out)) HB3.out);(case h2=>exact ql (by repeat (first|(with_reducible first|exact BPd.out|refine qb ?_ _)|exact BPd.out)) HB3.out);rintro e w4 ⟨rfl,hq,hg,hb⟩;have HQ4:=qn.mk hq;have HG4:=qn.mk hg;have HB4:=qn.mk hb;clear hq hg hb))
     all_goals (try go_wp2)
     all_goals go_end0
     all_goals (refine ⟨rfl,?_,HGd.out.trans ((grown_of_below (qm (by repeat (first|apply qa|exact Below.refl _ _)) HB3.out) _).trans HG4.out),HB4.out⟩;rw [List.drop_eq_getElem_cons HLT.out,← HF.out,evG,HMB.out,if_pos CM.out];exact HQ4.out)
    ·have cmb : (Go.bits .and .i64 m mb == 0) = false:=beq_eq_false_iff_ne.mpr cm
     have CM:=qn.mk cm
     clear cm
     go_wp2_with (fail)
     go_end0
     refine ⟨rfl,?_,HGd.out.trans (grown_of_below (by repeat (first|apply qa|exact Below.refl _ _)) _),by repeat (first|(with_reducible first|exact HB0d.out|apply qa)|exact HB0d.out)⟩
     rw [List.drop_eq_getElem_cons HLT.out,← HF.out,evG,HMB.out,if_neg CM.out]
     exact qb BPd.out _

/-! ### impl_CountMatches: function 36 -/
def edgesNN (L : List S36) : Bool:=L.all fun e=>decide (0 ≤ e.f0) && decide (0 ≤ e.f1)
def impl_CountMatches.f (k : Nat) (a0_0 : Int) (l0_1 : List (S36)) : Option (Int):=(impl_GraphOk.f k a0_0 l0_1).bind fun t199=>(if t199 = true then (if edgesNN l0_1 = true then (if l0_1.length ≤ 2000000 then (some (evG (fun _ x=>wrap64 (x + 1)) l0_1 0 (0,0,0) 0)) else none) else none) else (some (-1)))
theorem impl_CountMatches.mono : ∀ a0 a1 k,LeO (impl_CountMatches.f k a0 a1) (impl_CountMatches.f (k + 1) a0 a1):=by
 intro a0 a1 k
 unfold impl_CountMatches.f
 exact LeO.bind (impl_GraphOk.mono _ _ _) (fun _=>LeO.refl _)
set_option maxHeartbeats 8000000 in
set_option maxRecDepth 100000 in
theorem impl_CountMatches.calls (k : Nat) (a0_0 : Int) (A0_1 : Option Addr) (c0_1 : Nat) (l0_1 : List (S36)) (r : Int) (w : World) (hr0_1 : Kd.C k36 w A0_1 l0_1.length l0_1) (hc0_1 : l0_1.length ≤ c0_1) (h : impl_CountMatches.f k a0_0 l0_1 = some r) :
  Calls Try.prog 36 #[.agg #[.int .i64 a0_0,.slice A0_1 l0_1.length c0_1]] w fun e w'=>e = .returned (.int .i64 r) ∧ Below w.heap.size w w':=by
 have hu26:=Try.underlying26
 have HR0_1:=qn.mk hr0_1
 have HC0_1:=qn.mk hc0_1
 clear hr0_1 hc0_1
 have HB:=qn.mk (Below.refl w.heap.size w)
 unfold impl_CountMatches.f at h
 replace h:=Option.bind_eq_some_iff.mp h
 obtain ⟨t199,A20,H⟩:=h
 have A2:=qn.mk A20
 clear A20
 by_cases c3 : t199 = true
 ·subst c3
  rw [if_pos rfl] at H
  by_cases hnn : edgesNN l0_1 = true
  case neg=>rw [if_neg hnn] at H;cases H
  rw [if_pos hnn] at H
  by_cases hll : l0_1.length ≤ 2000000
  case neg=>rw [if_neg hll] at H;cases H
  rw [if_pos hll] at H
  have hv : ∀ e ∈ l0_1,0 ≤ e.f0 ∧ 0 ≤ e.f1:=fun e he=>by
   have:=(List.all_eq_true.1 hnn) e he
   rw [Bool.and_eq_true,decide_eq_true_eq,decide_eq_true_eq] at this
   exact this
  have HV:=qn.mk hv
  have HL:=qn.mk hll
  clear hv hll hnn
  replace H:=qn.mk (Option.some.inj H)
  go_enter Try.func36,Try.ntmps36
  go_upto_region 3 with (first|((with_reducible refine gate_dst (N:=1) rfl ?_);refine box_event ?hg (N:=1) ?hd (cs:=#[.int .i64 a0_0,.slice A0_1 l0_1.length c0_1]) (t:=26) ?hr ?_;(case hd=>rfl);(case hg=>rfl);(case hr=>first|(go_simp;done)|(go_simp;rfl));intro gb177 hg w4 hbox hb;have n0_:=hs_ HB hb;have n1_:=qn.mk (hbox);have n2_:=qn.mk ((by rw [hg];exact (qj (by repeat (first|(with_reducible first|exact HB.out|apply qf|apply qa|apply qd)|exact HB.out))) : w.heap.size ≤ gb177));have n3_:=qn.mk ((by rw [hg];exact (qj (by repeat (first|(with_reducible first|exact HB.out|apply qf|apply qa|apply qd)|exact HB.out))) : w.heap.size ≤ gb177));clear HB;have HB:=n0_;have BK177:=n1_;have GW177:=n2_;have GE177:=n3_;clear n0_ n1_ n2_ n3_;clear hb hbox hg;have hcz5_0 : w4.cell? ⟨gb177,0,none⟩ = some (.int .i64 a0_0):=(qh BK177.out 0).trans rfl;have hcz5_1 : w4.cell? ⟨gb177,1,none⟩ = some (.slice A0_1 l0_1.length c0_1):=(qh BK177.out 1).trans rfl;have hfz5_0:=qi BK177.out 0;have hfz5_1:=qi BK177.out 1)|((with_reducible refine gate_callee (f:=16) rfl ?_);refine goesL_ (some 5) rfl rfl Try.func16 (by kernel_rfl) rfl #[.agg #[.int .i64 a0_0,.slice A0_1 l0_1.length c0_1]] rfl (by (try simp only [List.map_toArray,List.map_cons,List.map_nil]);first|done|rfl|(simp only [List.length_drop,List.length_take];rfl)) ?_;(with_reducible refine (impl_GraphOk.calls k a0_0 _ _ l0_1 true _ ?side1 ?side2 A2.out).mono ?_);(case side1=>repeat (first|exact (Kd.C_below HR0_1.out HB.out)|(with_reducible refine Kd.C_alloc ?_ _)|(with_reducible refine Kd.C_drewN ?_ _)|(with_reducible refine Kd.C_drew ?_)));(case side2=>exact HC0_1.out);rintro e w6 ⟨rfl,hb⟩;refine ⟨_,rfl,?_⟩;have n0_:=bb_ BK177 hb;have n1_:=hs_ HB hb;clear BK177;clear HB;have BK177:=n0_;have HB:=n1_;clear n0_ n1_;(try clear hb);(try clear hb2);(try clear hk);(try clear hi)))
  go_cut [1,3] (fun v1 v3 wc=>∃ g1 p : Nat,v1 = .pointer (some ⟨g1,0,none⟩) ∧ v3 = .pointer (some ⟨p,0,none⟩) ∧ qn (wc.heap[g1]? = some (.cells #[.int .i64 a0_0,.slice A0_1 l0_1.length c0_1] 26 (0,0))) ∧ qn (wc.heap[p]? = some (.cells #[.int .i64 0] 3 (0,0))) ∧ qn (w6.heap.size ≤ p) ∧ qn (Below w6.heap.size w6 wc))
  case first =>
   go_wp2
   go_meet
   case rel=>exact ⟨gb177,w6.heap.size,rfl,rfl,⟨qc BK177.out _⟩,⟨new_ w6 _⟩,⟨Nat.le_refl _⟩,⟨qf (Below.refl _ _) _⟩⟩
  case rest =>
   obtain ⟨g1,p,rfl,rfl,B1,BP,NP,HB0⟩:=hcut
   have c10 : wc.cell? ⟨g1,0,none⟩ = some (.int .i64 a0_0):=(qh B1.out 0).trans rfl
   have c11 : wc.cell? ⟨g1,1,none⟩ = some (.slice A0_1 l0_1.length c0_1):=(qh B1.out 1).trans rfl
   have hev:=every_count a0_0 A0_1 c0_1 l0_1 w6 (Kd.C_below HR0_1.out HB.out) HC0_1.out HL.out HV.out p NP.out l0_1.length 0 0 (0,0,0) 0 0 wc (by omega) HB0.out BP.out
   have HEV : qn (Calls Try.prog 85 #[.agg #[.int .i64 a0_0,.slice A0_1 l0_1.length c0_1],.int .i64 0,.int .i64 0,.agg #[.int .i64 0,.int .i64 0,.int .i64 0],.int .i64 0,.func (.func 86) #[] #[.pointer (some ⟨p,0,none⟩)]] wc fun e w'=>e = .returned (.tuple #[]) ∧ w'.heap[p]? = some (.cells #[.int .i64 (evG (fun _ x=>wrap64 (x + 1)) l0_1 0 (0,0,0) 0)] 3 (0,0)) ∧ wc.grownBy w' (some p) ∧ Below w6.heap.size w6 w'):=⟨hev⟩
   clear hev
   go_upto_region 5 with (first|(go_at_call 85;(with_reducible refine HEV.out.mono ?_);rintro e w7 ⟨rfl,hq,hg,hb⟩;have HQ:=qn.mk hq;have HG:=qn.mk hg;have HB2:=qn.mk hb;clear hq hg hb))
   have cp : w7.cell? ⟨p,0,none⟩ = some (.int .i64 (evG (fun _ x=>wrap64 (x + 1)) l0_1 0 (0,0,0) 0)):=(qh HQ.out 0).trans rfl
   rw [H.out] at cp
   go_wp2
   go_ret
   exact ⟨rfl,qm HB.out HB2.out⟩
 ·replace c3:=Bool.eq_false_iff.mpr c3
  subst c3
  have H1 : (some (-1)) = some r:=by rw [if_neg (show ¬ (false = true) by decide)] at H;exact H
  clear H
  obtain rfl:=Option.some.inj H1
  clear H1
  go_enter Try.func36,Try.ntmps36
  go_wp2_with (first|((with_reducible refine gate_dst (N:=1) rfl ?_);refine box_event ?hg (N:=1) ?hd (cs:=#[.int .i64 a0_0,.slice A0_1 l0_1.length c0_1]) (t:=26) ?hr ?_;(case hd=>rfl);(case hg=>rfl);(case hr=>first|(go_simp;done)|(go_simp;rfl));intro gb177 hg w7 hbox hb;have n0_:=hs_ HB hb;have n1_:=qn.mk (hbox);have n2_:=qn.mk ((by rw [hg];exact (qj (by repeat (first|(with_reducible first|exact HB.out|apply qf|apply qa|apply qd)|exact HB.out))) : w.heap.size ≤ gb177));have n3_:=qn.mk ((by rw [hg];exact (qj (by repeat (first|(with_reducible first|exact HB.out|apply qf|apply qa|apply qd)|exact HB.out))) : w.heap.size ≤ gb177));clear HB;have HB:=n0_;have BK177:=n1_;have GW177:=n2_;have GE177:=n3_;clear n0_ n1_ n2_ n3_;clear hb hbox hg;have hcz8_0 : w7.cell? ⟨gb177,0,none⟩ = some (.int .i64 a0_0):=(qh BK177.out 0).trans rfl;have hcz8_1 : w7.cell? ⟨gb177,1,none⟩ = some (.slice A0_1 l0_1.length c0_1):=(qh BK177.out 1).trans rfl;have hfz8_0:=qi BK177.out 0;have hfz8_1:=qi BK177.out 1)|((with_reducible refine gate_callee (f:=16) rfl ?_);refine goesL_ (some 5) rfl rfl Try.func16 (by kernel_rfl) rfl #[.agg #[.int .i64 a0_0,.slice A0_1 l0_1.length c0_1]] rfl (by (try simp only [List.map_toArray,List.map_cons,List.map_nil]);first|done|rfl|(simp only [List.length_drop,List.length_take];rfl)) ?_;(with_reducible refine (impl_GraphOk.calls k a0_0 _ _ l0_1 false _ ?side1 ?side2 A2.out).mono ?_);(case side1=>repeat (first|exact (Kd.C_below HR0_1.out HB.out)|(with_reducible refine Kd.C_alloc ?_ _)|(with_reducible refine Kd.C_drewN ?_ _)|(with_reducible refine Kd.C_drew ?_)));(case side2=>exact HC0_1.out);rintro e w9 ⟨rfl,hb⟩;refine ⟨_,rfl,?_⟩;have n0_:=bb_ BK177 hb;have n1_:=hs_ HB hb;clear BK177;clear HB;have BK177:=n0_;have HB:=n1_;clear n0_ n1_;(try clear hb);(try clear hb2);(try clear hk);(try clear hi)))
  go_ret
  exact ⟨by first|rfl|(simp [errW_none,errW_some] <;> rfl)|(simp [*,errW_none,errW_some] <;> rfl),by repeat (first|(with_reducible first|exact HB.out|apply qf|apply qa|apply qd|refine qg ?_ GE177.out)|exact HB.out)⟩

/-! ### impl_BestSums: function 39 -/
def impl_BestSums.f (k : Nat) (a0_0 : Int) (l0_1 : List (S36)) : Option (Int × Int × Int × Bool):=(impl_GraphOk.f k a0_0 l0_1).bind fun t210=>(if t210 = true then (if edgesNN l0_1 = true then (if l0_1.length ≤ 2000000 then (some ((evG bstep l0_1 0 (0,0,0) (0,0,0)).1,(evG bstep l0_1 0 (0,0,0) (0,0,0)).2.1,(evG bstep l0_1 0 (0,0,0) (0,0,0)).2.2,true)) else none) else none) else (some (0,0,0,false)))
theorem impl_BestSums.mono : ∀ a0 a1 k,LeO (impl_BestSums.f k a0 a1) (impl_BestSums.f (k + 1) a0 a1):=by
 intro a0 a1 k
 unfold impl_BestSums.f
 exact LeO.bind (impl_GraphOk.mono _ _ _) (fun _=>LeO.refl _)
set_option maxHeartbeats 8000000 in
set_option maxRecDepth 100000 in
theorem impl_BestSums.calls (k : Nat) (a0_0 : Int) (A0_1 : Option Addr) (c0_1 : Nat) (l0_1 : List (S36)) (r1 : Int) (r2 : Int) (r3 : Int) (r4 : Bool) (w : World) (hr0_1 : Kd.C k36 w A0_1 l0_1.length l0_1) (hc0_1 : l0_1.length ≤ c0_1) (h : impl_BestSums.f k a0_0 l0_1 = some (r1,r2,r3,r4)) :
  Calls Try.prog 39 #[.agg #[.int .i64 a0_0,.slice A0_1 l0_1.length c0_1]] w fun e w'=>e = .returned (.tuple #[.agg #[.int .i64 r1,.int .i64 r2,.int .i64 r3],.bool r4]) ∧ Below w.heap.size w w':=by
 have hu26:=Try.underlying26
 have hu72:=Try.underlying72
 have HR0_1:=qn.mk hr0_1
 have HC0_1:=qn.mk hc0_1
 clear hr0_1 hc0_1
 have HB:=qn.mk (Below.refl w.heap.size w)
 unfold impl_BestSums.f at h
 replace h:=Option.bind_eq_some_iff.mp h
 obtain ⟨t210,A20,H⟩:=h
 have A2:=qn.mk A20
 clear A20
 by_cases c3 : t210 = true
 ·subst c3
  rw [if_pos rfl] at H
  by_cases hnn : edgesNN l0_1 = true
  case neg=>rw [if_neg hnn] at H;cases H
  rw [if_pos hnn] at H
  by_cases hll : l0_1.length ≤ 2000000
  case neg=>rw [if_neg hll] at H;cases H
  rw [if_pos hll] at H
  have hv : ∀ e ∈ l0_1,0 ≤ e.f0 ∧ 0 ≤ e.f1:=fun e he=>by
   have:=(List.all_eq_true.1 hnn) e he
   rw [Bool.and_eq_true,decide_eq_true_eq,decide_eq_true_eq] at this
   exact this
  have HV:=qn.mk hv
  have HL:=qn.mk hll
  clear hv hll hnn
  generalize hz : evG bstep l0_1 0 (0,0,0) (0,0,0) = z at H
  obtain ⟨z0,z1,z2⟩:=z
  simp only [Option.some.injEq,Prod.mk.injEq] at H
  obtain ⟨rfl,rfl,rfl,rfl⟩:=H
  have HZ:=qn.mk hz
  clear hz
  go_enter Try.func39,Try.ntmps39
  go_upto_region 4 with (first|((with_reducible refine gate_dst (N:=1) rfl ?_);refine box_event ?hg (N:=1) ?hd (cs:=#[.int .i64 a0_0,.slice A0_1 l0_1.length c0_1]) (t:=26) ?hr ?_;(case hd=>rfl);(case hg=>rfl);(case hr=>first|(go_simp;done)|(go_simp;rfl));intro gb190 hg w4 hbox hb;have n0_:=hs_ HB hb;have n1_:=qn.mk (hbox);have n2_:=qn.mk ((by rw [hg];exact (qj (by repeat (first|(with_reducible first|exact HB.out|apply qf|apply qa|apply qd)|exact HB.out))) : w.heap.size ≤ gb190));have n3_:=qn.mk ((by rw [hg];exact (qj (by repeat (first|(with_reducible first|exact HB.out|apply qf|apply qa|apply qd)|exact HB.out))) : w.heap.size ≤ gb190));clear HB;have HB:=n0_;have BK190:=n1_;have GW190:=n2_;have GE190:=n3_;clear n0_ n1_ n2_ n3_;clear hb hbox hg)|((with_reducible refine gate_dst (N:=2) rfl ?_);refine box_event ?hg (N:=2) ?hd (cs:=#[.int .i64 0,.int .i64 0,.int .i64 0]) (t:=72) ?hr ?_;(case hd=>rfl);(case hg=>rfl);(case hr=>first|(go_simp;done)|(go_simp;rfl));intro gb191 hg w5 hbox hb;have n0_:=bb_ BK190 hb;have n1_:=hs_ HB hb;have n2_:=qn.mk (hbox);have n3_:=qn.mk ((by rw [hg];exact (qj (by repeat (first|(with_reducible first|exact HB.out|apply qf|apply qa|apply qd|refine qg ?_ GE190.out)|exact HB.out))) : w.heap.size ≤ gb191));have n4_:=qn.mk ((by rw [hg];exact (qj (by repeat (first|(with_reducible first|exact HB.out|apply qf|apply qa|apply qd|refine qg ?_ GE190.out)|exact HB.out))) : w.heap.size ≤ gb191));have n5_:=qn.mk ((by rw [hg];exact nl_ BK190 : gb190 ≠ gb191));have n6_:=qn.mk ((by rw [hg];exact ng_ BK190 : gb191 ≠ gb190));clear BK190;clear HB;have BK190:=n0_;have HB:=n1_;have BK191:=n2_;have GW191:=n3_;have GE191:=n4_;have NB190_191:=n5_;have NB191_190:=n6_;clear n0_ n1_ n2_ n3_ n4_ n5_ n6_;clear hb hbox hg)|((with_reducible refine gate_dst (N:=4) rfl ?_);refine box_event ?hg (N:=4) ?hd (cs:=#[.int .i64 0,.int .i64 0,.int .i64 0]) (t:=72) ?hr ?_;(case hd=>rfl);(case hg=>rfl);(case hr=>first|(go_simp;done)|(go_simp;rfl));intro gb192 hg w6 hbox hb;have n0_:=bb_ BK190 hb;have n1_:=bb_ BK191 hb;have n2_:=hs_ HB hb;have n3_:=qn.mk (hbox);have n4_:=qn.mk ((by rw [hg];exact (qj (by repeat (first|(with_reducible first|exact HB.out|apply qf|apply qa|apply qd|refine qg ?_ GE190.out|refine qg ?_ GE191.out)|exact HB.out))) : w.heap.size ≤ gb192));have n5_:=qn.mk ((by rw [hg];exact (qj (by repeat (first|(with_reducible first|exact HB.out|apply qf|apply qa|apply qd|refine qg ?_ GE190.out|refine qg ?_ GE191.out)|exact HB.out))) : w.heap.size ≤ gb192));have n6_:=qn.mk ((by rw [hg];exact nl_ BK190 : gb190 ≠ gb192));have n7_:=qn.mk ((by rw [hg];exact ng_ BK190 : gb192 ≠ gb190));have n8_:=qn.mk ((by rw [hg];exact nl_ BK191 : gb191 ≠ gb192));have n9_:=qn.mk ((by rw [hg];exact ng_ BK191 : gb192 ≠ gb191));clear BK190;clear BK191;clear HB;have BK190:=n0_;have BK191:=n1_;have HB:=n2_;have BK192:=n3_;have GW192:=n4_;have GE192:=n5_;have NB190_192:=n6_;have NB192_190:=n7_;have NB191_192:=n8_;have NB192_191:=n9_;clear n0_ n1_ n2_ n3_ n4_ n5_ n6_ n7_ n8_ n9_;clear hb hbox hg;have hnb7:=NB190_191.out;have hnc7:=NB191_190.out;have hnb8:=NB190_192.out;have hnc8:=NB192_190.out;have hcz9_0 : w6.cell? ⟨gb190,0,none⟩ = some (.int .i64 a0_0):=(qh BK190.out 0).trans rfl;have hcz9_1 : w6.cell? ⟨gb190,1,none⟩ = some (.slice A0_1 l0_1.length c0_1):=(qh BK190.out 1).trans rfl;have hfz9_0:=qi BK190.out 0;have hfz9_1:=qi BK190.out 1)|((with_reducible refine gate_callee (f:=16) rfl ?_);refine goesL_ (some 6) rfl rfl Try.func16 (by kernel_rfl) rfl #[.agg #[.int .i64 a0_0,.slice A0_1 l0_1.length c0_1]] rfl (by (try simp only [List.map_toArray,List.map_cons,List.map_nil]);first|done|rfl|(simp only [List.length_drop,List.length_take];rfl)) ?_;(with_reducible refine (impl_GraphOk.calls k a0_0 _ _ l0_1 true _ ?side1 ?side2 A2.out).mono ?_);(case side1=>repeat (first|exact (Kd.C_below HR0_1.out HB.out)|(with_reducible refine Kd.C_alloc ?_ _)|(with_reducible refine Kd.C_drewN ?_ _)|(with_reducible refine Kd.C_drew ?_)));(case side2=>exact HC0_1.out);rintro e w10 ⟨rfl,hb⟩;refine ⟨_,rfl,?_⟩;have n0_:=bb_ BK190 hb;have n1_:=bb_ BK191 hb;have n2_:=bb_ BK192 hb;have n3_:=hs_ HB hb;clear BK190;clear BK191;clear BK192;clear HB;have BK190:=n0_;have BK191:=n1_;have BK192:=n2_;have HB:=n3_;clear n0_ n1_ n2_ n3_;(try clear hb);(try clear hb2);(try clear hk);(try clear hi);have hcz11_0 : w10.cell? ⟨gb190,0,none⟩ = some (.int .i64 a0_0):=(qh BK190.out 0).trans rfl;have hcz11_1 : w10.cell? ⟨gb190,1,none⟩ = some (.slice A0_1 l0_1.length c0_1):=(qh BK190.out 1).trans rfl;have hfz11_0:=qi BK190.out 0;have hfz11_1:=qi BK190.out 1))
  have hev:=every_best a0_0 A0_1 c0_1 l0_1 w HR0_1.out HC0_1.out HL.out HV.out gb192 GE192.out l0_1.length 0 0 (0,0,0) 0 (0,0,0) w10 (by omega) HB.out BK192.out
  have HEV : qn (Calls Try.prog 85 #[.agg #[.int .i64 a0_0,.slice A0_1 l0_1.length c0_1],.int .i64 0,.int .i64 0,.agg #[.int .i64 0,.int .i64 0,.int .i64 0],.int .i64 0,.func (.func 88) #[] #[.pointer (some ⟨gb192,0,none⟩)]] w10 fun e w'=>e = .returned (.tuple #[]) ∧ w'.heap[gb192]? = some (.cells (encB (evG bstep l0_1 0 (0,0,0) (0,0,0))) 72 (0,0)) ∧ World.grownBy w10 w' (some gb192) ∧ Below w.heap.size w w'):=⟨hev⟩
  clear hev
  go_upto_region 5 with (first|(go_at_call 85;(with_reducible refine HEV.out.mono ?_);rintro e w7 ⟨rfl,hq,hg,hb⟩;have HQ:=qn.mk hq;have HG:=qn.mk hg;have HB2:=qn.mk hb;clear hq hg hb))
  have BQ : qn (w7.heap[gb192]? = some (.cells #[.int .i64 z0,.int .i64 z1,.int .i64 z2] 72 (0,0))):=⟨by have:=HQ.out;rw [HZ.out] at this;exact this⟩
  have BR:=qn.mk (blk_grown BK191.out HG.out (fun h=>NB191_192.out (Option.some.inj h)))
  clear HQ HG HEV
  have q0 : w7.cell? ⟨gb192,0,none⟩ = some (.int .i64 z0):=(qh BQ.out 0).trans rfl
  have q1 : w7.cell? ⟨gb192,1,none⟩ = some (.int .i64 z1):=(qh BQ.out 1).trans rfl
  have q2 : w7.cell? ⟨gb192,2,none⟩ = some (.int .i64 z2):=(qh BQ.out 2).trans rfl
  have yz0 : w7.cell? ⟨gb191,0,none⟩ = some (.int .i64 0):=(qh BR.out 0).trans rfl
  have yz1 : w7.cell? ⟨gb191,1,none⟩ = some (.int .i64 0):=(qh BR.out 1).trans rfl
  have yz2 : w7.cell? ⟨gb191,2,none⟩ = some (.int .i64 0):=(qh BR.out 2).trans rfl
  have fz0:=qi BR.out 0
  have fz1:=qi BR.out 1
  have fz2:=qi BR.out 2
  have nn:=NB191_192.out
  have nn':=NB191_192.out.symm
  go_wp2
  refine bodyPost_ret (results_ct rfl _ _ gb191 72 #[.int .i64 z0,.int .i64 z1,.int .i64 z2] (0,0) _ rfl (blk_put (blk_put (blk_put BR.out 0 _ rfl) 1 _ rfl) 2 _ rfl) Try.underlying72 rfl (by kernel_rfl)) rfl ?_
  exact ⟨rfl,by repeat (first|(with_reducible first|exact HB2.out|apply qf|apply qa|apply qd|refine qg ?_ GE191.out)|exact HB2.out)⟩
 ·replace c3:=Bool.eq_false_iff.mpr c3
  subst c3
  have H1 : (some ((0 : Int),(0 : Int),(0 : Int),false)) = some (r1,r2,r3,r4):=by rw [if_neg (show ¬ (false = true) by decide)] at H;exact H
  clear H
  simp only [Option.some.injEq,Prod.mk.injEq] at H1
  obtain ⟨rfl,rfl,rfl,rfl⟩:=H1
  go_enter Try.func39,Try.ntmps39
  go_wp2_with (first|((with_reducible refine gate_dst (N:=1) rfl ?_);refine box_event ?hg (N:=1) ?hd (cs:=#[.int .i64 a0_0,.slice A0_1 l0_1.length c0_1]) (t:=26) ?hr ?_;(case hd=>rfl);(case hg=>rfl);(case hr=>first|(go_simp;done)|(go_simp;rfl));intro gb190 hg w15 hbox hb;have n0_:=hs_ HB hb;have n1_:=qn.mk (hbox);have n2_:=qn.mk ((by rw [hg];exact (qj (by repeat (first|(with_reducible first|exact HB.out|apply qf|apply qa|apply qd)|exact HB.out))) : w.heap.size ≤ gb190));have n3_:=qn.mk ((by rw [hg];exact (qj (by repeat (first|(with_reducible first|exact HB.out|apply qf|apply qa|apply qd)|exact HB.out))) : w.heap.size ≤ gb190));clear HB;have HB:=n0_;have BK190:=n1_;have GW190:=n2_;have GE190:=n3_;clear n0_ n1_ n2_ n3_;clear hb hbox hg)|((with_reducible refine gate_dst (N:=2) rfl ?_);refine box_event ?hg (N:=2) ?hd (cs:=#[.int .i64 0,.int .i64 0,.int .i64 0]) (t:=72) ?hr ?_;(case hd=>rfl);(case hg=>rfl);(case hr=>first|(go_simp;done)|(go_simp;rfl));intro gb191 hg w16 hbox hb;have n0_:=bb_ BK190 hb;have n1_:=hs_ HB hb;have n2_:=qn.mk (hbox);have n3_:=qn.mk ((by rw [hg];exact (qj (by repeat (first|(with_reducible first|exact HB.out|apply qf|apply qa|apply qd|refine qg ?_ GE190.out)|exact HB.out))) : w.heap.size ≤ gb191));have n4_:=qn.mk ((by rw [hg];exact (qj (by repeat (first|(with_reducible first|exact HB.out|apply qf|apply qa|apply qd|refine qg ?_ GE190.out)|exact HB.out))) : w.heap.size ≤ gb191));have n5_:=qn.mk ((by rw [hg];exact nl_ BK190 : gb190 ≠ gb191));have n6_:=qn.mk ((by rw [hg];exact ng_ BK190 : gb191 ≠ gb190));clear BK190;clear HB;have BK190:=n0_;have HB:=n1_;have BK191:=n2_;have GW191:=n3_;have GE191:=n4_;have NB190_191:=n5_;have NB191_190:=n6_;clear n0_ n1_ n2_ n3_ n4_ n5_ n6_;clear hb hbox hg)|((with_reducible refine gate_dst (N:=4) rfl ?_);refine box_event ?hg (N:=4) ?hd (cs:=#[.int .i64 0,.int .i64 0,.int .i64 0]) (t:=72) ?hr ?_;(case hd=>rfl);(case hg=>rfl);(case hr=>first|(go_simp;done)|(go_simp;rfl));intro gb192 hg w17 hbox hb;have n0_:=bb_ BK190 hb;have n1_:=bb_ BK191 hb;have n2_:=hs_ HB hb;have n3_:=qn.mk (hbox);have n4_:=qn.mk ((by rw [hg];exact (qj (by repeat (first|(with_reducible first|exact HB.out|apply qf|apply qa|apply qd|refine qg ?_ GE190.out|refine qg ?_ GE191.out)|exact HB.out))) : w.heap.size ≤ gb192));have n5_:=qn.mk ((by rw [hg];exact (qj (by repeat (first|(with_reducible first|exact HB.out|apply qf|apply qa|apply qd|refine qg ?_ GE190.out|refine qg ?_ GE191.out)|exact HB.out))) : w.heap.size ≤ gb192));have n6_:=qn.mk ((by rw [hg];exact nl_ BK190 : gb190 ≠ gb192));have n7_:=qn.mk ((by rw [hg];exact ng_ BK190 : gb192 ≠ gb190));have n8_:=qn.mk ((by rw [hg];exact nl_ BK191 : gb191 ≠ gb192));have n9_:=qn.mk ((by rw [hg];exact ng_ BK191 : gb192 ≠ gb191));clear BK190;clear BK191;clear HB;have BK190:=n0_;have BK191:=n1_;have HB:=n2_;have BK192:=n3_;have GW192:=n4_;have GE192:=n5_;have NB190_192:=n6_;have NB192_190:=n7_;have NB191_192:=n8_;have NB192_191:=n9_;clear n0_ n1_ n2_ n3_ n4_ n5_ n6_ n7_ n8_ n9_;clear hb hbox hg;have hnb18:=NB190_191.out;have hnc18:=NB191_190.out;have hnb19:=NB190_192.out;have hnc19:=NB192_190.out;have hcz20_0 : w17.cell? ⟨gb190,0,none⟩ = some (.int .i64 a0_0):=(qh BK190.out 0).trans rfl;have hcz20_1 : w17.cell? ⟨gb190,1,none⟩ = some (.slice A0_1 l0_1.length c0_1):=(qh BK190.out 1).trans rfl;have hfz20_0:=qi BK190.out 0;have hfz20_1:=qi BK190.out 1)|((with_reducible refine gate_callee (f:=16) rfl ?_);refine goesL_ (some 6) rfl rfl Try.func16 (by kernel_rfl) rfl #[.agg #[.int .i64 a0_0,.slice A0_1 l0_1.length c0_1]] rfl (by (try simp only [List.map_toArray,List.map_cons,List.map_nil]);first|done|rfl|(simp only [List.length_drop,List.length_take];rfl)) ?_;(with_reducible refine (impl_GraphOk.calls k a0_0 _ _ l0_1 false _ ?side1 ?side2 A2.out).mono ?_);(case side1=>repeat (first|exact (Kd.C_below HR0_1.out HB.out)|(with_reducible refine Kd.C_alloc ?_ _)|(with_reducible refine Kd.C_drewN ?_ _)|(with_reducible refine Kd.C_drew ?_)));(case side2=>exact HC0_1.out);rintro e w21 ⟨rfl,hb⟩;refine ⟨_,rfl,?_⟩;have n0_:=bb_ BK190 hb;have n1_:=bb_ BK191 hb;have n2_:=bb_ BK192 hb;have n3_:=hs_ HB hb;clear BK190;clear BK191;clear BK192;clear HB;have BK190:=n0_;have BK191:=n1_;have BK192:=n2_;have HB:=n3_;clear n0_ n1_ n2_ n3_;(try clear hb);(try clear hb2);(try clear hk);(try clear hi);have hnb22:=NB192_191.out;have hnc22:=NB191_192.out;have hcz23_0 : w21.cell? ⟨gb192,0,none⟩ = some (.int .i64 0):=(qh BK192.out 0).trans rfl;have hcz23_1 : w21.cell? ⟨gb192,1,none⟩ = some (.int .i64 0):=(qh BK192.out 1).trans rfl;have hcz23_2 : w21.cell? ⟨gb192,2,none⟩ = some (.int .i64 0):=(qh BK192.out 2).trans rfl;have hfz23_0:=qi BK192.out 0;have hfz23_1:=qi BK192.out 1;have hfz23_2:=qi BK192.out 2;have hcz24_0 : w21.cell? ⟨gb191,0,none⟩ = some (.int .i64 0):=(qh BK191.out 0).trans rfl;have hcz24_1 : w21.cell? ⟨gb191,1,none⟩ = some (.int .i64 0):=(qh BK191.out 1).trans rfl;have hcz24_2 : w21.cell? ⟨gb191,2,none⟩ = some (.int .i64 0):=(qh BK191.out 2).trans rfl;have hfz24_0:=qi BK191.out 0;have hfz24_1:=qi BK191.out 1;have hfz24_2:=qi BK191.out 2))
  refine bodyPost_ret (results_ct rfl _ _ gb191 72 #[.int .i64 0,.int .i64 0,.int .i64 0] (0,0) _ rfl (by (with_reducible repeat (first|refine qb ?_ _|refine qe ?_|refine qc ?_ _));refine blk_put (cs:=#[.int .i64 0,.int .i64 0,.int .i64 0]) ?_ 2 _ rfl;(with_reducible repeat (first|refine qb ?_ _|refine qe ?_|refine qc ?_ _));refine blk_put (cs:=#[.int .i64 0,.int .i64 0,.int .i64 0]) ?_ 1 _ rfl;(with_reducible repeat (first|refine qb ?_ _|refine qe ?_|refine qc ?_ _));refine blk_put (cs:=#[.int .i64 0,.int .i64 0,.int .i64 0]) ?_ 0 _ rfl;(with_reducible repeat (first|refine qb ?_ _|refine qe ?_|refine qc ?_ _));exact BK191.out) Try.underlying72 rfl (by kernel_rfl)) rfl ?_
  exact ⟨by first|rfl|(simp [errW_none,errW_some] <;> rfl)|(simp [*,errW_none,errW_some] <;> rfl),by repeat (first|(with_reducible first|exact HB.out|apply qf|apply qa|apply qd|refine qg ?_ GE190.out|refine qg ?_ GE191.out|refine qg ?_ GE192.out)|exact HB.out)⟩

end Go.Proofs.Ytfmemcffbfahhaa.QFnBest
