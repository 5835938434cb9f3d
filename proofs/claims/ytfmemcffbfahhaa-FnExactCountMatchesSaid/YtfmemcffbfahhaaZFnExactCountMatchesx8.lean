/- How every pairing is gone through (impl.every), with the closure that counts or keeps the best: by contracts; the world changes in the captured variable's block alone. -/
import Derived.Test.YtfmemcffbfahhaaZFnExactCountMatchesx5
import Derived.RegionTactic
import Derived.BigRegion
import Derived.RegionCalls
import Derived.ChangeAlike
import Derived.OneCell
import Derived.OwnWalk
import Derived.Outline
namespace Go.Proofs.Ytfmemcffbfahhaa.QFnExactCountMatches
open Go.RowKit Go.Proofs.YtfmemcffbfahhaaW.PrintWords Go.Proofs.YtfmemcffbfahhaaW.PrintLast Go.Proofs.YtfmemcffbfahhaaW.PrintMore
set_option linter.unusedVariables false
set_option linter.unusedSimpArgs false

/-- The mask of an edge's two ends. -/
def bothM (e : S36) : Int:=Go.bits .or .i64 (wrap64 (2 ^ min e.f0.toNat 64)) (wrap64 (2 ^ min e.f1.toNat 64))
def plus3 (s : Int × Int × Int) (e : S36) : Int × Int × Int:=(wrap64 (s.1 + e.f2),wrap64 (s.2.1 + e.f3),wrap64 (s.2.2 + e.f4))
/-- What is told of all pairings that go on from here. -/
def evG {α : Type} (step : Int × Int × Int → α → α) : List S36 → Int → Int × Int × Int → α → α
  | [],_,s,x=>step s x
  | e :: E,m,s,x=>if Go.bits .and .i64 m (bothM e) = 0 then evG step E (Go.bits .or .i64 m (bothM e)) (plus3 s e) (evG step E m s x) else evG step E m s x

theorem new_ (w : World) (o : Obj) : (w.alloc o).heap[w.heap.size]? = some o:=heap_alloc_new w o
theorem new2_ (w : World) (o o' : Obj) : ((w.alloc o).alloc o').heap[w.heap.size + 1]? = some o':=by
  have:=new_ (w.alloc o) o'
  rwa [show (w.alloc o).heap.size = w.heap.size + 1 from by simp] at this
theorem grown_set (w : World) (p i : Nat) (u : Value) : w.grownBy (w.setCell ⟨p,i,none⟩ u) (some p) :=
  ⟨rfl,rfl,rfl,by simp [World.setCell],fun k hk hne=>Below.heap_setCell w ⟨p,i,none⟩ u k (fun e=>hne (by rw [e]))⟩
theorem clo_count (p : Nat) (s0 s1 s2 size x : Int) (w : World) (h : w.heap[p]? = some (.cells #[.int .i64 x] 3 (0,0))) :
    Calls Try.prog 86 #[.agg #[.int .i64 s0,.int .i64 s1,.int .i64 s2],.int .i64 size,.pointer (some ⟨p,0,none⟩)] w fun e w'=>e = .returned (.tuple #[]) ∧ w'.heap[p]? = some (.cells #[.int .i64 (wrap64 (x + 1))] 3 (0,0)) ∧ w.grownBy w' (some p):=by
  have hlt : p < w.heap.size:=by rcases Nat.lt_or_ge p w.heap.size with h'|h';exact h';rw [Array.getElem?_eq_none h'] at h;cases h
  obtain ⟨w1,hw1⟩ : ∃ w1,w1 = w.alloc (.cells #[.int .i64 s0,.int .i64 s1,.int .i64 s2] 72):=⟨_,rfl⟩
  have h1 : w1.heap[p]? = some (.cells #[.int .i64 x] 3 (0,0)):=by rw [hw1,Below.heap_alloc _ _ _ hlt];exact h
  have hc:=qh h1 0
  have hf:=qi h1 0
  have hc' : (w.alloc (.cells #[.int .i64 s0,.int .i64 s1,.int .i64 s2] 72)).cell? ⟨p,0,none⟩ = some (.int .i64 x):=by rw [← hw1];exact hc.trans rfl
  have hf' : (w.alloc (.cells #[.int .i64 s0,.int .i64 s1,.int .i64 s2] 72)).frozen? ⟨p,0,none⟩ = false:=by rw [← hw1];exact hf
  have HW:=qn.mk hw1
  have H1:=qn.mk h1
  clear hw1 h1 hc hf
  have HH:=qn.mk h
  clear h
  go_enter Try.func86,Try.ntmps86
  go_wp2
  go_end0
  refine ⟨rfl,qc (blk_put HH.out 0 _ rfl) _,(grown_set w p 0 _).trans (World.grownBy_alloc _ _ _)⟩

set_option maxHeartbeats 4000000 in
set_option maxRecDepth 100000 in
theorem every_count (n : Int) (A : Option Addr) (c : Nat) (L : List S36) (w0 : World) (hr : Kd.C k36 w0 A L.length L) (hc : L.length ≤ c) (hL : L.length ≤ 2000000) (hv : ∀ e ∈ L,0 ≤ e.f0 ∧ 0 ≤ e.f1) (p : Nat) (hp : w0.heap.size ≤ p) : ∀ (d i : Nat) (m : Int) (s : Int × Int × Int) (size x : Int) (w : World),i + d = L.length → Below w0.heap.size w0 w → w.heap[p]? = some (.cells #[.int .i64 x] 3 (0,0)) →
    Calls Try.prog 85 #[.agg #[.int .i64 n,.slice A L.length c],.int .i64 (i : Int),.int .i64 m,.agg #[.int .i64 s.1,.int .i64 s.2.1,.int .i64 s.2.2],.int .i64 size,.func (.func 86) #[] #[.pointer (some ⟨p,0,none⟩)]] w fun e w'=>e = .returned (.tuple #[]) ∧ w'.heap[p]? = some (.cells #[.int .i64 (evG (fun _ x=>wrap64 (x + 1)) (L.drop i) m s x)] 3 (0,0)) ∧ w.grownBy w' (some p) ∧ Below w0.heap.size w0 w'
  | 0,i,m,s,size,x,w,hi,hB,hP=>by
    have HR:=qn.mk hr
    have HI:=qn.mk hi
    have HV:=qn.mk hv
    have HB:=qn.mk hB
    have HP:=qn.mk hP
    have hlen : ((i : Int) == (L.length : Int)) = true:=by simp;omega
    clear hr hi hv hB hP
    obtain ⟨s0,s1,s2⟩:=s
    go_enter Try.func85,Try.ntmps85
    go_upto_region 0 with (fail)
    go_cut [6,9] (fun v6 v9 wc=>∃ g6 g9 : Nat,v6 = .pointer (some ⟨g6,0,none⟩) ∧ v9 = .pointer (some ⟨g9,0,none⟩) ∧ qn (wc.heap[g6]? = some (.cells #[.int .i64 n,.slice A L.length c] 26 (0,0))) ∧ qn (wc.heap[g9]? = some (.cells #[.int .i64 s0,.int .i64 s1,.int .i64 s2] 72 (0,0))) ∧ qn (wc.heap[p]? = some (.cells #[.int .i64 x] 3 (0,0))) ∧ qn (Below w0.heap.size w0 wc) ∧ qn (Below w.heap.size w wc) ∧ qn (g6 ≠ p) ∧ qn (g9 ≠ p))
    case first =>
      go_wp2
      go_meet
      case rel=>exact ⟨w.heap.size,w.heap.size + 1,rfl,by first|rfl|simp,⟨qc (new_ w _) _⟩,⟨new2_ w _ _⟩,⟨qc (qc HP.out _) _⟩,⟨by repeat (first|(with_reducible first|exact HB.out|apply qf)|exact HB.out)⟩,⟨qf (qf (Below.refl _ _) _) _⟩,⟨by have:=blk_lt HP.out;omega⟩,⟨by have:=blk_lt HP.out;omega⟩⟩
    case rest =>
      obtain ⟨g6,g9,rfl,rfl,B6,B9,BP,HB0,HBW,N6,N9⟩:=hcut
      have c60 : wc.cell? ⟨g6,0,none⟩ = some (.int .i64 n):=(qh B6.out 0).trans rfl
      have c61 : wc.cell? ⟨g6,1,none⟩ = some (.slice A L.length c):=(qh B6.out 1).trans rfl
      have c90 : wc.cell? ⟨g9,0,none⟩ = some (.int .i64 s0):=(qh B9.out 0).trans rfl
      have c91 : wc.cell? ⟨g9,1,none⟩ = some (.int .i64 s1):=(qh B9.out 1).trans rfl
      have c92 : wc.cell? ⟨g9,2,none⟩ = some (.int .i64 s2):=(qh B9.out 2).trans rfl
      go_wp2_with (first|(go_at_call 86;(with_reducible refine (clo_count p s0 s1 s2 size x _ ?h).mono ?_);(case h=>exact BP.out);rintro e w2 ⟨rfl,hq,hg⟩;have HQ:=qn.mk hq;have HG:=qn.mk hg;clear hq hg))
      refine bodyPost_ret (v:=.tuple #[]) (by simp [results,Try.results85,go_sem]) rfl ⟨rfl,?_,(grown_of_below HBW.out _).trans HG.out,HB0.out.grown HG.out HB0.out.size (fun k hk=>by injection hk with hk;omega)⟩
      rw [List.drop_of_length_le (by have:=HI.out;omega)]
      exact HQ.out
  | d + 1,i,m,s,size,x,w,hi,hB,hP=>by
    have ih : ∀ (m s0 s1 s2 size x : Int) (w : World),Below w0.heap.size w0 w → w.heap[p]? = some (.cells #[.int .i64 x] 3 (0,0)) →
        Calls Try.prog 85 #[.agg #[.int .i64 n,.slice A L.length c],.int .i64 ((i : Int) + 1),.int .i64 m,.agg #[.int .i64 s0,.int .i64 s1,.int .i64 s2],.int .i64 size,.func (.func 86) #[] #[.pointer (some ⟨p,0,none⟩)]] w fun e w'=>e = .returned (.tuple #[]) ∧ w'.heap[p]? = some (.cells #[.int .i64 (evG (fun _ x=>wrap64 (x + 1)) (L.drop (i + 1)) m (s0,s1,s2) x)] 3 (0,0)) ∧ w.grownBy w' (some p) ∧ Below w0.heap.size w0 w' :=
      fun m s0 s1 s2 size x w=>every_count n A c L w0 hr hc hL hv p hp d (i + 1) m (s0,s1,s2) size x w (by omega)
    have hlt : i < L.length:=by omega
    have HIH:=qn.mk ih
    have HR:=qn.mk hr
    have HI:=qn.mk hi
    have HV:=qn.mk (hv _ (List.getElem_mem hlt))
    have HB:=qn.mk hB
    have HP:=qn.mk hP
    have HLT:=qn.mk hlt
    have hlen : ((i : Int) == (L.length : Int)) = false:=beq_eq_false_iff_ne.mpr (by omega)
    clear hr hi hv hB hP ih
    obtain ⟨s0,s1,s2⟩:=s
    go_enter Try.func85,Try.ntmps85
    go_upto_region 0 with (fail)
    go_cut [6,9] (fun v6 v9 wc=>∃ g6 g9 : Nat,v6 = .pointer (some ⟨g6,0,none⟩) ∧ v9 = .pointer (some ⟨g9,0,none⟩) ∧ qn (wc.heap[g6]? = some (.cells #[.int .i64 n,.slice A L.length c] 26 (0,0))) ∧ qn (wc.heap[g9]? = some (.cells #[.int .i64 s0,.int .i64 s1,.int .i64 s2] 72 (0,0))) ∧ qn (wc.heap[p]? = some (.cells #[.int .i64 x] 3 (0,0))) ∧ qn (Below w0.heap.size w0 wc) ∧ qn (Below w.heap.size w wc) ∧ qn (g6 ≠ p) ∧ qn (g9 ≠ p))
    case first =>
      go_wp2
      go_meet
      case rel=>exact ⟨w.heap.size,w.heap.size + 1,rfl,by first|rfl|simp,⟨qc (new_ w _) _⟩,⟨new2_ w _ _⟩,⟨qc (qc HP.out _) _⟩,⟨by repeat (first|(with_reducible first|exact HB.out|apply qf)|exact HB.out)⟩,⟨qf (qf (Below.refl _ _) _) _⟩,⟨by have:=blk_lt HP.out;omega⟩,⟨by have:=blk_lt HP.out;omega⟩⟩
    case rest =>
      obtain ⟨g6,g9,rfl,rfl,B6,B9,BP,HB0,HBW,N6,N9⟩:=hcut
      have c60 : wc.cell? ⟨g6,0,none⟩ = some (.int .i64 n):=(qh B6.out 0).trans rfl
      have c61 : wc.cell? ⟨g6,1,none⟩ = some (.slice A L.length c):=(qh B6.out 1).trans rfl
      have c90 : wc.cell? ⟨g9,0,none⟩ = some (.int .i64 s0):=(qh B9.out 0).trans rfl
      have c91 : wc.cell? ⟨g9,1,none⟩ = some (.int .i64 s1):=(qh B9.out 1).trans rfl
      have c92 : wc.cell? ⟨g9,2,none⟩ = some (.int .i64 s2):=(qh B9.out 2).trans rfl
      have hi1 : (i : Int) + 1 ≤ 2000000:=by omega
      go_upto_region 4 with (first|(go_at_call 85;(with_reducible refine (HIH.out m s0 s1 s2 size x _ ?h1 ?h2).mono ?_);(case h1=>exact HB0.out);(case h2=>exact BP.out);rintro e w2 ⟨rfl,hq,hg,hb⟩;have HQ:=qn.mk hq;have HG:=qn.mk hg;have HB2:=qn.mk hb;clear hq hg hb))
      have B62:=qn.mk (blk_grown B6.out HG.out (fun h=>N6.out (Option.some.inj h)))
      have B92:=qn.mk (blk_grown B9.out HG.out (fun h=>N9.out (Option.some.inj h)))
      have HG2:=qn.mk ((grown_of_below HBW.out (some p)).trans HG.out)
      clear B6 B9 HG BP HBW HB0 c60 c61 c90 c91 c92
      have c61 : w2.cell? ⟨g6,1,none⟩ = some (.slice A L.length c):=(qh B62.out 1).trans rfl
      obtain ⟨ad,eA,x0,x1,x2,x3,x4⟩:=at_T36 HR.out (i : Int) (Int.natCast_nonneg i) (by have:=HLT.out;omega)
      subst eA
      have hrd : rd_T36 L (i : Int) = L[i]'HLT.out:=by
        unfold rd_T36
        rw [Int.toNat_natCast,List.getD_eq_getElem?_getD,List.getElem?_eq_getElem HLT.out];rfl
      rw [hrd] at x0 x1 x2 x3 x4
      rw [Int.toNat_natCast] at x0 x1 x2 x3 x4
      obtain ⟨f,hf⟩ : ∃ f,f = L[i]'HLT.out:=⟨_,rfl⟩
      rw [← hf] at x0 x1 x2 x3 x4 HV
      have HF:=qn.mk hf
      clear hf hrd
      replace x0:=(HB2.out.cell (World.block_lt_of_cell? _ _ x0)).trans x0
      replace x1:=(HB2.out.cell (World.block_lt_of_cell? _ _ x1)).trans x1
      replace x2:=(HB2.out.cell (World.block_lt_of_cell? _ _ x2)).trans x2
      replace x3:=(HB2.out.cell (World.block_lt_of_cell? _ _ x3)).trans x3
      replace x4:=(HB2.out.cell (World.block_lt_of_cell? _ _ x4)).trans x4
      have hi0 : 0 ≤ (i : Int):=Int.natCast_nonneg i
      have hil : (i : Int) < (L.length : Int):=by have:=HLT.out;omega
      go_cut [12] (fun v12 wd=>∃ g12 : Nat,v12 = .pointer (some ⟨g12,0,none⟩) ∧ qn (wd.heap[g12]? = some (.cells #[.int .i64 f.f0,.int .i64 f.f1,.int .i64 f.f2,.int .i64 f.f3,.int .i64 f.f4] 36 (0,0))) ∧ qn (Below w2.heap.size w2 wd) ∧ qn (g12 ≠ p))
      case first =>
        go_wp2
        go_meet
        case rel=>exact ⟨w2.heap.size,rfl,⟨new_ w2 _⟩,⟨qf (Below.refl _ _) _⟩,⟨by have:=blk_lt HQ.out;omega⟩⟩
      case rest =>
        obtain ⟨g12,rfl,B12,HBd,N12⟩:=hcut
        have B6d:=qn.mk (ql B62.out HBd.out)
        have B9d:=qn.mk (ql B92.out HBd.out)
        have BPd:=qn.mk (ql HQ.out HBd.out)
        have HB0d:=qn.mk (qm HB2.out HBd.out)
        have HGd:=qn.mk (HG2.out.trans (grown_of_below HBd.out (some p)))
        clear c61 x0 x1 x2 x3 x4 B62 B92 HQ HB2 HG2
        have v0 : 0 ≤ f.f0:=HV.out.1
        have v1 : 0 ≤ f.f1:=HV.out.2
        have ce0 : wc.cell? ⟨g12,0,none⟩ = some (.int .i64 f.f0):=(qh B12.out 0).trans rfl
        have ce1 : wc.cell? ⟨g12,1,none⟩ = some (.int .i64 f.f1):=(qh B12.out 1).trans rfl
        have ce2 : wc.cell? ⟨g12,2,none⟩ = some (.int .i64 f.f2):=(qh B12.out 2).trans rfl
        have ce3 : wc.cell? ⟨g12,3,none⟩ = some (.int .i64 f.f3):=(qh B12.out 3).trans rfl
        have ce4 : wc.cell? ⟨g12,4,none⟩ = some (.int .i64 f.f4):=(qh B12.out 4).trans rfl
        go_upto_region 5 with (fail)
        go_quiet (fail)
        go_upto_region 6 with (fail)
        obtain ⟨mb,hmb⟩ : ∃ mb,bothM f = mb:=⟨_,rfl⟩
        have hmb' : Go.bits .or .i64 (wrap64 (2 ^ min f.f0.toNat 64)) (wrap64 (2 ^ min f.f1.toNat 64)) = mb:=hmb
        rw [hmb']
        have HMB:=qn.mk hmb
        clear hmb hmb'
        have c60 : wc.cell? ⟨g6,0,none⟩ = some (.int .i64 n):=(qh B6d.out 0).trans rfl
        have c61 : wc.cell? ⟨g6,1,none⟩ = some (.slice (some ad) L.length c):=(qh B6d.out 1).trans rfl
        have c90 : wc.cell? ⟨g9,0,none⟩ = some (.int .i64 s0):=(qh B9d.out 0).trans rfl
        have c91 : wc.cell? ⟨g9,1,none⟩ = some (.int .i64 s1):=(qh B9d.out 1).trans rfl
        have c92 : wc.cell? ⟨g9,2,none⟩ = some (.int .i64 s2):=(qh B9d.out 2).trans rfl
        by_cases cm : Go.bits .and .i64 m mb = 0
        · have cmb : (Go.bits .and .i64 m mb == 0) = true:=beq_iff_eq.mpr cm
          have CM:=qn.mk cm
          clear cm
          go_upto_region 7 with (fail)
          have hwi : IntKind.i64.wrap ((i : Int) + 1) = (i : Int) + 1:=by rw [i64_w];unfold wrap64;omega
          go_region_with (first
            | (go_at_call 91;(with_reducible refine (impl_Sums_plus.calls s0 s1 s2 f.f0 f.f1 f.f2 f.f3 f.f4 (wrap64 (s0 + f.f2)) (wrap64 (s1 + f.f3)) (wrap64 (s2 + f.f4)) _ rfl).mono ?_);rintro e w3 ⟨rfl,hb3⟩;have HB3:=qn.mk hb3;have c60' : w3.cell? ⟨g6,0,none⟩ = some (.int .i64 n):=(qh (ql B6d.out (qm (by repeat (first|apply qa|exact Below.refl _ _)) hb3)) 0).trans rfl;have c61' : w3.cell? ⟨g6,1,none⟩ = some (.slice (some ad) L.length c):=(qh (ql B6d.out (qm (by repeat (first|apply qa|exact Below.refl _ _)) hb3)) 1).trans rfl;clear hb3)
            | (go_at_call 85;(with_reducible refine (HIH.out (Go.bits .or .i64 m mb) (wrap64 (s0 + f.f2)) (wrap64 (s1 + f.f3)) (wrap64 (s2 + f.f4)) (IntKind.i64.wrap (size + 1)) (evG (fun _ x=>wrap64 (x + 1)) (L.drop (i + 1)) m (s0,s1,s2) x) _ ?h1 ?h2).mono ?_);(case h1=>exact qm (by repeat (first|(with_reducible first|exact HB0d.out|apply qa)|exact HB0d.out)) HB3.out);(case h2=>exact ql (by repeat (first|(with_reducible first|exact BPd.out|refine qb ?_ _)|exact BPd.out)) HB3.out);rintro e w4 ⟨rfl,hq,hg,hb⟩;have HQ4:=qn.mk hq;have HG4:=qn.mk hg;have HB4:=qn.mk hb;clear hq hg hb))
          all_goals (try go_wp2)
          all_goals go_end0
          all_goals (refine ⟨rfl,?_,HGd.out.trans ((grown_of_below (qm (by repeat (first|apply qa|exact Below.refl _ _)) HB3.out) _).trans HG4.out),HB4.out⟩;rw [List.drop_eq_getElem_cons HLT.out,← HF.out,evG,HMB.out,if_pos CM.out];exact HQ4.out)
        · have cmb : (Go.bits .and .i64 m mb == 0) = false:=beq_eq_false_iff_ne.mpr cm
          have CM:=qn.mk cm
          clear cm
          go_wp2_with (fail)
          go_end0
          refine ⟨rfl,?_,HGd.out.trans (grown_of_below (by repeat (first|apply qa|exact Below.refl _ _)) _),by repeat (first|(with_reducible first|exact HB0d.out|apply qa)|exact HB0d.out)⟩
          rw [List.drop_eq_getElem_cons HLT.out,← HF.out,evG,HMB.out,if_neg CM.out]
          exact qb BPd.out _

/-! ### impl_CountMatches: function 36 -/
def edgesNN (L : List S36) : Bool:=L.all fun e=>decide (0 ≤ e.f0) && decide (0 ≤ e.f1)
def impl_CountMatches.f (k : Nat) (a0_0 : Int) (l0_1 : List (S36)) : Option (Int):=(impl_GraphOk.f k a0_0 l0_1).bind fun t199=>(if t199 = true then (if edgesNN l0_1 = true then (if l0_1.length ≤ 2000000 then (some (evG (fun _ x=>wrap64 (x + 1)) l0_1 0 (0,0,0) 0)) else none) else none) else (some (-1)))
theorem impl_CountMatches.mono : ∀ a0 a1 k,LeO (impl_CountMatches.f k a0 a1) (impl_CountMatches.f (k + 1) a0 a1):=by
  intro a0 a1 k
  unfold impl_CountMatches.f
  exact LeO.bind (impl_GraphOk.mono _ _ _) (fun _=>LeO.refl _)
set_option maxHeartbeats 8000000 in
set_option maxRecDepth 100000 in
theorem impl_CountMatches.calls (k : Nat) (a0_0 : Int) (A0_1 : Option Addr) (c0_1 : Nat) (l0_1 : List (S36)) (r : Int) (w : World) (hr0_1 : Kd.C k36 w A0_1 l0_1.length l0_1) (hc0_1 : l0_1.length ≤ c0_1) (h : impl_CountMatches.f k a0_0 l0_1 = some r) :
    Calls Try.prog 36 #[.agg #[.int .i64 a0_0,.slice A0_1 l0_1.length c0_1]] w fun e w'=>e = .returned (.int .i64 r) ∧ Below w.heap.size w w':=by
  have hu26:=Try.underlying26
  have HR0_1:=qn.mk hr0_1
  have HC0_1:=qn.mk hc0_1
  clear hr0_1 hc0_1
  have HB:=qn.mk (Below.refl w.heap.size w)
  unfold impl_CountMatches.f at h
  replace h:=Option.bind_eq_some_iff.mp h
  obtain ⟨t199,A20,H⟩:=h
  have A2:=qn.mk A20
  clear A20
  by_cases c3 : t199 = true
  · subst c3
    rw [if_pos rfl] at H
    by_cases hnn : edgesNN l0_1 = true
    case neg=>rw [if_neg hnn] at H;cases H
    rw [if_pos hnn] at H
    by_cases hll : l0_1.length ≤ 2000000
    case neg=>rw [if_neg hll] at H;cases H
    rw [if_pos hll] at H
    have hv : ∀ e ∈ l0_1,0 ≤ e.f0 ∧ 0 ≤ e.f1:=fun e he=>by
      have:=(List.all_eq_true.1 hnn) e he
      rw [Bool.and_eq_true,decide_eq_true_eq,decide_eq_true_eq] at this
      exact this
    have HV:=qn.mk hv
    have HL:=qn.mk hll
    clear hv hll hnn
    replace H:=qn.mk (Option.some.inj H)
    go_enter Try.func36,Try.ntmps36
    go_upto_region 3 with (first|((with_reducible refine gate_dst (N:=1) rfl ?_);refine box_event ?hg (N:=1) ?hd (cs:=#[.int .i64 a0_0,.slice A0_1 l0_1.length c0_1]) (t:=26) ?hr ?_;(case hd=>rfl);(case hg=>rfl);(case hr=>first|(go_simp;done)|(go_simp;rfl));intro gb198 hg w4 hbox hb;have n0_:=hs_ HB hb;have n1_:=qn.mk (hbox);have n2_:=qn.mk ((by rw [hg];exact (qj (by repeat (first|(with_reducible first|exact HB.out|apply qf|apply qa|apply qd)|exact HB.out))) : w.heap.size ≤ gb198));have n3_:=qn.mk ((by rw [hg];exact (qj (by repeat (first|(with_reducible first|exact HB.out|apply qf|apply qa|apply qd)|exact HB.out))) : w.heap.size ≤ gb198));clear HB;have HB:=n0_;have BK198:=n1_;have GW198:=n2_;have GE198:=n3_;clear n0_ n1_ n2_ n3_;clear hb hbox hg;have hcz5_0 : w4.cell? ⟨gb198,0,none⟩ = some (.int .i64 a0_0):=(qh BK198.out 0).trans rfl;have hcz5_1 : w4.cell? ⟨gb198,1,none⟩ = some (.slice A0_1 l0_1.length c0_1):=(qh BK198.out 1).trans rfl;have hfz5_0:=qi BK198.out 0;have hfz5_1:=qi BK198.out 1)|((with_reducible refine gate_callee (f:=16) rfl ?_);refine goesL_ (some 5) rfl rfl Try.func16 (by kernel_rfl) rfl #[.agg #[.int .i64 a0_0,.slice A0_1 l0_1.length c0_1]] rfl (by (try simp only [List.map_toArray,List.map_cons,List.map_nil]);first|done|rfl|(simp only [List.length_drop,List.length_take];rfl)) ?_;(with_reducible refine (impl_GraphOk.calls k a0_0 _ _ l0_1 true _ ?side1 ?side2 A2.out).mono ?_);(case side1=>repeat (first|exact (Kd.C_below HR0_1.out HB.out)|(with_reducible refine Kd.C_alloc ?_ _)|(with_reducible refine Kd.C_drewN ?_ _)|(with_reducible refine Kd.C_drew ?_)));(case side2=>exact HC0_1.out);rintro e w6 ⟨rfl,hb⟩;refine ⟨_,rfl,?_⟩;have n0_:=bb_ BK198 hb;have n1_:=hs_ HB hb;clear BK198;clear HB;have BK198:=n0_;have HB:=n1_;clear n0_ n1_;(try clear hb);(try clear hb2);(try clear hk);(try clear hi)))
    go_cut [1,3] (fun v1 v3 wc=>∃ g1 p : Nat,v1 = .pointer (some ⟨g1,0,none⟩) ∧ v3 = .pointer (some ⟨p,0,none⟩) ∧ qn (wc.heap[g1]? = some (.cells #[.int .i64 a0_0,.slice A0_1 l0_1.length c0_1] 26 (0,0))) ∧ qn (wc.heap[p]? = some (.cells #[.int .i64 0] 3 (0,0))) ∧ qn (w6.heap.size ≤ p) ∧ qn (Below w6.heap.size w6 wc))
    case first =>
      go_wp2
      go_meet
      case rel=>exact ⟨gb198,w6.heap.size,rfl,rfl,⟨qc BK198.out _⟩,⟨new_ w6 _⟩,⟨Nat.le_refl _⟩,⟨qf (Below.refl _ _) _⟩⟩
    case rest =>
      obtain ⟨g1,p,rfl,rfl,B1,BP,NP,HB0⟩:=hcut
      have c10 : wc.cell? ⟨g1,0,none⟩ = some (.int .i64 a0_0):=(qh B1.out 0).trans rfl
      have c11 : wc.cell? ⟨g1,1,none⟩ = some (.slice A0_1 l0_1.length c0_1):=(qh B1.out 1).trans rfl
      have hev:=every_count a0_0 A0_1 c0_1 l0_1 w6 (Kd.C_below HR0_1.out HB.out) HC0_1.out HL.out HV.out p NP.out l0_1.length 0 0 (0,0,0) 0 0 wc (by omega) HB0.out BP.out
      have HEV : qn (Calls Try.prog 85 #[.agg #[.int .i64 a0_0,.slice A0_1 l0_1.length c0_1],.int .i64 0,.int .i64 0,.agg #[.int .i64 0,.int .i64 0,.int .i64 0],.int .i64 0,.func (.func 86) #[] #[.pointer (some ⟨p,0,none⟩)]] wc fun e w'=>e = .returned (.tuple #[]) ∧ w'.heap[p]? = some (.cells #[.int .i64 (evG (fun _ x=>wrap64 (x + 1)) l0_1 0 (0,0,0) 0)] 3 (0,0)) ∧ wc.grownBy w' (some p) ∧ Below w6.heap.size w6 w'):=⟨hev⟩
      clear hev
      go_upto_region 5 with (first|(go_at_call 85;(with_reducible refine HEV.out.mono ?_);rintro e w7 ⟨rfl,hq,hg,hb⟩;have HQ:=qn.mk hq;have HG:=qn.mk hg;have HB2:=qn.mk hb;clear hq hg hb))
      have cp : w7.cell? ⟨p,0,none⟩ = some (.int .i64 (evG (fun _ x=>wrap64 (x + 1)) l0_1 0 (0,0,0) 0)):=(qh HQ.out 0).trans rfl
      rw [H.out] at cp
      go_wp2
      go_ret
      exact ⟨rfl,qm HB.out HB2.out⟩
  · replace c3:=Bool.eq_false_iff.mpr c3
    subst c3
    have H1 : (some (-1)) = some r:=by rw [if_neg (show ¬ (false = true) by decide)] at H;exact H
    clear H
    obtain rfl:=Option.some.inj H1
    clear H1
    go_enter Try.func36,Try.ntmps36
    go_wp2_with (first|((with_reducible refine gate_dst (N:=1) rfl ?_);refine box_event ?hg (N:=1) ?hd (cs:=#[.int .i64 a0_0,.slice A0_1 l0_1.length c0_1]) (t:=26) ?hr ?_;(case hd=>rfl);(case hg=>rfl);(case hr=>first|(go_simp;done)|(go_simp;rfl));intro gb198 hg w7 hbox hb;have n0_:=hs_ HB hb;have n1_:=qn.mk (hbox);have n2_:=qn.mk ((by rw [hg];exact (qj (by repeat (first|(with_reducible first|exact HB.out|apply qf|apply qa|apply qd)|exact HB.out))) : w.heap.size ≤ gb198));have n3_:=qn.mk ((by rw [hg];exact (qj (by repeat (first|(with_reducible first|exact HB.out|apply qf|apply qa|apply qd)|exact HB.out))) : w.heap.size ≤ gb198));clear HB;have HB:=n0_;have BK198:=n1_;have GW198:=n2_;have GE198:=n3_;clear n0_ n1_ n2_ n3_;clear hb hbox hg;have hcz8_0 : w7.cell? ⟨gb198,0,none⟩ = some (.int .i64 a0_0):=(qh BK198.out 0).trans rfl;have hcz8_1 : w7.cell? ⟨gb198,1,none⟩ = some (.slice A0_1 l0_1.length c0_1):=(qh BK198.out 1).trans rfl;have hfz8_0:=qi BK198.out 0;have hfz8_1:=qi BK198.out 1)|((with_reducible refine gate_callee (f:=16) rfl ?_);refine goesL_ (some 5) rfl rfl Try.func16 (by kernel_rfl) rfl #[.agg #[.int .i64 a0_0,.slice A0_1 l0_1.length c0_1]] rfl (by (try simp only [List.map_toArray,List.map_cons,List.map_nil]);first|done|rfl|(simp only [List.length_drop,List.length_take];rfl)) ?_;(with_reducible refine (impl_GraphOk.calls k a0_0 _ _ l0_1 false _ ?side1 ?side2 A2.out).mono ?_);(case side1=>repeat (first|exact (Kd.C_below HR0_1.out HB.out)|(with_reducible refine Kd.C_alloc ?_ _)|(with_reducible refine Kd.C_drewN ?_ _)|(with_reducible refine Kd.C_drew ?_)));(case side2=>exact HC0_1.out);rintro e w9 ⟨rfl,hb⟩;refine ⟨_,rfl,?_⟩;have n0_:=bb_ BK198 hb;have n1_:=hs_ HB hb;clear BK198;clear HB;have BK198:=n0_;have HB:=n1_;clear n0_ n1_;(try clear hb);(try clear hb2);(try clear hk);(try clear hi)))
    go_ret
    exact ⟨by first|rfl|(simp [errW_none,errW_some] <;> rfl)|(simp [*,errW_none,errW_some] <;> rfl),by repeat (first|(with_reducible first|exact HB.out|apply qf|apply qa|apply qd|refine qg ?_ GE198.out)|exact HB.out)⟩

end Go.Proofs.Ytfmemcffbfahhaa.QFnExactCountMatches
