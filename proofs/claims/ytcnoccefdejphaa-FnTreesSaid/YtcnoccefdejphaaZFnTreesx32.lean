/- impl.ReadTree walked by hand, where nothing is wrong. -/
import Derived.Test.YtcnoccefdejphaaZFnTreesx2
import Derived.Test.YtcnoccefdejphaaZFnTreesx31
namespace Go.Proofs.Ytcnoccefdejphaa.QFnTrees
open Go.RowKit Go.Proofs.YtcnoccefdejphaaW.PrintWords Go.Proofs.YtcnoccefdejphaaW.PrintLast Go.Proofs.YtcnoccefdejphaaW.PrintMore
attribute [local go_sem] max2_int min2_int max_two min_two max_three min_three max_four min_four
set_option linter.unusedVariables false
set_option linter.unusedSimpArgs false
noncomputable def impl_rtree.f (S : List ByteArray) (P : List (S96)) (root : Int) : Option (List (S69) × List Int) :=
 (lim fun k=>impl_DeviceOk.f k S P).bind fun a=>if a = true then if root = -1 then some ([],[]) else
  (impl_walk.page S P 13 1 root ⟨#[]⟩ ([],[],0,0)).bind fun s=>(lim fun k=>impl_MapOk.f k s.1).bind fun b=>if b = true then some (s.1,s.2.1) else none
 else none
theorem box2 {W : World} {g : Nat} {a b : Value} {t : TypeId} (h : W.heap[g]? = some (.cells #[a,b] t (0,0))) : W.cell? ⟨g,0,none⟩ = some a ∧ W.cell? ⟨g,1,none⟩ = some b ∧ W.frozen? ⟨g,0,none⟩ = false ∧ W.frozen? ⟨g,1,none⟩ = false :=
 ⟨(qh h 0).trans rfl,(qh h 1).trans rfl,qj h 0,qj h 1⟩
/-- What ReadTree answers: a map and its sectors, rows of its own. -/
def RetT (w : World) (m : List (S69)) (u : List Int) (e : Ending) (w' : World) : Prop:=∃ v1 v2 : Value,e = .returned (.tuple #[v1,v2,.bool true]) ∧ Kd.R k69 69 w' w.heap.size (fun _=>True) v1 m ∧ Kd.R (Kd.int .i64) 3 w' w.heap.size (fun _=>True) v2 u ∧ Below w.heap.size w w'
set_option maxHeartbeats 16000000 in
set_option maxRecDepth 100000 in
theorem impl_rtree.calls (A0 : Option Addr) (c0 : Nat) (S : List ByteArray) (A1 : Option Addr) (c1 : Nat) (P : List (S96)) (root : Int) (m : List (S69)) (u : List Int) (w : World)
  (hS : Kd.C Kd.string w A0 S.length S) (hS' : S.length ≤ c0) (hP : Kd.C k96 w A1 P.length P) (hP' : P.length ≤ c1) (h : impl_rtree.f S P root = some (m,u)) :
  Calls Try.prog 25 #[.agg #[.slice A0 S.length c0,.slice A1 P.length c1],.int .i64 root] w (RetT w m u):=by
 have hu32:=Try.underlying32
 have hu99:=Try.underlying99
 have HS:=qo.mk hS
 have HS':=qo.mk hS'
 have HP:=qo.mk hP
 have HP':=qo.mk hP'
 clear hS hS' hP hP'
 unfold impl_rtree.f at h
 replace h:=Option.bind_eq_some_iff.mp h
 obtain ⟨a,ha0,h⟩:=h
 obtain ⟨ka,ha⟩:=(lim_ev ha0).rounds
 clear ha0
 by_cases ca : a = true
 ·subst ca
  rw [if_pos rfl] at h
  have HA:=qo.mk ha
  clear ha
  have h':=qo.mk h
  clear h
  go_enter Try.func25,Try.ntmps25
  go_upto_region 1 with fail
  generalize hW : w.alloc _ = w1
  have hb : Below w.heap.size w w1:=by rw [← hW];exact qf (Below.refl _ _) _
  have hbx : w1.heap[w.heap.size]? = some (.cells #[.slice A0 S.length c0,.slice A1 P.length c1] 32 (0,0)):=by rw [← hW];exact heap_alloc_new _ _
  obtain ⟨gd,hgd⟩ : ∃ x,x = w.heap.size:=⟨_,rfl⟩
  rw [← hgd] at hbx
  rw [← hgd]
  have HB:=qo.mk hb
  have HX:=qo.mk hbx
  clear hW hb hbx hgd
  have hx:=box2 HX.out
  have h:=h'.out
  by_cases cr : root = -1
  ·rw [if_pos cr] at h
   obtain ⟨rfl,rfl⟩ : [] = m ∧ [] = u:=by simpa using h
   have crb : (root == -1) = true:=beq_iff_eq.2 cr
   clear h h' cr
   go_wp2_with (first|(go_at_call 40;(with_reducible refine (impl_DeviceOk.calls ka _ _ S _ _ P true _ ?s1 HS'.out ?s2 HP'.out HA.out).mono ?_);(case s1=>exact Kd.C_below HS.out HB.out);(case s2=>exact Kd.C_below HP.out HB.out);rintro e w2 ⟨rfl,hb⟩;replace HB:=qo.mk (qn HB.out hb);replace HX:=qo.mk (qm HX.out hb);clear hb hx;have hx:=box2 HX.out))
   go_ret3
   exact ⟨_,_,rfl,Kd.R_nil _ _ _ _ _,Kd.R_nil _ _ _ _ _,HB.out⟩
  rw [if_neg cr] at h
  have crb : (root == -1) = false:=beq_eq_false_iff_ne.2 cr
  replace h:=Option.bind_eq_some_iff.mp h
  obtain ⟨s,hpg,h⟩:=h
  replace h:=Option.bind_eq_some_iff.mp h
  obtain ⟨b,hm0,h⟩:=h
  obtain ⟨kb,hm⟩:=(lim_ev hm0).rounds
  clear hm0
  by_cases cb : b = true
  ·subst cb
   rw [if_pos rfl] at h
   obtain ⟨rfl,rfl⟩ : s.1 = m ∧ s.2.1 = u:=by simpa using h
   have HPG:=qo.mk hpg
   have HM:=qo.mk hm
   clear h h' cr hpg hm
   go_upto_region 6 with (first|(go_at_call 40;(with_reducible refine (impl_DeviceOk.calls ka _ _ S _ _ P true _ ?s1 HS'.out ?s2 HP'.out HA.out).mono ?_);(case s1=>exact Kd.C_below HS.out HB.out);(case s2=>exact Kd.C_below HP.out HB.out);rintro e w2 ⟨rfl,hb⟩;replace HB:=qo.mk (qn HB.out hb);replace HX:=qo.mk (qm HX.out hb);clear hb hx;have hx:=box2 HX.out))
   generalize hW : w2.alloc _ = w5
   have hb : Below w2.heap.size w2 w5:=by rw [← hW];exact qf (Below.refl _ _) _
   have hbx : w5.heap[w2.heap.size]? = some (.cells #[.slice A0 S.length c0,.slice A1 P.length c1,.slice none 0 0,.slice none 0 0,.int .i64 0,.int .i64 0] 99 (0,0)):=by rw [← hW];exact heap_alloc_new _ _
   generalize hG : w2.heap.size = g
   rw [hG] at hbx
   have HW : qo (StW w w5 g (.slice A0 S.length c0) (.slice A1 P.length c1) (.slice none 0 0) (.slice none 0 0) [] [] 0 0):=⟨⟨hbx,by rw [← hG];exact qk HB.out,qn HB.out hb,Kd.R_nil _ _ _ _ _,Kd.R_nil _ _ _ _ _⟩⟩
   clear hW hb hbx hG HB HX hx
   have hc:=HW.out.cells
   go_upto_region 8 with (first|(go_at_call 59;(with_reducible refine (impl_walk.calls A0 c0 S A1 c1 P w g HS.out HS'.out HP.out HP'.out 13 1 root ⟨#[]⟩ _ _ _ _ _ _ s w5 HW.out HPG.out).mono ?_);rintro e w6 ⟨rfl,⟨vm,vu,hs⟩,hk⟩;clear HW hc hk;obtain ⟨Am,cm,e_⟩:=Kd.R_slice hs.rm;subst e_;obtain ⟨Au,cu,e_⟩:=Kd.R_slice hs.ru;subst e_;have HW:=qo.mk hs;clear hs;have hc:=HW.out.cells)|(go_at_call 41;(with_reducible refine (impl_MapOk.calls kb _ _ s.1 true _ ?s1 (Kd.R_reads' HW.out.rm).2.1 HM.out).mono ?_);(case s1=>exact (Kd.R_reads' HW.out.rm).2.2);rintro e w7 ⟨rfl,hb⟩;replace HW:=qo.mk (HW.out.to hb);clear hc hb;have hc:=HW.out.cells))
   replace HW:=qo.mk (HW.out.to (below_drew (Below.refl _ _)));clear hc
   refine start_ (n:=11) (S:=fun w'=>w'.cell? ⟨g,2,none⟩ = some (.slice Am s.1.length cm) ∧ w'.cell? ⟨g,3,none⟩ = some (.slice Au s.2.1.length cu)) (ds:=[]) (Array.replicate 11 false) (by kernel_rfl) rfl rfl ⟨(qh HW.out.blk 2).trans rfl,(qh HW.out.blk 3).trans rfl⟩ (fun hHeld=>?_)
   refine pa_ 0 28 (bz_ 11 1) ?_
   refine pa_ 1 29 (bz_ 11 3) ?_
   refine pa_ 2 30 (bz_ 11 7) ?_
   refine pa_ 4 32 (bz_ 11 23) ?_
   refine pa_ 5 33 (bz_ 11 55) ?_
   refine pa_ 6 34 (bz_ 11 119) ?_
   refine ta_ 3 31 (bz_ 11 127) hHeld (hy:=Or.inl ⟨by rfl,by rintro w' ⟨s0,s1⟩;go_simp;with_reducible rfl⟩) (h:=?_)
   refine pa_ 8 4 (bz_ 11 383) ?_
   refine ta_ 7 35 (bz_ 11 511) hHeld (hy:=Or.inl ⟨by rfl,by rintro w' ⟨s0,s1⟩;go_simp;with_reducible rfl⟩) (h:=?_)
   refine pa_ 9 5 (bz_ 11 1023) ?_
   refine pa_ 10 6 (bz_ 11 2047) ?_
   refine done_ (by kernel_rfl) ?_
   go_wp2
   go_ret3
   exact ⟨_,_,rfl,HW.out.rm,HW.out.ru,HW.out.hb⟩
  rw [if_neg cb] at h
  cases h
 rw [if_neg ca] at h
 cases h
end Go.Proofs.Ytcnoccefdejphaa.QFnTrees
