/- The reference's solver: l10Way, l10Without. -/
import Derived.Test.YtnffimpoekjkpaaZFnExactRoundsx53
import Derived.Test.YtnffimpoekjkpaaZFnExactRoundsx34
namespace Go.Proofs.Ytnffimpoekjkpaa.QFnExactRounds
open Go.RowKit Go.Proofs.YtnffimpoekjkpaaW.PrintWords Go.Proofs.YtnffimpoekjkpaaW.PrintLast Go.Proofs.YtnffimpoekjkpaaW.PrintMore
attribute [local go_sem] max2_int min2_int max_two min_two max_three min_three max_four min_four
set_option linter.unusedVariables false
set_option linter.unusedSimpArgs false
def wayS (nd : List S60) (ah : List S77) (rt : List Int) : Nat → Int → Option (List Int)
 | 0,_=>none
 | k + 1,n=>if inR n rt.length then if rd rt n = n then some [n] else if inR n ah.length ∧ inR (rd_T77 ah n).f0 nd.length then (wayS nd ah rt k (topI nd (rd_T77 ah n).f0)).map (n :: ·) else none else none
theorem wayS_cons {nd : List S60} {ah : List S77} {rt : List Int} {k : Nat} {n : Int} {l : List Int} (h : wayS nd ah rt k n = some l) : ∃ l',l = n :: l':=by
 obtain _|k:=k
 ·cases h
 rw [wayS] at h
 split at h
 ·split at h
  ·exact ⟨[],(Option.some.inj h).symm⟩
  split at h
  ·obtain ⟨l',_,e⟩:=Option.map_eq_some_iff.mp h
   exact ⟨l',e.symm⟩
  cases h
 cases h
theorem nil_R {α : Type} (d : Kd α) {W : World} {base z : Nat} {e : TypeId} {ok : Nat → Prop} (hb : base ≤ z) (h : W.heap[z]? = some (.cells #[] e (0,0))) (hk : ok z) : d.R e W base ok (.slice (some ⟨z,0,none⟩) 0 0) []:=by
 refine ⟨fun k e=>?_,[],⟨by simp,.inr ⟨z,0,_,rfl,hb,h,Nat.le_refl _,by decide,by simp,by simp⟩⟩,by simp,by simp⟩
 have : z = k:=by simpa [Value.ownBlock] using e
 subst this
 exact hk
theorem new_rowK {α : Type} {d : Kd α} {e : TypeId} {W W1 : World} {base : Nat} {v : Value} {l : List α} {col : Nat → Nat} (ho : d.R e W1 W.heap.size (fun _=>True) v l) (hb : base ≤ W.heap.size) (c : Nat) : d.R e W1 base (fun k=>(if W.heap.size ≤ k then c else col k) = c) v l :=
 Kd.R_lower (Kd.R_mono (Kd.R_bound ho) (by rintro k ⟨_,h1,_⟩;rw [if_pos h1])) hb
set_option maxHeartbeats 8000000 in
set_option maxRecDepth 100000 in
theorem l10Way_calls {w0 W : World} {Z : Nat → Prop} {wz : World} {g : Nat} {N : Int} {Ae : Option Addr} {ce : Nat} {es : List (S51)} {col : Nat → Nat} {vy vn vm : Value} {s : RI} (hS : Rn w0 W Z wz g N Ae ce es col vy vn vm s) {gt : Nat} {vl va vr : Value} {t : TI} (hT : Tp W w0.heap.size gt col vl va vr t) (hw : WFn (cvs s.nd)) (k : Nat) (hk : k ≤ 1000000) (n : Int) (l : List Int) (h : wayS (cvs s.nd) t.ah t.rt k n = some l) :
  Calls Try.prog 45 #[.pointer (some ⟨g,0,none⟩),.pointer (some ⟨gt,0,none⟩),.int .i64 n] W fun e w'=>∃ v,e = .returned v ∧ Kd.R (Kd.int .i64) 3 w' W.heap.size (fun _=>True) v l ∧ Below W.heap.size W w':=by
 have hu39:=Try.underlying39
 have hu55:=Try.underlying55
 have hu77:=Try.underlying77
 have hu51:=Try.underlying51
 have hu29:=Try.underlying29
 have HS:=qy.mk hS
 clear hS
 have hu35:=Try.underlying35
 have hu68:=Try.underlying68
 have HTP:=qy.mk hT
 have HW:=qy.mk hw
 have HT:=qy.mk h
 have HK:=qy.mk hk
 clear h hk hw hT
 obtain ⟨Aa,ca,e_⟩:=Kd.R_slice HTP.out.ra
 subst e_
 obtain ⟨Ar,cr,e_⟩:=Kd.R_slice HTP.out.rr
 subst e_
 go_enter Try.func45,Try.ntmps45
 go_upto_region 2 with fail
 have BX1 : qy ((W.alloc (.cells #[.int .i64 n] 3)).heap[W.heap.size]? = some (.cells #[.int .i64 n] 3 (0,0))):=⟨blk_new W _⟩
 have HB1 : qy (Below W.heap.size W (W.alloc (.cells #[.int .i64 n] 3))):=⟨qo (Below.refl _ _) _⟩
 generalize W.alloc (.cells #[.int .i64 n] 3) = W1 at *
 have HR0 : qy (Kd.R (Kd.int .i64) 3 W1 W.heap.size (fun _=>True) (.slice (some ⟨W.heap.size,0,none⟩) 1 1) [n]):=⟨one_R (Nat.le_refl _) BX1.out trivial⟩
 obtain ⟨l',hl'⟩:=wayS_cons HT.out
 go_wp2_with fail
 go_loopg [2,7] k (fun kq v2 v7 w'=>∃ (n : Int) (acc rest : List Int),v2 = .int .i64 n ∧ qy (Kd.R (Kd.int .i64) 3 w' W.heap.size (fun _=>True) v7 acc) ∧ qy (wayS (cvs s.nd) t.ah t.rt kq n = some (n :: rest)) ∧ qy (acc ++ rest = l ∧ acc.length + kq = k + 1) ∧ qy (Below W.heap.size W w'))
 case atStart=>exact ⟨n,[n],l',rfl,HR0,⟨by rw [HT.out,hl']⟩,⟨by rw [hl'];rfl,by simp;omega⟩,HB1⟩
 clear HT HR0 HB1 BX1
 obtain ⟨n,acc,rest,rfl,HO,HT,HL,HB⟩:=hrel
 have HS1:=qy.mk (HS.out.to HB.out)
 have HTP1:=qy.mk (HTP.out.to HB.out)
 have hct:=HTP1.out.cells
 have h:=HT.out
 clear HT
 obtain _|k1:=gk
 ·cases h
 rw [wayS] at h
 by_cases c : inR n t.rt.length
 ·rw [if_pos c] at h
  obtain ⟨p,q⟩:=c
  obtain ⟨adr,e_,hxr⟩:=Kd.at_int (Kd.R_reads' HTP1.out.rr).2.2 n p q
  subst e_
  replace p:=eq_true p
  replace q:=eq_true q
  by_cases cn : rd t.rt n = n
  ·rw [if_pos cn] at h
   have hr : rest = []:=by injection h with h;injection h with _ h;exact h.symm
   have cb : (rd t.rt n != n) = false:=by simpa using cn
   have hl:=HL.out.1
   rw [hr,List.append_nil] at hl
   subst hl
   clear cn h
   go_wp2_with fail
   go_ret
   exact ⟨_,rfl,HO.out,HB.out⟩
  rw [if_neg cn] at h
  have cb : (rd t.rt n != n) = true:=by simpa using cn
  clear cn
  by_cases c2 : inR n t.ah.length ∧ inR (rd_T77 t.ah n).f0 (cvs s.nd).length
  ·rw [if_pos c2] at h
   obtain ⟨l1,h1,h2⟩:=Option.map_eq_some_iff.mp h
   obtain rfl : l1 = rest:=by injection h2
   obtain ⟨⟨p2,q2⟩,hin⟩:=c2
   have HIN : qy (inR (rd_T77 t.ah n).f0 s.nd.length):=⟨by rw [← cvs_len];exact hin⟩
   obtain ⟨ada,e_,hxa,-⟩:=at_T77 (Kd.R_reads' HTP1.out.ra).2.2 n p2 q2
   subst e_
   replace p2:=eq_true p2
   replace q2:=eq_true q2
   obtain ⟨l2,hl2⟩:=wayS_cons h1
   obtain ⟨m,hm⟩ : ∃ m,topI (cvs s.nd) (rd_T77 t.ah n).f0 = m:=⟨_,rfl⟩
   have HTQ:=qy.mk (l10Top_is HS1.out (rd_T77 t.ah n).f0 HW.out HIN.out)
   rw [hm] at h1 hl2 HTQ
   have HT:=qy.mk h1
   have HL2:=qy.mk hl2
   clear h h1 h2 hin hl2 hm
   go_wp2_with (first|(go_at_call 28;refine HTQ.out.mono ?_;rintro e_ w2 ⟨rfl,h2⟩;replace h2:=h2.symm;subst h2)|((with_reducible refine gate_builtin (b:=.append) (xs:=#[.tmp 29,.tmp 31]) rfl ?_);at_builtin;refine Kd.R_append (Kd.int .i64) (w0:=W) W.heap.size rfl (.tmp 29) (.tmp 31) 35 3 (.int .i64 0) 8 rfl Try.underlying35 info3 rfl (by decide) (by omega) u7 acc m [.int .i64 m] (fun _=>True) (fun _=>False) rfl rfl ?aP (fun _ hk=>hk.elim) ?aF ?aO ?aB ?aS ?aL ?_;(case aP=>exact rfl);(case aF=>exact (fun _ _=>trivial));(case aO=>exact (by (with_reducible repeat (first|apply Kd.R_alloc|apply Kd.R_drewN|apply Kd.R_drew));exact HO.out));(case aB=>exact (by repeat (first|exact HB.out|apply qo|apply qd|apply qh)));(case aS=>exact qu (by repeat (first|exact HB.out|apply qo|apply qd|apply qh)));(case aL=>have:=HL.out.2;have:=HK.out;omega);intro v7 w7 ho hb hg hat;clear HO HB;have HO:=qy.mk ho;have HB:=qy.mk hb;clear ho hb hg hat))
   go_roundg k1
   case measure=>omega
   case rel=>exact ⟨m,_,l2,rfl,HO,⟨by rw [HT.out,HL2.out]⟩,⟨by have:=HL.out.1;rw [HL2.out] at this;rw [List.append_assoc];exact this,by have:=HL.out.2;rw [List.length_append,List.length_singleton];omega⟩,HB⟩
  rw [if_neg c2] at h
  cases h
 rw [if_neg c] at h
 cases h
end Go.Proofs.Ytnffimpoekjkpaa.QFnExactRounds
