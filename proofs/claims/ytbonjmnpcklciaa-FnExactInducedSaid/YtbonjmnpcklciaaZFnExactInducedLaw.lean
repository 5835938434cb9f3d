/- The row of the law FnExactInduced, out of its pure statement and the printed contract: for every input that can be read, under no condition. -/
import Derived.Test.YtbonjmnpcklciaaRows
import Derived.Test.YtbonjmnpcklciaaZFnExactInducedx8
import Derived.Test.YtbonjmnpcklciaaZFnExactInducedPure
import Derived.Test.YtbonjmnpcklciaaZFnExactInducedRd
import Derived.WalkKit
import Derived.ProofKit
import Derived.OpenShut
import Derived.ShutString
import Derived.ChangeOld
import Derived.Below
import Derived.SizedLaws
import Derived.Carry
namespace Go.Proofs.Ytbonjmnpcklciaa.fnExactInduced
open Go.ChangeShapes Go.WideShapes Go.ChangeAt Go.RowKit Go.Proofs.Ytbonjmnpcklciaa.Rd Go.Proofs.Ytbonjmnpcklciaa.QFnExactInduced Go.Proofs.YtbonjmnpcklciaaW.PrintWords
open Go.ChangeMaps (open_string shut_string)
set_option linter.unusedVariables false
theorem own : ownKnob Try.prog.godebug = none:=by kernel_rfl
theorem laidOut : laidOutB Try.prog = true:=by kernel_rfl
instance inh187 : Inhabited S187:=⟨z187⟩
set_option maxRecDepth 100000 in
set_option maxHeartbeats 2000000 in
theorem lifted (os : Os) (started : os.Started) (H : Type) (enc : TypeId × Value → H) :
    ReturnsInHanded {} Try.checked os 8 .any (Rows.fnExactInducedSpec.pre6 enc Try.prog Try.f8 Rows.fnExactInducedRow.domain false) (Rows.fnExactInducedSpec.post enc Try.prog Try.f8 false true false false):=by
  refine returnsInHanded_of_change_sized (C:=Try.checked) own started (by kernel_rfl) Try.func8
    (ChangeSpec.witness6 (enc:=enc) (C:=Try.checked) false ⟨#[],#[.agg #[.int .i64 0,.slice none 0 0],.slice none 0 0],[]⟩ 8 (by kernel_rfl) (by kernel_rfl) (by kernel_rfl) (by kernel_rfl)) ?_
  intro W base args ds gs before hval0 hW hcnd hsz0 _
  have hsz : (DataW.weightsEach Try.prog (Try.f8.params.toList ++ Rows.fnExactInducedSpec.plain.varTypes Try.prog) (ds ++ gs)).all (· ≤ reachBytes) = true:=hsz0
  have hval : ∀ (j : Nat) t v,Try.f8.params[j]? = some t → args[j]? = some v → Value.okWide Try.prog W .any base t v:=hval0
  have hW':=hW
  obtain ⟨p,q,hA0,hV,rfl,hfz,hnd⟩:=hW
  have hA : DataW.TrodAll enc Try.prog W 0 (fun _=>true) true Try.f8.params.toList args.toList ds p:=hA0
  rw [Try.params8] at hA hval hsz
  obtain ⟨v0,vs0,d0,ds0,p0,q0,hargs,rfl,rfl,h0,r0⟩:=trodAll_cons hA
  obtain ⟨v1,vs1,d1,ds1,p1,q1,rfl,rfl,rfl,h1,r1⟩:=trodAll_cons r0
  obtain ⟨rfl,rfl,rfl⟩:=trodAll_nil r1
  obtain rfl : args = #[v0,v1]:=by cases args;simp_all
  obtain ⟨rfl,rfl⟩:=trodVars_none hV
  have k0:=h0
  have lt0 : ∀ x ∈ p0,x.block < W.heap.size:=by obtain ⟨m,hm⟩:=k0;exact DataW.trod_lt m _ _ _ hm
  obtain ⟨⟨a0_0,l0_1⟩,cs0,rfl,⟨_,_,rfl,rfl,⟨A0_1,c0_1,rfl,hc0_1,hr0_1⟩⟩,⟨o0_0,o0_1⟩⟩:=rd_val Try.underlying49 (rd_struct Try.underlying49 (rds_cons (by kernel_rfl) (rd_int Try.underlying3) (rds_one (by kernel_rfl) (by kernel_rfl) (rd_slice Try.underlying47 (by kernel_rfl) (rd_iso (rd_struct Try.underlying187 (rds_cons (by kernel_rfl) (rd_int Try.underlying3) (rds_cons (by kernel_rfl) (rd_int Try.underlying3) (rds_cons (by kernel_rfl) (rd_int Try.underlying3) (rds_cons (by kernel_rfl) (rd_int Try.underlying3) (rds_one (by kernel_rfl) (by kernel_rfl) (rd_int Try.underlying3))))))) (fun x : S187=>(x.f0,x.f1,x.f2,x.f3,x.f4)) (fun p=>⟨p.1,p.2.1,p.2.2.1,p.2.2.2.1,p.2.2.2.2⟩) (fun _=>rfl)))))) (hval 0 49 v0 rfl rfl) h0
  have k1:=h1
  have lt1 : ∀ x ∈ p1,x.block < W.heap.size:=by obtain ⟨m,hm⟩:=k1;exact DataW.trod_lt m _ _ _ hm
  obtain ⟨l1,A1,c1,rfl,hc1,hr1,o1⟩:=rd_row Try.underlying43 (rd_slice Try.underlying43 (by kernel_rfl) (rd_int Try.underlying3)) (hval 1 43 v1 rfl rfl) h1
  clear hA0 hval0 hsz0 hsz
  obtain ⟨k,hk⟩:=Pure.FnExactInduced a0_0 l0_1 l1 o0_0 o0_1 o1
  refine (Go.Proofs.Ytbonjmnpcklciaa.QFnExactInduced.laws_FnExactInduced.calls (w:=W) (h:=hk) (hr0_1:=hr0_1) (hc0_1:=hc0_1) (hr1:=hr1) (hc1:=hc1)).mono fun e W' ⟨he,bel0⟩=>?_
  have bel : Below W.heap.size W W':=bel0
  subst he
  exact ⟨_,rfl,_,_,_,[],_,[],hW',trodAll_mk1 (shut_bool Try.underlying4 _),(trodAll_cons_mk (Below.trod laidOut (by kernel_rfl) (of_decide_eq_true (by kernel_rfl)) k0 bel lt0) (trodAll_cons_mk (Below.trod laidOut (by kernel_rfl) (of_decide_eq_true (by kernel_rfl)) k1 bel lt1) trodAll_mk0)),rfl,bel.frame _,fun h=>by cases h⟩
theorem over : Rows.fnExactInducedRow.holds Try.pinned (OpenSpec.ofChange Rows.fnExactInducedSpec) :=
  OpenClaim.holds_of_wide 8 Try.f8 rfl rfl rfl rfl rfl rfl rfl ⟨rfl,rfl,rfl,rfl,rfl⟩ rfl rfl rfl rfl rfl (by kernel_rfl) Try.func8 (by kernel_rfl)
    (of_decide_eq_true (by kernel_rfl)) (by unfold Func.isWrapper;first|(rw [if_pos (by decide +kernel)];kernel_rfl)|(rw [if_neg (by decide +kernel)];exact ⟨rfl,rfl⟩))
    (fun os started H enc _=>lifted os started H enc)
theorem proved : Rows.FnExactInducedSaid:=over
#print axioms proved
end Go.Proofs.Ytbonjmnpcklciaa.fnExactInduced
namespace Go.Proofs.Ytbonjmnpcklciaa
/-- The row, under a short name, for the claim. -/
theorem fnExactInduced_holds : Rows.FnExactInducedSaid:=fnExactInduced.proved
end Go.Proofs.Ytbonjmnpcklciaa
