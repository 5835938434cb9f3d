/- The row of the law FnExactProofOk, out of its pure statement and the printed contract: for every input that can be read, under no condition. -/
import Derived.Test.YtcdofljgeiohgaaRows
import Derived.Test.YtcdofljgeiohgaaZFnExactProofOkx13
import Derived.Test.YtcdofljgeiohgaaZFnExactProofOkPure
import Derived.Test.YtcdofljgeiohgaaZFnExactProofOkRd
import Derived.WalkKit
import Derived.ProofKit
import Derived.OpenShut
import Derived.ShutString
import Derived.ChangeOld
import Derived.Below
import Derived.SizedLaws
import Derived.Carry
namespace Go.Proofs.Ytcdofljgeiohgaa.fnExactProofOk
open Go.ChangeShapes Go.WideShapes Go.ChangeAt Go.RowKit Go.Proofs.Ytcdofljgeiohgaa.Rd Go.Proofs.Ytcdofljgeiohgaa.QFnExactProofOk Go.Proofs.YtcdofljgeiohgaaW.PrintWords
open Go.ChangeMaps (open_string shut_string)
set_option linter.unusedVariables false
theorem own : ownKnob Try.prog.godebug = none:=by kernel_rfl
theorem laidOut : laidOutB Try.prog = true:=by kernel_rfl
instance inh129 : Inhabited S129:=⟨z129⟩
instance inh124 : Inhabited S124:=⟨z124⟩
set_option maxRecDepth 100000 in
set_option maxHeartbeats 2000000 in
theorem lifted (os : Os) (started : os.Started) (H : Type) (enc : TypeId × Value → H) :
    ReturnsInHanded {} Try.checked os 5 .any (Rows.fnExactProofOkSpec.pre6 enc Try.prog Try.f5 Rows.fnExactProofOkRow.domain false) (Rows.fnExactProofOkSpec.post enc Try.prog Try.f5 false true false false):=by
  refine returnsInHanded_of_change_sized (C:=Try.checked) own started (by kernel_rfl) Try.func5
    (ChangeSpec.witness6 (enc:=enc) (C:=Try.checked) false ⟨#[],#[.agg #[.int .i64 0,.slice none 0 0],.agg #[.slice none 0 0,.slice none 0 0]],[]⟩ 8 (by kernel_rfl) (by kernel_rfl) (by kernel_rfl) (by kernel_rfl)) ?_
  intro W base args ds gs before hval0 hW hcnd hsz0 _
  have hsz : (DataW.weightsEach Try.prog (Try.f5.params.toList ++ Rows.fnExactProofOkSpec.plain.varTypes Try.prog) (ds ++ gs)).all (· ≤ reachBytes) = true:=hsz0
  have hval : ∀ (j : Nat) t v,Try.f5.params[j]? = some t → args[j]? = some v → Value.okWide Try.prog W .any base t v:=hval0
  have hW':=hW
  obtain ⟨p,q,hA0,hV,rfl,hfz,hnd⟩:=hW
  have hA : DataW.TrodAll enc Try.prog W 0 (fun _=>true) true Try.f5.params.toList args.toList ds p:=hA0
  rw [Try.params5] at hA hval hsz
  obtain ⟨v0,vs0,d0,ds0,p0,q0,hargs,rfl,rfl,h0,r0⟩:=trodAll_cons hA
  obtain ⟨v1,vs1,d1,ds1,p1,q1,rfl,rfl,rfl,h1,r1⟩:=trodAll_cons r0
  obtain ⟨rfl,rfl,rfl⟩:=trodAll_nil r1
  obtain rfl : args = #[v0,v1]:=by cases args;simp_all
  obtain ⟨rfl,rfl⟩:=trodVars_none hV
  have k0:=h0
  have lt0 : ∀ x ∈ p0,x.block < W.heap.size:=by obtain ⟨m,hm⟩:=k0;exact DataW.trod_lt m _ _ _ hm
  obtain ⟨⟨a0_0,l0_1⟩,cs0,rfl,⟨_,_,rfl,rfl,⟨A0_1,c0_1,rfl,hc0_1,hr0_1⟩⟩,⟨o0_0,o0_1⟩⟩:=rd_val Try.underlying52 (rd_struct Try.underlying52 (rds_cons (by kernel_rfl) (rd_int Try.underlying3) (rds_one (by kernel_rfl) (by kernel_rfl) (rd_slice Try.underlying50 (by kernel_rfl) (rd_iso (rd_struct Try.underlying129 (rds_cons (by kernel_rfl) (rd_int Try.underlying3) (rds_cons (by kernel_rfl) (rd_int Try.underlying3) (rds_cons (by kernel_rfl) (rd_int Try.underlying3) (rds_cons (by kernel_rfl) (rd_int Try.underlying3) (rds_one (by kernel_rfl) (by kernel_rfl) (rd_int Try.underlying3))))))) (fun x : S129=>(x.f0,x.f1,x.f2,x.f3,x.f4)) (fun p=>⟨p.1,p.2.1,p.2.2.1,p.2.2.2.1,p.2.2.2.2⟩) (fun _=>rfl)))))) (hval 0 52 v0 rfl rfl) h0
  have k1:=h1
  have lt1 : ∀ x ∈ p1,x.block < W.heap.size:=by obtain ⟨m,hm⟩:=k1;exact DataW.trod_lt m _ _ _ hm
  obtain ⟨⟨l1_0,l1_1⟩,cs1,rfl,⟨_,_,rfl,⟨A1_0,c1_0,rfl,hc1_0,hr1_0⟩,⟨A1_1,c1_1,rfl,hc1_1,hr1_1⟩⟩,⟨o1_0,o1_1⟩⟩:=rd_val Try.underlying55 (rd_struct Try.underlying55 (rds_cons (by kernel_rfl) (rd_slice Try.underlying31 (by kernel_rfl) (rd_int Try.underlying3)) (rds_one (by kernel_rfl) (by kernel_rfl) (rd_slice Try.underlying53 (by kernel_rfl) (rd_iso (rd_struct Try.underlying124 (rds_cons (by kernel_rfl) (rd_slice Try.underlying31 (by kernel_rfl) (rd_int Try.underlying3)) (rds_one (by kernel_rfl) (by kernel_rfl) (rd_int Try.underlying3)))) (fun x : S124=>(x.f0,x.f1)) (fun p=>⟨p.1,p.2⟩) (fun _=>rfl)))))) (hval 1 55 v1 rfl rfl) h1
  clear hA0 hval0 hsz0 hsz
  obtain ⟨k,hk⟩:=Pure.FnExactProofOk a0_0 l0_1 l1_0 l1_1 o0_0 o0_1 o1_0 o1_1
  refine (Go.Proofs.Ytcdofljgeiohgaa.QFnExactProofOk.laws_FnExactProofOk.calls (w:=W) (h:=hk) (hr0_1:=hr0_1) (hc0_1:=hc0_1) (hr1_0:=hr1_0) (hc1_0:=hc1_0) (hr1_1:=hr1_1) (hc1_1:=hc1_1)).mono fun e W' ⟨he,bel0⟩=>?_
  have bel : Below W.heap.size W W':=bel0
  subst he
  exact ⟨_,rfl,_,_,_,[],_,[],hW',trodAll_mk1 (shut_bool Try.underlying4 _),(trodAll_cons_mk (Below.trod laidOut (by kernel_rfl) (of_decide_eq_true (by kernel_rfl)) k0 bel lt0) (trodAll_cons_mk (Below.trod laidOut (by kernel_rfl) (of_decide_eq_true (by kernel_rfl)) k1 bel lt1) trodAll_mk0)),rfl,bel.frame _,fun h=>by cases h⟩
theorem over : Rows.fnExactProofOkRow.holds Try.pinned (OpenSpec.ofChange Rows.fnExactProofOkSpec) :=
  OpenClaim.holds_of_wide 5 Try.f5 rfl rfl rfl rfl rfl rfl rfl ⟨rfl,rfl,rfl,rfl,rfl⟩ rfl rfl rfl rfl rfl (by kernel_rfl) Try.func5 (by kernel_rfl)
    (of_decide_eq_true (by kernel_rfl)) (by unfold Func.isWrapper;first|(rw [if_pos (by decide +kernel)];kernel_rfl)|(rw [if_neg (by decide +kernel)];exact ⟨rfl,rfl⟩))
    (fun os started H enc _=>lifted os started H enc)
theorem proved : Rows.FnExactProofOkSaid:=over
#print axioms proved
end Go.Proofs.Ytcdofljgeiohgaa.fnExactProofOk
namespace Go.Proofs.Ytcdofljgeiohgaa
/-- The row, under a short name, for the claim. -/
theorem fnExactProofOk_holds : Rows.FnExactProofOkSaid:=fnExactProofOk.proved
end Go.Proofs.Ytcdofljgeiohgaa
