/- The row of the law FnExactRounds, out of its pure statement and the printed contract: for every input that can be read, under no condition. -/
import Derived.Test.YtnffimpoekjkpaaRows
import Derived.Test.YtnffimpoekjkpaaZFnExactRoundsx65
import Derived.Test.YtnffimpoekjkpaaZFnExactRoundsPure
import Derived.Test.YtnffimpoekjkpaaZFnExactRoundsRd
import Derived.WalkKit
import Derived.ProofKit
import Derived.OpenShut
import Derived.ShutString
import Derived.ChangeOld
import Derived.Below
import Derived.SizedLaws
import Derived.Carry
namespace Go.Proofs.Ytnffimpoekjkpaa.fnExactRounds
open Go.ChangeShapes Go.WideShapes Go.ChangeAt Go.RowKit Go.Proofs.Ytnffimpoekjkpaa.Rd Go.Proofs.Ytnffimpoekjkpaa.QFnExactRounds Go.Proofs.YtnffimpoekjkpaaW.PrintWords
open Go.ChangeMaps (open_string shut_string)
set_option linter.unusedVariables false
theorem own : ownKnob Try.prog.godebug = none:=by kernel_rfl
theorem laidOut : laidOutB Try.prog = true:=by kernel_rfl
instance inh58 : Inhabited S58:=⟨z58⟩
set_option maxRecDepth 100000 in
set_option maxHeartbeats 2000000 in
theorem lifted (os : Os) (started : os.Started) (H : Type) (enc : TypeId × Value → H) :
  ReturnsInHanded {} Try.checked os 3 .any (Rows.fnExactRoundsSpec.pre6 enc Try.prog Try.f3 Rows.fnExactRoundsRow.domain false) (Rows.fnExactRoundsSpec.post enc Try.prog Try.f3 false true false false):=by
 refine returnsInHanded_of_change_sized (C:=Try.checked) own started (by kernel_rfl) Try.func3
  (ChangeSpec.witness6 (enc:=enc) (C:=Try.checked) false ⟨#[],#[.agg #[.int .i64 0,.slice none 0 0]],[]⟩ 8 (by kernel_rfl) (by kernel_rfl) (by kernel_rfl) (by kernel_rfl)) ?_
 intro W base args ds gs before hval0 hW hcnd hsz0 _
 have hsz : (DataW.weightsEach Try.prog (Try.f3.params.toList ++ Rows.fnExactRoundsSpec.plain.varTypes Try.prog) (ds ++ gs)).all (· ≤ reachBytes) = true:=hsz0
 have hval : ∀ (j : Nat) t v,Try.f3.params[j]? = some t → args[j]? = some v → Value.okWide Try.prog W .any base t v:=hval0
 have hW':=hW
 obtain ⟨p,q,hA0,hV,rfl,hfz,hnd⟩:=hW
 have hA : DataW.TrodAll enc Try.prog W 0 (fun _=>true) true Try.f3.params.toList args.toList ds p:=hA0
 rw [Try.params3] at hA hval hsz
 obtain ⟨v0,vs0,d0,ds0,p0,q0,hargs,rfl,rfl,h0,r0⟩:=trodAll_cons hA
 obtain ⟨rfl,rfl,rfl⟩:=trodAll_nil r0
 obtain rfl : args = #[v0]:=by cases args;simp_all
 obtain ⟨rfl,rfl⟩:=trodVars_none hV
 have k0:=h0
 have lt0 : ∀ x ∈ p0,x.block < W.heap.size:=by obtain ⟨m,hm⟩:=k0;exact DataW.trod_lt m _ _ _ hm
 obtain ⟨⟨a0_0,l0_1⟩,cs0,rfl,⟨_,_,rfl,rfl,⟨A0_1,c0_1,rfl,hc0_1,hr0_1⟩⟩,⟨o0_0,o0_1⟩⟩:=rd_val Try.underlying24 (rd_struct Try.underlying24 (rds_cons (by kernel_rfl) (rd_int Try.underlying3) (rds_one (by kernel_rfl) (by kernel_rfl) (rd_slice Try.underlying22 (by kernel_rfl) (rd_iso (rd_struct Try.underlying58 (rds_cons (by kernel_rfl) (rd_int Try.underlying3) (rds_cons (by kernel_rfl) (rd_int Try.underlying3) (rds_cons (by kernel_rfl) (rd_int Try.underlying3) (rds_cons (by kernel_rfl) (rd_int Try.underlying3) (rds_one (by kernel_rfl) (by kernel_rfl) (rd_int Try.underlying3))))))) (fun x : S58=>(x.f0,x.f1,x.f2,x.f3,x.f4)) (fun p=>⟨p.1,p.2.1,p.2.2.1,p.2.2.2.1,p.2.2.2.2⟩) (fun _=>rfl)))))) (hval 0 24 v0 rfl rfl) h0
 clear hA0 hval0 hsz0 hsz
 obtain ⟨k,hk⟩:=Pure.FnExactRounds a0_0 l0_1 o0_1.1
 refine (Go.Proofs.Ytnffimpoekjkpaa.QFnExactRounds.laws_FnExactRounds.calls (w:=W) (h:=hk) (hr0_1:=hr0_1) (hc0_1:=hc0_1)).mono fun e W' ⟨he,bel0⟩=>?_
 have bel : Below W.heap.size W W':=bel0
 subst he
 exact ⟨_,rfl,_,_,_,[],_,[],hW',trodAll_mk1 (shut_bool Try.underlying4 _),(trodAll_cons_mk (Below.trod laidOut (by kernel_rfl) (of_decide_eq_true (by kernel_rfl)) k0 bel lt0) trodAll_mk0),rfl,bel.frame _,fun h=>by cases h⟩
theorem over : Rows.fnExactRoundsRow.holds Try.pinned (OpenSpec.ofChange Rows.fnExactRoundsSpec) :=
 OpenClaim.holds_of_wide 3 Try.f3 rfl rfl rfl rfl rfl rfl rfl ⟨rfl,rfl,rfl,rfl,rfl⟩ rfl rfl rfl rfl rfl (by kernel_rfl) Try.func3 (by kernel_rfl)
  (of_decide_eq_true (by kernel_rfl)) (by unfold Func.isWrapper;first|(rw [if_pos (by decide +kernel)];kernel_rfl)|(rw [if_neg (by decide +kernel)];exact ⟨rfl,rfl⟩))
  (fun os started H enc _=>lifted os started H enc)
theorem proved : Rows.FnExactRoundsSaid:=over
#print axioms proved
end Go.Proofs.Ytnffimpoekjkpaa.fnExactRounds
namespace Go.Proofs.Ytnffimpoekjkpaa
/-- The row, under a short name, for the claim. -/
theorem fnExactRounds_holds : Rows.FnExactRoundsSaid:=fnExactRounds.proved
end Go.Proofs.Ytnffimpoekjkpaa
