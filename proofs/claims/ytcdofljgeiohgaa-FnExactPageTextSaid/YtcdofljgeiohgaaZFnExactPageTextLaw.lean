/- The row of the law FnExactPageText, out of its pure statement and the printed contract: for every input that can be read, under no condition. -/
import Derived.Test.YtcdofljgeiohgaaRows
import Derived.Test.YtcdofljgeiohgaaZFnExactPageTextx7
import Derived.Test.YtcdofljgeiohgaaZFnExactPageTextPure
import Derived.Test.YtcdofljgeiohgaaZFnExactPageTextRd
import Derived.WalkKit
import Derived.ProofKit
import Derived.OpenShut
import Derived.ShutString
import Derived.ChangeOld
import Derived.Below
import Derived.SizedLaws
import Derived.Carry
namespace Go.Proofs.Ytcdofljgeiohgaa.fnExactPageText
open Go.ChangeShapes Go.WideShapes Go.ChangeAt Go.RowKit Go.Proofs.Ytcdofljgeiohgaa.Rd Go.Proofs.Ytcdofljgeiohgaa.QFnExactPageText Go.Proofs.YtcdofljgeiohgaaW.PrintWords
open Go.ChangeMaps (open_string shut_string)
set_option linter.unusedVariables false
theorem own : ownKnob Try.prog.godebug = none:=by kernel_rfl
theorem laidOut : laidOutB Try.prog = true:=by kernel_rfl
instance inh120 : Inhabited S120:=⟨z120⟩
set_option maxRecDepth 100000 in
set_option maxHeartbeats 2000000 in
theorem lifted (os : Os) (started : os.Started) (H : Type) (enc : TypeId × Value → H) :
    ReturnsInHanded {} Try.checked os 4 .any (Rows.fnExactPageTextSpec.pre6 enc Try.prog Try.f4 Rows.fnExactPageTextRow.domain false) (Rows.fnExactPageTextSpec.post enc Try.prog Try.f4 false true false false):=by
  refine returnsInHanded_of_change_sized (C:=Try.checked) own started (by kernel_rfl) Try.func4
    (ChangeSpec.witness6 (enc:=enc) (C:=Try.checked) false ⟨#[],#[.agg #[.int .i64 0,.slice none 0 0]],[]⟩ 8 (by kernel_rfl) (by kernel_rfl) (by kernel_rfl) (by kernel_rfl)) ?_
  intro W base args ds gs before hval0 hW hcnd hsz0 _
  have hsz : (DataW.weightsEach Try.prog (Try.f4.params.toList ++ Rows.fnExactPageTextSpec.plain.varTypes Try.prog) (ds ++ gs)).all (· ≤ reachBytes) = true:=hsz0
  have hval : ∀ (j : Nat) t v,Try.f4.params[j]? = some t → args[j]? = some v → Value.okWide Try.prog W .any base t v:=hval0
  have hW':=hW
  obtain ⟨p,q,hA0,hV,rfl,hfz,hnd⟩:=hW
  have hA : DataW.TrodAll enc Try.prog W 0 (fun _=>true) true Try.f4.params.toList args.toList ds p:=hA0
  rw [Try.params4] at hA hval hsz
  obtain ⟨v0,vs0,d0,ds0,p0,q0,hargs,rfl,rfl,h0,r0⟩:=trodAll_cons hA
  obtain ⟨rfl,rfl,rfl⟩:=trodAll_nil r0
  obtain rfl : args = #[v0]:=by cases args;simp_all
  obtain ⟨rfl,rfl⟩:=trodVars_none hV
  have k0:=h0
  have lt0 : ∀ x ∈ p0,x.block < W.heap.size:=by obtain ⟨m,hm⟩:=k0;exact DataW.trod_lt m _ _ _ hm
  obtain ⟨⟨a0_0,l0_1⟩,cs0,rfl,⟨_,_,rfl,rfl,⟨A0_1,c0_1,rfl,hc0_1,hr0_1⟩⟩,⟨o0_0,o0_1⟩⟩:=rd_val Try.underlying41 (rd_struct Try.underlying41 (rds_cons (by kernel_rfl) (rd_int Try.underlying3) (rds_one (by kernel_rfl) (by kernel_rfl) (rd_slice Try.underlying39 (by kernel_rfl) (rd_iso (rd_struct Try.underlying120 (rds_cons (by kernel_rfl) (rd_string Try.underlying9) (rds_cons (by kernel_rfl) (rd_string Try.underlying9) (rds_one (by kernel_rfl) (by kernel_rfl) (rd_int Try.underlying3))))) (fun x : S120=>(x.f0,x.f1,x.f2)) (fun p=>⟨p.1,p.2.1,p.2.2⟩) (fun _=>rfl)))))) (hval 0 41 v0 rfl rfl) h0
  clear hA0 hval0 hsz0 hsz
  obtain ⟨k,hk⟩:=Pure.FnExactPageText a0_0 l0_1 o0_0 o0_1
  refine (Go.Proofs.Ytcdofljgeiohgaa.QFnExactPageText.laws_FnExactPageText.calls (w:=W) (h:=hk) (hr0_1:=hr0_1) (hc0_1:=hc0_1)).mono fun e W' ⟨he,bel0⟩=>?_
  have bel : Below W.heap.size W W':=bel0
  subst he
  exact ⟨_,rfl,_,_,_,[],_,[],hW',trodAll_mk1 (shut_bool Try.underlying4 _),(trodAll_cons_mk (Below.trod laidOut (by kernel_rfl) (of_decide_eq_true (by kernel_rfl)) k0 bel lt0) trodAll_mk0),rfl,bel.frame _,fun h=>by cases h⟩
theorem over : Rows.fnExactPageTextRow.holds Try.pinned (OpenSpec.ofChange Rows.fnExactPageTextSpec) :=
  OpenClaim.holds_of_wide 4 Try.f4 rfl rfl rfl rfl rfl rfl rfl ⟨rfl,rfl,rfl,rfl,rfl⟩ rfl rfl rfl rfl rfl (by kernel_rfl) Try.func4 (by kernel_rfl)
    (of_decide_eq_true (by kernel_rfl)) (by unfold Func.isWrapper;first|(rw [if_pos (by decide +kernel)];kernel_rfl)|(rw [if_neg (by decide +kernel)];exact ⟨rfl,rfl⟩))
    (fun os started H enc _=>lifted os started H enc)
theorem proved : Rows.FnExactPageTextSaid:=over
#print axioms proved
end Go.Proofs.Ytcdofljgeiohgaa.fnExactPageText
namespace Go.Proofs.Ytcdofljgeiohgaa
/-- The row, under a short name, for the claim. -/
theorem fnExactPageText_holds : Rows.FnExactPageTextSaid:=fnExactPageText.proved
end Go.Proofs.Ytcdofljgeiohgaa
