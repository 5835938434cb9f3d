/- The row of the law FnExactFreeOf, out of its pure statement and the printed contract: for every input that can be read, under no condition. -/
import Derived.Test.YtbonjmnpcklciaaRows
import Derived.Test.YtbonjmnpcklciaaZFnExactFreeOfx7
import Derived.Test.YtbonjmnpcklciaaZFnExactFreeOfPure
import Derived.Test.YtbonjmnpcklciaaZFnExactFreeOfRd
import Derived.WalkKit
import Derived.ProofKit
import Derived.OpenShut
import Derived.ShutString
import Derived.ChangeOld
import Derived.Below
import Derived.SizedLaws
import Derived.Carry
namespace Go.Proofs.Ytbonjmnpcklciaa.fnExactFreeOf
open Go.ChangeShapes Go.WideShapes Go.ChangeAt Go.RowKit Go.Proofs.Ytbonjmnpcklciaa.Rd Go.Proofs.Ytbonjmnpcklciaa.QFnExactFreeOf Go.Proofs.YtbonjmnpcklciaaW.PrintWords
open Go.ChangeMaps (open_string shut_string)
set_option linter.unusedVariables false
theorem own : ownKnob Try.prog.godebug = none:=by kernel_rfl
theorem laidOut : laidOutB Try.prog = true:=by kernel_rfl
instance inh177 : Inhabited S177:=⟨z177⟩
set_option maxRecDepth 100000 in
set_option maxHeartbeats 2000000 in
theorem lifted (os : Os) (started : os.Started) (H : Type) (enc : TypeId × Value → H) :
    ReturnsInHanded {} Try.checked os 11 .any (Rows.fnExactFreeOfSpec.pre6 enc Try.prog Try.f11 Rows.fnExactFreeOfRow.domain false) (Rows.fnExactFreeOfSpec.post enc Try.prog Try.f11 false true false false):=by
  refine returnsInHanded_of_change_sized (C:=Try.checked) own started (by kernel_rfl) Try.func11
    (ChangeSpec.witness6 (enc:=enc) (C:=Try.checked) false ⟨#[],#[.agg #[.slice none 0 0,.slice none 0 0],.slice none 0 0],[]⟩ 8 (by kernel_rfl) (by kernel_rfl) (by kernel_rfl) (by kernel_rfl)) ?_
  intro W base args ds gs before hval0 hW hcnd hsz0 _
  have hsz : (DataW.weightsEach Try.prog (Try.f11.params.toList ++ Rows.fnExactFreeOfSpec.plain.varTypes Try.prog) (ds ++ gs)).all (· ≤ reachBytes) = true:=hsz0
  have hval : ∀ (j : Nat) t v,Try.f11.params[j]? = some t → args[j]? = some v → Value.okWide Try.prog W .any base t v:=hval0
  have hW':=hW
  obtain ⟨p,q,hA0,hV,rfl,hfz,hnd⟩:=hW
  have hA : DataW.TrodAll enc Try.prog W 0 (fun _=>true) true Try.f11.params.toList args.toList ds p:=hA0
  rw [Try.params11] at hA hval hsz
  obtain ⟨v0,vs0,d0,ds0,p0,q0,hargs,rfl,rfl,h0,r0⟩:=trodAll_cons hA
  obtain ⟨v1,vs1,d1,ds1,p1,q1,rfl,rfl,rfl,h1,r1⟩:=trodAll_cons r0
  obtain ⟨rfl,rfl,rfl⟩:=trodAll_nil r1
  obtain rfl : args = #[v0,v1]:=by cases args;simp_all
  obtain ⟨rfl,rfl⟩:=trodVars_none hV
  have k0:=h0
  have lt0 : ∀ x ∈ p0,x.block < W.heap.size:=by obtain ⟨m,hm⟩:=k0;exact DataW.trod_lt m _ _ _ hm
  obtain ⟨⟨l0_0,l0_1⟩,cs0,rfl,⟨_,_,rfl,⟨A0_0,c0_0,rfl,hc0_0,hr0_0⟩,⟨A0_1,c0_1,rfl,hc0_1,hr0_1⟩⟩,⟨o0_0,o0_1⟩⟩:=rd_val Try.underlying25 (rd_struct Try.underlying25 (rds_cons (by kernel_rfl) (rd_slice Try.underlying22 (by kernel_rfl) (rd_string Try.underlying9)) (rds_one (by kernel_rfl) (by kernel_rfl) (rd_slice Try.underlying23 (by kernel_rfl) (rd_iso (rd_struct Try.underlying177 (rds_cons (by kernel_rfl) (rd_int Try.underlying3) (rds_one (by kernel_rfl) (by kernel_rfl) (rd_string Try.underlying9)))) (fun x : S177=>(x.f0,x.f1)) (fun p=>⟨p.1,p.2⟩) (fun _=>rfl)))))) (hval 0 25 v0 rfl rfl) h0
  have k1:=h1
  have lt1 : ∀ x ∈ p1,x.block < W.heap.size:=by obtain ⟨m,hm⟩:=k1;exact DataW.trod_lt m _ _ _ hm
  obtain ⟨l1,A1,c1,rfl,hc1,hr1,o1⟩:=rd_row Try.underlying43 (rd_slice Try.underlying43 (by kernel_rfl) (rd_int Try.underlying3)) (hval 1 43 v1 rfl rfl) h1
  clear hA0 hval0 hsz0 hsz
  obtain ⟨k,hk⟩:=Pure.FnExactFreeOf l0_0 l0_1 l1 o0_0 o0_1 o1
  refine (Go.Proofs.Ytbonjmnpcklciaa.QFnExactFreeOf.laws_FnExactFreeOf.calls (w:=W) (h:=hk) (hr0_0:=hr0_0) (hc0_0:=hc0_0) (hr0_1:=hr0_1) (hc0_1:=hc0_1) (hr1:=hr1) (hc1:=hc1)).mono fun e W' ⟨he,bel0⟩=>?_
  have bel : Below W.heap.size W W':=bel0
  subst he
  exact ⟨_,rfl,_,_,_,[],_,[],hW',trodAll_mk1 (shut_bool Try.underlying4 _),(trodAll_cons_mk (Below.trod laidOut (by kernel_rfl) (of_decide_eq_true (by kernel_rfl)) k0 bel lt0) (trodAll_cons_mk (Below.trod laidOut (by kernel_rfl) (of_decide_eq_true (by kernel_rfl)) k1 bel lt1) trodAll_mk0)),rfl,bel.frame _,fun h=>by cases h⟩
theorem over : Rows.fnExactFreeOfRow.holds Try.pinned (OpenSpec.ofChange Rows.fnExactFreeOfSpec) :=
  OpenClaim.holds_of_wide 11 Try.f11 rfl rfl rfl rfl rfl rfl rfl ⟨rfl,rfl,rfl,rfl,rfl⟩ rfl rfl rfl rfl rfl (by kernel_rfl) Try.func11 (by kernel_rfl)
    (of_decide_eq_true (by kernel_rfl)) (by unfold Func.isWrapper;first|(rw [if_pos (by decide +kernel)];kernel_rfl)|(rw [if_neg (by decide +kernel)];exact ⟨rfl,rfl⟩))
    (fun os started H enc _=>lifted os started H enc)
theorem proved : Rows.FnExactFreeOfSaid:=over
#print axioms proved
end Go.Proofs.Ytbonjmnpcklciaa.fnExactFreeOf
namespace Go.Proofs.Ytbonjmnpcklciaa
/-- The row, under a short name, for the claim. -/
theorem fnExactFreeOf_holds : Rows.FnExactFreeOfSaid:=fnExactFreeOf.proved
end Go.Proofs.Ytbonjmnpcklciaa
