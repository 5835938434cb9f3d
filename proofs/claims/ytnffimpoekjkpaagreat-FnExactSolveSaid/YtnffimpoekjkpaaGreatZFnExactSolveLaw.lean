import Derived.Test.YtnffimpoekjkpaaGreatRows
import Derived.Test.YtnffimpoekjkpaaGreatZFnExactSolvex119
import Derived.Test.YtnffimpoekjkpaaGreatZFnExactSolvePure
import Derived.Test.YtnffimpoekjkpaaGreatZFnExactSolveRd
import Derived.WalkKit
import Derived.ProofKit
import Derived.OpenShut
import Derived.ShutString
import Derived.ChangeOld
import Derived.Below
import Derived.SizedLaws
import Derived.Carry
set_option linter.all false
namespace Go.Proofs.YtnffimpoekjkpaaGreat.fnExactSolve
open Go.ChangeShapes Go.WideShapes Go.ChangeAt Go.RowKit Go.Proofs.YtnffimpoekjkpaaGreat.Rd Go.Proofs.YtnffimpoekjkpaaGreat.QFnExactSolve Go.Proofs.YtnffimpoekjkpaaGreatW.PrintWords
set_option maxHeartbeats 2000000
set_option maxRecDepth 100000
open Go.ChangeMaps (open_string shut_string)
theorem own : ownKnob Tryz.prog.godebug = none:=by kernel_rfl
theorem laidOut : laidOutB Tryz.prog = true:=by kernel_rfl
instance inh84 : Inhabited S84:=⟨z84⟩
theorem lifted (os : Os) (started : os.Started) (H : Type) (enc : TypeId × Value → H) :
  ReturnsInHanded {} Tryz.checked os 3 .any (Rows.fnExactSolveSpec.pre6 enc Tryz.prog Tryz.f3 Rows.fnExactSolveRow.domain false) (Rows.fnExactSolveSpec.post enc Tryz.prog Tryz.f3 false true false false):=by
 refine returnsInHanded_of_change_sized (C:=Tryz.checked) own started (by kernel_rfl) Tryz.func3
  (ChangeSpec.witness6 (enc:=enc) (C:=Tryz.checked) false ⟨#[],#[.agg #[.int .i64 0,.slice none 0 0]],[]⟩ 8 (by kernel_rfl) (by kernel_rfl) (by kernel_rfl) (by kernel_rfl)) ?_
 intro W base args ds gs before hval0 hW hcnd hsz0 _
 have hsz : (DataW.weightsEach Tryz.prog (Tryz.f3.params.toList ++ Rows.fnExactSolveSpec.plain.varTypes Tryz.prog) (ds ++ gs)).all (· ≤ reachBytes) = true:=hsz0
 have hval : ∀ (j : Nat) t v,Tryz.f3.params[j]? = some t → args[j]? = some v → Value.okWide Tryz.prog W .any base t v:=hval0
 have hW':=hW
 obtain ⟨p,q,hA0,hV,rfl,hfz,hnd⟩:=hW
 have hA : DataW.TrodAll enc Tryz.prog W 0 (fun _=>true) true Tryz.f3.params.toList args.toList ds p:=hA0
 rw [Tryz.params3] at hA hval hsz
 obtain ⟨v0,vs0,d0,ds0,p0,q0,hargs,rfl,rfl,h0,r0⟩:=trodAll_cons hA
 obtain ⟨rfl,rfl,rfl⟩:=trodAll_nil r0
 obtain rfl : args = #[v0]:=by cases args;simp_all
 obtain ⟨rfl,rfl⟩:=trodVars_none hV
 have k0:=h0
 have lt0 : ∀ x ∈ p0,x.block < W.heap.size:=by obtain ⟨m,hm⟩:=k0;exact DataW.trod_lt m _ _ _ hm
 obtain ⟨⟨a0_0,l0_1⟩,cs0,rfl,⟨_,_,rfl,rfl,⟨A0_1,c0_1,rfl,hc0_1,hr0_1⟩⟩,⟨o0_0,o0_1⟩⟩:=rd_val Tryz.underlying24 (rd_struct Tryz.underlying24 (rds_cons (by kernel_rfl) (rd_int Tryz.underlying3) (rds_one (by kernel_rfl) (by kernel_rfl) (rd_slice Tryz.underlying22 (by kernel_rfl) (rd_iso (rd_struct Tryz.underlying84 (rds_cons (by kernel_rfl) (rd_int Tryz.underlying3) (rds_cons (by kernel_rfl) (rd_int Tryz.underlying3) (rds_cons (by kernel_rfl) (rd_int Tryz.underlying3) (rds_cons (by kernel_rfl) (rd_int Tryz.underlying3) (rds_one (by kernel_rfl) (by kernel_rfl) (rd_int Tryz.underlying3))))))) (fun x : S84=>(x.f0,x.f1,x.f2,x.f3,x.f4)) (fun p=>⟨p.1,p.2.1,p.2.2.1,p.2.2.2.1,p.2.2.2.2⟩) (fun _=>rfl)))))) (hval 0 24 v0 rfl rfl) h0
 clear hA0 hval0 hsz0 hsz
 obtain ⟨k,hk⟩:=Pure.FnExactSolve a0_0 l0_1 o0_1.1
 refine (Go.Proofs.YtnffimpoekjkpaaGreat.QFnExactSolve.laws_FnExactSolve.calls (w:=W) (h:=hk) (hr0_1:=hr0_1) (hc0_1:=hc0_1)).mono fun e W' ⟨he,bel0⟩=>?_
 have bel : Below W.heap.size W W':=bel0
 subst he
 exact ⟨_,rfl,_,_,_,[],_,[],hW',trodAll_mk1 (shut_bool Tryz.underlying4 _),(trodAll_cons_mk (Below.trod laidOut (by kernel_rfl) (of_decide_eq_true (by kernel_rfl)) k0 bel lt0) trodAll_mk0),rfl,bel.frame _,fun h=>by cases h⟩
theorem over : Rows.fnExactSolveRow.holds Tryz.pinned (OpenSpec.ofChange Rows.fnExactSolveSpec) :=
 OpenClaim.holds_of_wide 3 Tryz.f3 rfl rfl rfl rfl rfl rfl rfl ⟨rfl,rfl,rfl,rfl,rfl⟩ rfl rfl rfl rfl rfl (by kernel_rfl) Tryz.func3 (by kernel_rfl)
  (of_decide_eq_true (by kernel_rfl)) (by unfold Func.isWrapper;first|(rw [if_pos (by decide +kernel)];kernel_rfl)|(rw [if_neg (by decide +kernel)];exact ⟨rfl,rfl⟩))
  (fun os started H enc _=>lifted os started H enc)
theorem proved : Rows.FnExactSolveSaid:=over
#print axioms proved
end Go.Proofs.YtnffimpoekjkpaaGreat.fnExactSolve
namespace Go.Proofs.YtnffimpoekjkpaaGreat
theorem fnExactSolve_holds : Rows.FnExactSolveSaid:=fnExactSolve.proved
end Go.Proofs.YtnffimpoekjkpaaGreat
