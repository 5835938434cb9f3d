/- The row of the law FnExactPlaceTree, out of its pure statement and the printed contract: for every input that can be read, under no condition. -/
import Derived.Test.YtcnoccefdejphaaRows
import Derived.Test.YtcnoccefdejphaaZFnExactPlaceTreex29
import Derived.Test.YtcnoccefdejphaaZFnExactPlaceTreePure
import Derived.Test.YtcnoccefdejphaaZFnExactPlaceTreeRd
import Derived.WalkKit
import Derived.ProofKit
import Derived.OpenShut
import Derived.ShutString
import Derived.ChangeOld
import Derived.Below
import Derived.SizedLaws
import Derived.Carry
namespace Go.Proofs.Ytcnoccefdejphaa.fnExactPlaceTree
open Go.ChangeShapes Go.WideShapes Go.ChangeAt Go.RowKit Go.Proofs.Ytcnoccefdejphaa.Rd Go.Proofs.Ytcnoccefdejphaa.QFnExactPlaceTree Go.Proofs.YtcnoccefdejphaaW.PrintWords
open Go.ChangeMaps (open_string shut_string)
set_option linter.unusedVariables false
theorem own : ownKnob Try.prog.godebug = none:=by kernel_rfl
theorem laidOut : laidOutB Try.prog = true:=by kernel_rfl
instance inh102 : Inhabited S102:=⟨z102⟩
instance inh60 : Inhabited S60:=⟨z60⟩
set_option maxRecDepth 100000 in
set_option maxHeartbeats 2000000 in
theorem lifted (os : Os) (started : os.Started) (H : Type) (enc : TypeId × Value → H) :
  ReturnsInHanded {} Try.checked os 3 .any (Rows.fnExactPlaceTreeSpec.pre6 enc Try.prog Try.f3 Rows.fnExactPlaceTreeRow.domain false) (Rows.fnExactPlaceTreeSpec.post enc Try.prog Try.f3 false true false false):=by
 refine returnsInHanded_of_change_sized (C:=Try.checked) own started (by kernel_rfl) Try.func3
  (ChangeSpec.witness6 (enc:=enc) (C:=Try.checked) false ⟨#[],#[.agg #[.slice none 0 0,.slice none 0 0],.slice none 0 0,.slice none 0 0],[]⟩ 8 (by kernel_rfl) (by kernel_rfl) (by kernel_rfl) (by kernel_rfl)) ?_
 intro W base args ds gs before hval0 hW hcnd hsz0 _
 have hsz : (DataW.weightsEach Try.prog (Try.f3.params.toList ++ Rows.fnExactPlaceTreeSpec.plain.varTypes Try.prog) (ds ++ gs)).all (· ≤ reachBytes) = true:=hsz0
 have hval : ∀ (j : Nat) t v,Try.f3.params[j]? = some t → args[j]? = some v → Value.okWide Try.prog W .any base t v:=hval0
 have hW':=hW
 obtain ⟨p,q,hA0,hV,rfl,hfz,hnd⟩:=hW
 have hA : DataW.TrodAll enc Try.prog W 0 (fun _=>true) true Try.f3.params.toList args.toList ds p:=hA0
 rw [Try.params3] at hA hval hsz
 obtain ⟨v0,vs0,d0,ds0,p0,q0,hargs,rfl,rfl,h0,r0⟩:=trodAll_cons hA
 obtain ⟨v1,vs1,d1,ds1,p1,q1,rfl,rfl,rfl,h1,r1⟩:=trodAll_cons r0
 obtain ⟨v2,vs2,d2,ds2,p2,q2,rfl,rfl,rfl,h2,r2⟩:=trodAll_cons r1
 obtain ⟨rfl,rfl,rfl⟩:=trodAll_nil r2
 obtain rfl : args = #[v0,v1,v2]:=by cases args;simp_all
 obtain ⟨rfl,rfl⟩:=trodVars_none hV
 have k0:=h0
 have lt0 : ∀ x ∈ p0,x.block < W.heap.size:=by obtain ⟨m,hm⟩:=k0;exact DataW.trod_lt m _ _ _ hm
 obtain ⟨⟨l0_0,l0_1⟩,cs0,rfl,⟨_,_,rfl,⟨A0_0,c0_0,rfl,hc0_0,hr0_0⟩,⟨A0_1,c0_1,rfl,hc0_1,hr0_1⟩⟩,⟨o0_0,o0_1⟩⟩:=rd_val Try.underlying25 (rd_struct Try.underlying25 (rds_cons (by kernel_rfl) (rd_slice Try.underlying22 (by kernel_rfl) (rd_string Try.underlying9)) (rds_one (by kernel_rfl) (by kernel_rfl) (rd_slice Try.underlying23 (by kernel_rfl) (rd_iso (rd_struct Try.underlying102 (rds_cons (by kernel_rfl) (rd_int Try.underlying3) (rds_one (by kernel_rfl) (by kernel_rfl) (rd_string Try.underlying9)))) (fun x : S102=>(x.f0,x.f1)) (fun p=>⟨p.1,p.2⟩) (fun _=>rfl)))))) (hval 0 25 v0 rfl rfl) h0
 have k1:=h1
 have lt1 : ∀ x ∈ p1,x.block < W.heap.size:=by obtain ⟨m,hm⟩:=k1;exact DataW.trod_lt m _ _ _ hm
 obtain ⟨l1,A1,c1,rfl,hc1,hr1,o1⟩:=rd_row Try.underlying26 (rd_slice Try.underlying26 (by kernel_rfl) (rd_int Try.underlying3)) (hval 1 26 v1 rfl rfl) h1
 have k2:=h2
 have lt2 : ∀ x ∈ p2,x.block < W.heap.size:=by obtain ⟨m,hm⟩:=k2;exact DataW.trod_lt m _ _ _ hm
 obtain ⟨l2,A2,c2,rfl,hc2,hr2,o2⟩:=rd_row Try.underlying27 (rd_slice Try.underlying27 (by kernel_rfl) (rd_iso (rd_struct Try.underlying60 (rds_cons (by kernel_rfl) (rd_string Try.underlying9) (rds_one (by kernel_rfl) (by kernel_rfl) (rd_string Try.underlying9)))) (fun x : S60=>(x.f0,x.f1)) (fun p=>⟨p.1,p.2⟩) (fun _=>rfl))) (hval 2 27 v2 rfl rfl) h2
 clear hA0 hval0 hsz0 hsz
 have hk:=Pure.FnExactPlaceTree l0_0 l0_1 l1 l2 o0_0 ⟨o0_1.1,fun x hx=>(o0_1.2 x hx).2⟩ o1.1 o2
 refine (Go.Proofs.Ytcnoccefdejphaa.QFnExactPlaceTree.laws_FnExactPlaceTree.calls (w:=W) (hok:=hk) (h0:=hr0_0) (h0':=hc0_0) (h1:=hr0_1) (h1':=hc0_1) (hu:=hr1) (hu':=hc1) (hm:=hr2) (hm':=hc2)).mono fun e W' ⟨he,bel0⟩=>?_
 have bel : Below W.heap.size W W':=bel0
 subst he
 exact ⟨_,rfl,_,_,_,[],_,[],hW',trodAll_mk1 (shut_bool Try.underlying4 _),(trodAll_cons_mk (Below.trod laidOut (by kernel_rfl) (of_decide_eq_true (by kernel_rfl)) k0 bel lt0) (trodAll_cons_mk (Below.trod laidOut (by kernel_rfl) (of_decide_eq_true (by kernel_rfl)) k1 bel lt1) (trodAll_cons_mk (Below.trod laidOut (by kernel_rfl) (of_decide_eq_true (by kernel_rfl)) k2 bel lt2) trodAll_mk0))),rfl,bel.frame _,fun h=>by cases h⟩
theorem over : Rows.fnExactPlaceTreeRow.holds Try.pinned (OpenSpec.ofChange Rows.fnExactPlaceTreeSpec) :=
 OpenClaim.holds_of_wide 3 Try.f3 rfl rfl rfl rfl rfl rfl rfl ⟨rfl,rfl,rfl,rfl,rfl⟩ rfl rfl rfl rfl rfl (by kernel_rfl) Try.func3 (by kernel_rfl)
  (of_decide_eq_true (by kernel_rfl)) (by unfold Func.isWrapper;first|(rw [if_pos (by decide +kernel)];kernel_rfl)|(rw [if_neg (by decide +kernel)];exact ⟨rfl,rfl⟩))
  (fun os started H enc _=>lifted os started H enc)
theorem proved : Rows.FnExactPlaceTreeSaid:=over
#print axioms proved
end Go.Proofs.Ytcnoccefdejphaa.fnExactPlaceTree
namespace Go.Proofs.Ytcnoccefdejphaa
/-- The row, under a short name, for the claim. -/
theorem fnExactPlaceTree_holds : Rows.FnExactPlaceTreeSaid:=fnExactPlaceTree.proved
end Go.Proofs.Ytcnoccefdejphaa
