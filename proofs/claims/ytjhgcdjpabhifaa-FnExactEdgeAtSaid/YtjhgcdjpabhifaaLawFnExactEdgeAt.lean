/- The row of the law FnExactEdgeAt, out of its pure statement and the printed contract: for every input that can be read, under no condition. -/
import Derived.Test.YtjhgcdjpabhifaaRows
import Derived.Test.YtjhgcdjpabhifaaPFnExactEdgeAtx5
import Derived.Test.YtjhgcdjpabhifaaPureFnExactEdgeAt
import Derived.Test.YtjhgcdjpabhifaaRd
import Derived.WalkKit
import Derived.ProofKit
import Derived.OpenShut
import Derived.ShutString
import Derived.ChangeOld
import Derived.Below
import Derived.SizedLaws
import Derived.Carry
namespace Go.Proofs.Ytjhgcdjpabhifaa.fnExactEdgeAt
open Go.ChangeShapes Go.WideShapes Go.ChangeAt Go.RowKit Go.Proofs.Ytjhgcdjpabhifaa.Rd Go.Proofs.Ytjhgcdjpabhifaa.PFnExactEdgeAt Go.Proofs.YtjhgcdjpabhifaaW.PrintWords
open Go.ChangeMaps (open_string shut_string)
set_option linter.unusedVariables false
theorem own : ownKnob Try.prog.godebug = none := by kernel_rfl
theorem laidOut : laidOutB Try.prog = true := by kernel_rfl
instance inh128 : Inhabited S128 := ⟨z128⟩
set_option maxRecDepth 100000 in
set_option maxHeartbeats 2000000 in
theorem lifted (os : Os) (started : os.Started) (H : Type) (enc : TypeId × Value → H) :
    ReturnsInHanded {} Try.checked os 13 .any (Rows.fnExactEdgeAtSpec.pre6 enc Try.prog Try.f13 Rows.fnExactEdgeAtRow.domain false) (Rows.fnExactEdgeAtSpec.post enc Try.prog Try.f13 false true false false) := by
  refine returnsInHanded_of_change_sized (C := Try.checked) own started (by kernel_rfl) Try.func13
    (ChangeSpec.witness6 (enc := enc) (C := Try.checked) false ⟨#[], #[.agg #[.int .i64 0, .slice none 0 0], .int .i64 0, .int .i64 0], []⟩ 8 (by kernel_rfl) (by kernel_rfl) (by kernel_rfl) (by kernel_rfl)) ?_
  intro W base args ds gs before hval0 hW hcnd hsz0 _
  have hsz : (DataW.weightsEach Try.prog (Try.f13.params.toList ++ Rows.fnExactEdgeAtSpec.plain.varTypes Try.prog) (ds ++ gs)).all (· ≤ reachBytes) = true := hsz0
  have hval : ∀ (j : Nat) t v, Try.f13.params[j]? = some t → args[j]? = some v → Value.okWide Try.prog W .any base t v := hval0
  have hW' := hW
  obtain ⟨p, q, hA0, hV, rfl, hfz, hnd⟩ := hW
  have hA : DataW.TrodAll enc Try.prog W 0 (fun _ => true) true Try.f13.params.toList args.toList ds p := hA0
  rw [Try.params13] at hA hval hsz
  obtain ⟨v0, vs0, d0, ds0, p0, q0, hargs, rfl, rfl, h0, r0⟩ := trodAll_cons hA
  obtain ⟨v1, vs1, d1, ds1, p1, q1, rfl, rfl, rfl, h1, r1⟩ := trodAll_cons r0
  obtain ⟨v2, vs2, d2, ds2, p2, q2, rfl, rfl, rfl, h2, r2⟩ := trodAll_cons r1
  obtain ⟨rfl, rfl, rfl⟩ := trodAll_nil r2
  obtain rfl : args = #[v0, v1, v2] := by cases args; simp_all
  obtain ⟨rfl, rfl⟩ := trodVars_none hV
  have k0 := h0
  have lt0 : ∀ x ∈ p0, x.block < W.heap.size := by obtain ⟨m, hm⟩ := k0; exact DataW.trod_lt m _ _ _ hm
  obtain ⟨⟨a0_0, l0_1⟩, cs0, rfl, ⟨_, _, rfl, rfl, ⟨A0_1, c0_1, rfl, hc0_1, hr0_1⟩⟩, ⟨o0_0, o0_1⟩⟩ := rd_val Try.underlying51 (rd_struct Try.underlying51 (rds_cons (by kernel_rfl) (rd_int Try.underlying3) (rds_one (by kernel_rfl) (by kernel_rfl) (rd_slice Try.underlying49 (by kernel_rfl) (rd_iso (rd_struct Try.underlying128 (rds_cons (by kernel_rfl) (rd_int Try.underlying3) (rds_cons (by kernel_rfl) (rd_int Try.underlying3) (rds_cons (by kernel_rfl) (rd_int Try.underlying3) (rds_cons (by kernel_rfl) (rd_int Try.underlying3) (rds_one (by kernel_rfl) (by kernel_rfl) (rd_int Try.underlying3))))))) (fun x : S128 => (x.f0, x.f1, x.f2, x.f3, x.f4)) (fun p => ⟨p.1, p.2.1, p.2.2.1, p.2.2.2.1, p.2.2.2.2⟩) (fun _ => rfl)))))) (hval 0 51 v0 rfl rfl) h0
  obtain ⟨a1, rfl, rfl, rfl, w1⟩ := open_int Try.underlying3 (hval 1 3 v1 rfl rfl) h1
  obtain ⟨a2, rfl, rfl, rfl, w2⟩ := open_int Try.underlying3 (hval 2 3 v2 rfl rfl) h2
  clear hA0 hval0 hsz0 hsz
  obtain ⟨k, hk⟩ := Pure.FnExactEdgeAt a0_0 l0_1 a1 a2 o0_0 o0_1 w1 w2
  refine (Go.Proofs.Ytjhgcdjpabhifaa.PFnExactEdgeAt.laws_FnExactEdgeAt.calls (w := W) (h := hk) (hr0_1 := hr0_1) (hc0_1 := hc0_1)).mono fun e W' ⟨he, bel0⟩ => ?_
  have bel : Below W.heap.size W W' := bel0
  subst he
  exact ⟨_, rfl, _, _, _, [], _, [], hW', trodAll_mk1 (shut_bool Try.underlying4 _), (trodAll_cons_mk (Below.trod laidOut (by kernel_rfl) (of_decide_eq_true (by kernel_rfl)) k0 bel lt0) (trodAll_cons_mk (shut_int Try.underlying3 w1) (trodAll_cons_mk (shut_int Try.underlying3 w2) trodAll_mk0))), rfl, bel.frame _, fun h => by cases h⟩
theorem over : Rows.fnExactEdgeAtRow.holds Try.pinned (OpenSpec.ofChange Rows.fnExactEdgeAtSpec) :=
  OpenClaim.holds_of_wide 13 Try.f13 rfl rfl rfl rfl rfl rfl rfl ⟨rfl, rfl, rfl, rfl, rfl⟩ rfl rfl rfl rfl rfl (by kernel_rfl) Try.func13 (by kernel_rfl)
    (of_decide_eq_true (by kernel_rfl)) (by unfold Func.isWrapper; first | (rw [if_pos (by decide +kernel)]; kernel_rfl) | (rw [if_neg (by decide +kernel)]; exact ⟨rfl, rfl⟩))
    (fun os started H enc _ => lifted os started H enc)
theorem proved : Rows.FnExactEdgeAtSaid := over
#print axioms proved
end Go.Proofs.Ytjhgcdjpabhifaa.fnExactEdgeAt
namespace Go.Proofs.Ytjhgcdjpabhifaa
/-- The row, under a short name, for the claim. -/
theorem fnExactEdgeAt_holds : Rows.FnExactEdgeAtSaid := fnExactEdgeAt.proved
end Go.Proofs.Ytjhgcdjpabhifaa
