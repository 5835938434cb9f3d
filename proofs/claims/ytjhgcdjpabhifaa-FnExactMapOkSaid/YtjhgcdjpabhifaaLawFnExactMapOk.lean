/- The row of the law FnExactMapOk, out of its pure statement and the printed contract: for every input that can be read, under no condition. -/
import Derived.Test.YtjhgcdjpabhifaaRows
import Derived.Test.YtjhgcdjpabhifaaQFnExactMapOkx4
import Derived.Test.YtjhgcdjpabhifaaPureFnExactMapOk
import Derived.Test.YtjhgcdjpabhifaaRd
import Derived.WalkKit
import Derived.ProofKit
import Derived.OpenShut
import Derived.ShutString
import Derived.ChangeOld
import Derived.Below
import Derived.SizedLaws
import Derived.Carry
namespace Go.Proofs.Ytjhgcdjpabhifaa.fnExactMapOk
open Go.ChangeShapes Go.WideShapes Go.ChangeAt Go.RowKit Go.Proofs.Ytjhgcdjpabhifaa.Rd Go.Proofs.Ytjhgcdjpabhifaa.QFnExactMapOk Go.Proofs.YtjhgcdjpabhifaaW.PrintWords
open Go.ChangeMaps (open_string shut_string)
set_option linter.unusedVariables false
theorem own : ownKnob Try.prog.godebug = none := by kernel_rfl
theorem laidOut : laidOutB Try.prog = true := by kernel_rfl
instance inh99 : Inhabited S99 := ⟨z99⟩
set_option maxRecDepth 100000 in
set_option maxHeartbeats 2000000 in
theorem lifted (os : Os) (started : os.Started) (H : Type) (enc : TypeId × Value → H) :
    ReturnsInHanded {} Try.checked os 6 .any (Rows.fnExactMapOkSpec.pre6 enc Try.prog Try.f6 Rows.fnExactMapOkRow.domain false) (Rows.fnExactMapOkSpec.post enc Try.prog Try.f6 false true false false) := by
  refine returnsInHanded_of_change_sized (C := Try.checked) own started (by kernel_rfl) Try.func6
    (ChangeSpec.witness6 (enc := enc) (C := Try.checked) false ⟨#[], #[.slice none 0 0], []⟩ 8 (by kernel_rfl) (by kernel_rfl) (by kernel_rfl) (by kernel_rfl)) ?_
  intro W base args ds gs before hval0 hW hcnd hsz0 _
  have hsz : (DataW.weightsEach Try.prog (Try.f6.params.toList ++ Rows.fnExactMapOkSpec.plain.varTypes Try.prog) (ds ++ gs)).all (· ≤ reachBytes) = true := hsz0
  have hval : ∀ (j : Nat) t v, Try.f6.params[j]? = some t → args[j]? = some v → Value.okWide Try.prog W .any base t v := hval0
  have hW' := hW
  obtain ⟨p, q, hA0, hV, rfl, hfz, hnd⟩ := hW
  have hA : DataW.TrodAll enc Try.prog W 0 (fun _ => true) true Try.f6.params.toList args.toList ds p := hA0
  rw [Try.params6] at hA hval hsz
  obtain ⟨v0, vs0, d0, ds0, p0, q0, hargs, rfl, rfl, h0, r0⟩ := trodAll_cons hA
  obtain ⟨rfl, rfl, rfl⟩ := trodAll_nil r0
  obtain rfl : args = #[v0] := by cases args; simp_all
  obtain ⟨rfl, rfl⟩ := trodVars_none hV
  have k0 := h0
  have lt0 : ∀ x ∈ p0, x.block < W.heap.size := by obtain ⟨m, hm⟩ := k0; exact DataW.trod_lt m _ _ _ hm
  obtain ⟨l0, A0, c0, rfl, hc0, hr0, o0⟩ := rd_row Try.underlying34 (rd_slice Try.underlying34 (by kernel_rfl) (rd_iso (rd_struct Try.underlying99 (rds_cons (by kernel_rfl) (rd_string Try.underlying9) (rds_one (by kernel_rfl) (by kernel_rfl) (rd_string Try.underlying9)))) (fun x : S99 => (x.f0, x.f1)) (fun p => ⟨p.1, p.2⟩) (fun _ => rfl))) (hval 0 34 v0 rfl rfl) h0
  clear hA0 hval0 hsz0 hsz
  obtain ⟨k, hk⟩ := Pure.FnExactMapOk l0 o0
  refine (Go.Proofs.Ytjhgcdjpabhifaa.QFnExactMapOk.laws_FnExactMapOk.calls (w := W) (h := hk) (hr0 := hr0) (hc0 := hc0)).mono fun e W' ⟨he, bel0⟩ => ?_
  have bel : Below W.heap.size W W' := bel0
  subst he
  exact ⟨_, rfl, _, _, _, [], _, [], hW', trodAll_mk1 (shut_bool Try.underlying4 _), (trodAll_cons_mk (Below.trod laidOut (by kernel_rfl) (of_decide_eq_true (by kernel_rfl)) k0 bel lt0) trodAll_mk0), rfl, bel.frame _, fun h => by cases h⟩
theorem over : Rows.fnExactMapOkRow.holds Try.pinned (OpenSpec.ofChange Rows.fnExactMapOkSpec) :=
  OpenClaim.holds_of_wide 6 Try.f6 rfl rfl rfl rfl rfl rfl rfl ⟨rfl, rfl, rfl, rfl, rfl⟩ rfl rfl rfl rfl rfl (by kernel_rfl) Try.func6 (by kernel_rfl)
    (of_decide_eq_true (by kernel_rfl)) (by unfold Func.isWrapper; first | (rw [if_pos (by decide +kernel)]; kernel_rfl) | (rw [if_neg (by decide +kernel)]; exact ⟨rfl, rfl⟩))
    (fun os started H enc _ => lifted os started H enc)
theorem proved : Rows.FnExactMapOkSaid := over
#print axioms proved
end Go.Proofs.Ytjhgcdjpabhifaa.fnExactMapOk
namespace Go.Proofs.Ytjhgcdjpabhifaa
/-- The row, under a short name, for the claim. -/
theorem fnExactMapOk_holds : Rows.FnExactMapOkSaid := fnExactMapOk.proved
end Go.Proofs.Ytjhgcdjpabhifaa
