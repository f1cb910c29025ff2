/-
  The row of the law FnExactIsSymmetric: for every input it returns true and leaves its argument as it was; no condition.
-/
import Derived.Test.YtbnngmjkoopbmaaCFnExactIsSymmetric0
import Derived.Test.YtbnngmjkoopbmaaCFnExactIsSymmetric1
import Derived.Test.YtbnngmjkoopbmaaCFnExactIsSymmetric2
import Derived.Test.YtbnngmjkoopbmaaCFnExactIsSymmetric3
import Derived.Test.YtbnngmjkoopbmaaRows
import Derived.WalkKit
import Derived.ProofKit
import Derived.OpenShut
import Derived.ShutString
import Derived.ChangeOld
import Derived.Below
import Derived.SizedLaws
namespace Go.Proofs.Ytbnngmjkoopbmaa.fnExactIsSymmetric
open Go.ChangeShapes Go.WideShapes Go.ChangeAt Go.RowKit Go.Proofs.Ytbnngmjkoopbmaa.D Go.Proofs.Ytbnngmjkoopbmaa.D.QFnExactIsSymmetric Go.Proofs.YtbnngmjkoopbmaaW.PrintWords Go.Proofs.YtbnngmjkoopbmaaW.PrintLast Go.Proofs.YtbnngmjkoopbmaaW.PrintMore
open Go.ChangeMaps (open_string shut_string)
set_option linter.unusedVariables false
set_option linter.unusedSimpArgs false
theorem own : ownKnob Try.prog.godebug = none := by kernel_rfl
theorem laidOut : laidOutB Try.prog = true := by kernel_rfl
set_option maxRecDepth 100000 in
theorem lifted (os : Os) (started : os.Started) (H : Type) (enc : TypeId × Value → H) :
    ReturnsInHanded {} Try.checked os 10 .any (Rows.fnExactIsSymmetricSpec.pre6 enc Try.prog Try.f10 Rows.fnExactIsSymmetricRow.domain false) (Rows.fnExactIsSymmetricSpec.post enc Try.prog Try.f10 false true false false) := by
  refine returnsInHanded_of_change (C := Try.checked) own started (by kernel_rfl) Try.func10
    (ChangeSpec.witness6 (enc := enc) (C := Try.checked) false ⟨#[], #[.agg #[.int .i64 0, .int .i64 0]], []⟩ 8 (by kernel_rfl) (by kernel_rfl) (by kernel_rfl) (by kernel_rfl)) ?_
  intro W base args ds gs before hval0 hW hcnd _
  have hval : ∀ (j : Nat) t v, Try.f10.params[j]? = some t → args[j]? = some v → Value.okWide Try.prog W .any base t v := hval0
  have hW' := hW
  obtain ⟨p, q, hA0, hV, rfl, hfz, hnd⟩ := hW
  have hA : DataW.TrodAll enc Try.prog W 0 (fun _ => true) true Try.f10.params.toList args.toList ds p := hA0
  rw [Try.params10] at hA hval
  obtain ⟨v0, vs0, d0, ds0, p0, q0, hargs, rfl, rfl, h0, r0⟩ := trodAll_cons hA
  obtain ⟨rfl, rfl, rfl⟩ := trodAll_nil r0
  obtain rfl : args = #[v0] := by cases args; simp_all
  obtain ⟨rfl, rfl⟩ := trodVars_none hV
  have k0 := h0
  have lt0 : ∀ x ∈ p0, x.block < W.heap.size := by obtain ⟨m, hm⟩ := k0; exact DataW.trod_lt m _ _ _ hm
  obtain ⟨cs0, rfl, hs0⟩ := okWide_struct Try.underlying23 (hval 0 23 v0 rfl rfl)
  obtain ⟨m0, g0⟩ := h0
  obtain ⟨y0, hK0, z0⟩ := op23 W _ _ _ _ _ _ _ g0
  have e0 := k23_open hK0
  obtain rfl : cs0 = #[.int .i64 y0.f0, .int .i64 y0.f1] := by cases cs0; simpa [Value.cells] using e0
  clear hA0 hval0
  obtain ⟨k, h⟩ := PuFnExactIsSymmetric.proved y0 z0
  refine (laws_FnExactIsSymmetric.calls k y0.f0 y0.f1 true W  h).mono ?_
  rintro e W' ⟨rfl, bel0⟩
  have bel : Below W.heap.size W W' := bel0
  exact ⟨_, rfl, _, _, _, [], _, [], hW', trodAll_mk1 (shut_bool Try.underlying4 _), (trodAll_cons_mk (Below.trod laidOut (by kernel_rfl) (of_decide_eq_true (by kernel_rfl)) k0 bel lt0) trodAll_mk0), rfl, bel.frame _, fun h => by cases h⟩
theorem over : Rows.fnExactIsSymmetricRow.holds Try.pinned (OpenSpec.ofChange Rows.fnExactIsSymmetricSpec) :=
  OpenClaim.holds_of_wide 10 Try.f10 rfl rfl rfl rfl rfl rfl rfl ⟨rfl, rfl, rfl, rfl, rfl⟩ rfl rfl rfl rfl rfl (by kernel_rfl) Try.func10 (by kernel_rfl)
    (of_decide_eq_true (by kernel_rfl)) (by unfold Func.isWrapper; first | (rw [if_pos (by decide +kernel)]; kernel_rfl) | (rw [if_neg (by decide +kernel)]; exact ⟨rfl, rfl⟩))
    (fun os started H enc _ => lifted os started H enc)
theorem proved : Rows.FnExactIsSymmetricSaid := over
#print axioms proved
end Go.Proofs.Ytbnngmjkoopbmaa.fnExactIsSymmetric
namespace Go.Proofs.Ytbnngmjkoopbmaa
/-- The row, under a short name, for the claim. -/
theorem fnExactIsSymmetric_holds : Rows.FnExactIsSymmetricSaid := fnExactIsSymmetric.proved
end Go.Proofs.Ytbnngmjkoopbmaa
