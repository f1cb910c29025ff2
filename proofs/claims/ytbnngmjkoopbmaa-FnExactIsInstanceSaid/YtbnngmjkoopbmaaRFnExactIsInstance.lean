/-
  The row of the law FnExactIsInstance: for every input it returns true and leaves its argument as it was; no condition.
-/
import Derived.Test.YtbnngmjkoopbmaaCFnExactIsInstance0
import Derived.Test.YtbnngmjkoopbmaaCFnExactIsInstance1
import Derived.Test.YtbnngmjkoopbmaaCFnExactIsInstance2
import Derived.Test.YtbnngmjkoopbmaaCFnExactIsInstance3
import Derived.Test.YtbnngmjkoopbmaaRows
import Derived.WalkKit
import Derived.ProofKit
import Derived.OpenShut
import Derived.ShutString
import Derived.ChangeOld
import Derived.Below
import Derived.SizedLaws
namespace Go.Proofs.Ytbnngmjkoopbmaa.fnExactIsInstance
open Go.ChangeShapes Go.WideShapes Go.ChangeAt Go.RowKit Go.Proofs.Ytbnngmjkoopbmaa.D Go.Proofs.Ytbnngmjkoopbmaa.D.QFnExactIsInstance Go.Proofs.YtbnngmjkoopbmaaW.PrintWords Go.Proofs.YtbnngmjkoopbmaaW.PrintLast Go.Proofs.YtbnngmjkoopbmaaW.PrintMore
open Go.ChangeMaps (open_string shut_string)
set_option linter.unusedVariables false
set_option linter.unusedSimpArgs false
theorem own : ownKnob Try.prog.godebug = none := by kernel_rfl
theorem laidOut : laidOutB Try.prog = true := by kernel_rfl
set_option maxRecDepth 100000 in
theorem lifted (os : Os) (started : os.Started) (H : Type) (enc : TypeId × Value → H) :
    ReturnsInHanded {} Try.checked os 12 .any (Rows.fnExactIsInstanceSpec.pre6 enc Try.prog Try.f12 Rows.fnExactIsInstanceRow.domain false) (Rows.fnExactIsInstanceSpec.post enc Try.prog Try.f12 false true false false) := by
  refine returnsInHanded_of_change (C := Try.checked) own started (by kernel_rfl) Try.func12
    (ChangeSpec.witness6 (enc := enc) (C := Try.checked) false ⟨#[], #[.agg #[.int .i64 0, .slice none 0 0]], []⟩ 8 (by kernel_rfl) (by kernel_rfl) (by kernel_rfl) (by kernel_rfl)) ?_
  intro W base args ds gs before hval0 hW hcnd _
  have hval : ∀ (j : Nat) t v, Try.f12.params[j]? = some t → args[j]? = some v → Value.okWide Try.prog W .any base t v := hval0
  have hW' := hW
  obtain ⟨p, q, hA0, hV, rfl, hfz, hnd⟩ := hW
  have hA : DataW.TrodAll enc Try.prog W 0 (fun _ => true) true Try.f12.params.toList args.toList ds p := hA0
  rw [Try.params12] at hA hval
  obtain ⟨v0, vs0, d0, ds0, p0, q0, hargs, rfl, rfl, h0, r0⟩ := trodAll_cons hA
  obtain ⟨rfl, rfl, rfl⟩ := trodAll_nil r0
  obtain rfl : args = #[v0] := by cases args; simp_all
  obtain ⟨rfl, rfl⟩ := trodVars_none hV
  have k0 := h0
  have lt0 : ∀ x ∈ p0, x.block < W.heap.size := by obtain ⟨m, hm⟩ := k0; exact DataW.trod_lt m _ _ _ hm
  obtain ⟨cs0, rfl, hs0⟩ := okWide_struct Try.underlying52 (hval 0 52 v0 rfl rfl)
  obtain ⟨m0, g0⟩ := h0
  obtain ⟨y0, hK0, z0⟩ := op52 W _ _ _ _ _ _ _ g0
  obtain ⟨A0_1, c0_1, e0, hl0_1, hr0_1⟩ := k52_open hK0
  obtain rfl : cs0 = #[.int .i64 y0.f0, .slice A0_1 y0.f1.length c0_1] := by cases cs0; simpa [Value.cells] using e0
  clear hA0 hval0
  obtain ⟨k, h⟩ := PuFnExactIsInstance.proved y0 z0
  refine (laws_FnExactIsInstance.calls k y0.f0 _ _ y0.f1 true W hr0_1 hl0_1 h).mono ?_
  rintro e W' ⟨rfl, bel0⟩
  have bel : Below W.heap.size W W' := bel0
  exact ⟨_, rfl, _, _, _, [], _, [], hW', trodAll_mk1 (shut_bool Try.underlying4 _), (trodAll_cons_mk (Below.trod laidOut (by kernel_rfl) (of_decide_eq_true (by kernel_rfl)) k0 bel lt0) trodAll_mk0), rfl, bel.frame _, fun h => by cases h⟩
theorem over : Rows.fnExactIsInstanceRow.holds Try.pinned (OpenSpec.ofChange Rows.fnExactIsInstanceSpec) :=
  OpenClaim.holds_of_wide 12 Try.f12 rfl rfl rfl rfl rfl rfl rfl ⟨rfl, rfl, rfl, rfl, rfl⟩ rfl rfl rfl rfl rfl (by kernel_rfl) Try.func12 (by kernel_rfl)
    (of_decide_eq_true (by kernel_rfl)) (by unfold Func.isWrapper; first | (rw [if_pos (by decide +kernel)]; kernel_rfl) | (rw [if_neg (by decide +kernel)]; exact ⟨rfl, rfl⟩))
    (fun os started H enc _ => lifted os started H enc)
theorem proved : Rows.FnExactIsInstanceSaid := over
#print axioms proved
end Go.Proofs.Ytbnngmjkoopbmaa.fnExactIsInstance
namespace Go.Proofs.Ytbnngmjkoopbmaa
/-- The row, under a short name, for the claim. -/
theorem fnExactIsInstance_holds : Rows.FnExactIsInstanceSaid := fnExactIsInstance.proved
end Go.Proofs.Ytbnngmjkoopbmaa
