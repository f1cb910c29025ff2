/-
  The row of the law FnExactCloneNames: for every input it returns true and leaves its arguments as they were; no condition.
-/
import Derived.Test.YtgpdgnhphplodaaCFnExactCloneNames5
import Derived.Test.YtgpdgnhphplodaaRows
namespace Go.Proofs.Ytgpdgnhphplodaa.E.RowFnExactCloneNames
open Go Go.RowKit Go.ChangeShapes Go.WideShapes Go.ChangeAt Go.Proofs Go.Proofs.Ytgpdgnhphplodaa Go.Proofs.Ytgpdgnhphplodaa.E
set_option linter.unusedVariables false
set_option linter.unusedSimpArgs false
theorem own : ownKnob Try.prog.godebug = none := by kernel_rfl
theorem laidOut : laidOutB Try.prog = true := by kernel_rfl
set_option maxRecDepth 100000 in
theorem lifted (os : Os) (started : os.Started) (H : Type) (enc : TypeId × Value → H) :
    ReturnsInHanded {} Try.checked os 3 .any (Rows.fnExactCloneNamesSpec.pre6 enc Try.prog Try.f3 Rows.fnExactCloneNamesRow.domain false) (Rows.fnExactCloneNamesSpec.post enc Try.prog Try.f3 false true false false) := by
  refine returnsInHanded_of_change (C := Try.checked) own started (by kernel_rfl) Try.func3
    (ChangeSpec.witness6 (enc := enc) (C := Try.checked) false ⟨#[], #[], []⟩ 8 (by kernel_rfl) (by kernel_rfl) (by kernel_rfl) (by kernel_rfl)) ?_
  intro W base args ds gs before hval0 hW hcnd _
  have hval : ∀ (j : Nat) t v, Try.f3.params[j]? = some t → args[j]? = some v → Value.okWide Try.prog W .any base t v := hval0
  have hW' := hW
  obtain ⟨p, q, hA0, hV, rfl, hfz, hnd⟩ := hW
  have hA : DataW.TrodAll enc Try.prog W 0 (fun _ => true) true Try.f3.params.toList args.toList ds p := hA0
  rw [Try.params3] at hA hval
  obtain ⟨hargs, rfl, rfl⟩ := trodAll_nil hA
  obtain rfl : args = #[] := by cases args; simp_all
  obtain ⟨rfl, rfl⟩ := trodVars_none hV
  obtain ⟨K, h⟩ := PuFnExactCloneNames () trivial
  have hR : RX Try.prog as_w_FnExactCloneNames true W (fun b => b < W.heap.size) [] () := rfl
  refine (((ok_w_FnExactCloneNames K).plain (by rfl) W [] () true hR h).calls (c := bodyOf Try.f3) Try.func3 (by kernel_rfl) (by kernel_rfl)).mono ?_
  rintro e W' ⟨v, rfl, hr⟩
  obtain ⟨rfl, bel⟩ := ret_bool hr
  exact ⟨_, rfl, _, _, _, [], _, [], hW', trodAll_mk1 (shut_bool Try.underlying4 _), trodAll_mk0, rfl, bel.frame _, fun h => by cases h⟩
theorem over : Rows.fnExactCloneNamesRow.holds Try.pinned (OpenSpec.ofChange Rows.fnExactCloneNamesSpec) :=
  OpenClaim.holds_of_wide 3 Try.f3 rfl rfl rfl rfl rfl rfl rfl ⟨rfl, rfl, rfl, rfl, rfl⟩ rfl rfl rfl rfl rfl (by kernel_rfl) Try.func3 (by kernel_rfl)
    (of_decide_eq_true (by kernel_rfl)) (by unfold Func.isWrapper; first | (rw [if_pos (by decide +kernel)]; kernel_rfl) | (rw [if_neg (by decide +kernel)]; exact ⟨rfl, rfl⟩))
    (fun os started H enc _ => lifted os started H enc)
theorem proved : Rows.FnExactCloneNamesSaid := over
end Go.Proofs.Ytgpdgnhphplodaa.E.RowFnExactCloneNames
namespace Go.Proofs.Ytgpdgnhphplodaa
/-- The row, under a short name, for the claim. -/
theorem fnExactCloneNames_holds : Rows.FnExactCloneNamesSaid := Go.Proofs.Ytgpdgnhphplodaa.E.RowFnExactCloneNames.proved
end Go.Proofs.Ytgpdgnhphplodaa
