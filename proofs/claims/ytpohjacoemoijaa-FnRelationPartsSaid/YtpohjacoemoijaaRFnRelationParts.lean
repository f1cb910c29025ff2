/-
  The row of the law FnRelationParts: for every input it returns true and leaves its arguments as they were; no condition.
-/
import Derived.Test.YtpohjacoemoijaaCFnRelationParts7
import Derived.Test.YtpohjacoemoijaaRows
namespace Go.Proofs.Ytpohjacoemoijaa.E.RowFnRelationParts
open Go Go.RowKit Go.ChangeShapes Go.WideShapes Go.ChangeAt Go.Proofs Go.Proofs.Ytpohjacoemoijaa Go.Proofs.Ytpohjacoemoijaa.E
set_option linter.unusedVariables false
set_option linter.unusedSimpArgs false
theorem own : ownKnob Try.prog.godebug = none := by kernel_rfl
theorem laidOut : laidOutB Try.prog = true := by kernel_rfl
set_option maxRecDepth 100000 in
theorem lifted (os : Os) (started : os.Started) (H : Type) (enc : TypeId × Value → H) :
    ReturnsInHanded {} Try.checked os 5 .any (Rows.fnRelationPartsSpec.pre6 enc Try.prog Try.f5 Rows.fnRelationPartsRow.domain false) (Rows.fnRelationPartsSpec.post enc Try.prog Try.f5 false true false false) := by
  refine returnsInHanded_of_change (C := Try.checked) own started (by kernel_rfl) Try.func5
    (ChangeSpec.witness6 (enc := enc) (C := Try.checked) false ⟨#[], #[.slice none 0 0], []⟩ 8 (by kernel_rfl) (by kernel_rfl) (by kernel_rfl) (by kernel_rfl)) ?_
  intro W base args ds gs before hval0 hW hcnd _
  have hval : ∀ (j : Nat) t v, Try.f5.params[j]? = some t → args[j]? = some v → Value.okWide Try.prog W .any base t v := hval0
  have hW' := hW
  obtain ⟨p, q, hA0, hV, rfl, hfz, hnd⟩ := hW
  have hA : DataW.TrodAll enc Try.prog W 0 (fun _ => true) true Try.f5.params.toList args.toList ds p := hA0
  rw [Try.params5] at hA hval
  obtain ⟨v0, vs0, d0, ds0, p0, q0, hargs0, rfl, rfl, h0, r0⟩ := trodAll_cons hA
  obtain ⟨rfl, rfl, rfl⟩ := trodAll_nil r0
  obtain rfl : args = #[v0] := by cases args; simp_all
  obtain ⟨rfl, rfl⟩ := trodVars_none hV
  have k0 := h0
  have lt0 : ∀ x ∈ p0, x.block < W.heap.size := by obtain ⟨m, hm⟩ := k0; exact DataW.trod_lt m _ _ _ hm
  obtain ⟨y0, e0, x0, z0⟩ := arg_open (T := (.sl (.int .u8))) tysOk (by rfl) (by decide) (hval 0 35 v0 rfl rfl) h0
  obtain ⟨K, h⟩ := PuFnRelationParts (y0, ()) ⟨z0, trivial⟩
  have hR : RX Try.prog as_w_FnRelationParts true W (fun b => b < W.heap.size) [v0] (y0, ()) := ⟨v0.cells.toList, _, by rw [← e0], x0, rfl⟩
  refine (((ok_w_FnRelationParts K).plain (by rfl) W [v0] (y0, ()) true hR h).calls (c := bodyOf Try.f5) Try.func5 (by kernel_rfl) (by kernel_rfl)).mono ?_
  rintro e W' ⟨v, rfl, hr⟩
  obtain ⟨rfl, bel⟩ := ret_bool hr
  exact ⟨_, rfl, _, _, _, [], _, [], hW', trodAll_mk1 (shut_bool Try.underlying4 _), (trodAll_cons_mk (Below.trod laidOut (by kernel_rfl) (of_decide_eq_true (by kernel_rfl)) k0 bel lt0) trodAll_mk0), rfl, bel.frame _, fun h => by cases h⟩
theorem over : Rows.fnRelationPartsRow.holds Try.pinned (OpenSpec.ofChange Rows.fnRelationPartsSpec) :=
  OpenClaim.holds_of_wide 5 Try.f5 rfl rfl rfl rfl rfl rfl rfl ⟨rfl, rfl, rfl, rfl, rfl⟩ rfl rfl rfl rfl rfl (by kernel_rfl) Try.func5 (by kernel_rfl)
    (of_decide_eq_true (by kernel_rfl)) (by unfold Func.isWrapper; first | (rw [if_pos (by decide +kernel)]; kernel_rfl) | (rw [if_neg (by decide +kernel)]; exact ⟨rfl, rfl⟩))
    (fun os started H enc _ => lifted os started H enc)
theorem proved : Rows.FnRelationPartsSaid := over
end Go.Proofs.Ytpohjacoemoijaa.E.RowFnRelationParts
namespace Go.Proofs.Ytpohjacoemoijaa
/-- The row, under a short name, for the claim. -/
theorem fnRelationParts_holds : Rows.FnRelationPartsSaid := Go.Proofs.Ytpohjacoemoijaa.E.RowFnRelationParts.proved
end Go.Proofs.Ytpohjacoemoijaa
