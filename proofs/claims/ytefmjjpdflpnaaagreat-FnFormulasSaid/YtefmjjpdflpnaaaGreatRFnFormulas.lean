/-
  The row of the law FnFormulas: for every input it returns true and leaves its arguments as they were; no condition.
-/
import Derived.Test.YtefmjjpdflpnaaaGreatCFnFormulas8
import Derived.Test.YtefmjjpdflpnaaaGreatRows
namespace Go.Proofs.YtefmjjpdflpnaaaGreat.E.RowFnFormulas
open Go Go.RowKit Go.ChangeShapes Go.WideShapes Go.ChangeAt Go.Proofs Go.Proofs.YtefmjjpdflpnaaaGreat Go.Proofs.YtefmjjpdflpnaaaGreat.E
set_option linter.unusedVariables false
set_option linter.unusedSimpArgs false
theorem own : ownKnob Tryz.prog.godebug = none := by kernel_rfl
theorem laidOut : laidOutB Tryz.prog = true := by kernel_rfl
set_option maxRecDepth 100000 in
theorem lifted (os : Os) (started : os.Started) (H : Type) (enc : TypeId × Value → H) :
    ReturnsInHanded {} Tryz.checked os 3 .any (Rows.fnFormulasSpec.pre6 enc Tryz.prog Tryz.f3 Rows.fnFormulasRow.domain false) (Rows.fnFormulasSpec.post enc Tryz.prog Tryz.f3 false true false false) := by
  refine returnsInHanded_of_change (C := Tryz.checked) own started (by kernel_rfl) Tryz.func3
    (ChangeSpec.witness6 (enc := enc) (C := Tryz.checked) false ⟨#[], #[.slice none 0 0], []⟩ 8 (by kernel_rfl) (by kernel_rfl) (by kernel_rfl) (by kernel_rfl)) ?_
  intro W base args ds gs before hval0 hW hcnd _
  have hval : ∀ (j : Nat) t v, Tryz.f3.params[j]? = some t → args[j]? = some v → Value.okWide Tryz.prog W .any base t v := hval0
  have hW' := hW
  obtain ⟨p, q, hA0, hV, rfl, hfz, hnd⟩ := hW
  have hA : DataW.TrodAll enc Tryz.prog W 0 (fun _ => true) true Tryz.f3.params.toList args.toList ds p := hA0
  rw [Tryz.params3] at hA hval
  obtain ⟨v0, vs0, d0, ds0, p0, q0, hargs0, rfl, rfl, h0, r0⟩ := trodAll_cons hA
  obtain ⟨rfl, rfl, rfl⟩ := trodAll_nil r0
  obtain rfl : args = #[v0] := by cases args; simp_all
  obtain ⟨rfl, rfl⟩ := trodVars_none hV
  have k0 := h0
  have lt0 : ∀ x ∈ p0, x.block < W.heap.size := by obtain ⟨m, hm⟩ := k0; exact DataW.trod_lt m _ _ _ hm
  obtain ⟨y0, e0, x0, z0⟩ := arg_open (T := (.sl (.int .u8))) tysOk (by rfl) (by decide) (hval 0 22 v0 rfl rfl) h0
  obtain ⟨K, h⟩ := PuFnFormulas (y0, ()) ⟨z0, trivial⟩
  have hR : RX Tryz.prog as_w_FnFormulas true W (fun b => b < W.heap.size) [v0] (y0, ()) := ⟨v0.cells.toList, _, by rw [← e0], x0, rfl⟩
  refine (((ok_w_FnFormulas K).plain (by rfl) W [v0] (y0, ()) true hR h).calls (c := bodyOf Tryz.f3) Tryz.func3 (by kernel_rfl) (by kernel_rfl)).mono ?_
  rintro e W' ⟨v, rfl, hr⟩
  obtain ⟨rfl, bel⟩ := ret_bool hr
  exact ⟨_, rfl, _, _, _, [], _, [], hW', trodAll_mk1 (shut_bool Tryz.underlying4 _), (trodAll_cons_mk (Below.trod laidOut (by kernel_rfl) (of_decide_eq_true (by kernel_rfl)) k0 bel lt0) trodAll_mk0), rfl, bel.frame _, fun h => by cases h⟩
theorem over : Rows.fnFormulasRow.holds Tryz.pinned (OpenSpec.ofChange Rows.fnFormulasSpec) :=
  OpenClaim.holds_of_wide 3 Tryz.f3 rfl rfl rfl rfl rfl rfl rfl ⟨rfl, rfl, rfl, rfl, rfl⟩ rfl rfl rfl rfl rfl (by kernel_rfl) Tryz.func3 (by kernel_rfl)
    (of_decide_eq_true (by kernel_rfl)) (by unfold Func.isWrapper; first | (rw [if_pos (by decide +kernel)]; kernel_rfl) | (rw [if_neg (by decide +kernel)]; exact ⟨rfl, rfl⟩))
    (fun os started H enc _ => lifted os started H enc)
theorem proved : Rows.FnFormulasSaid := over
end Go.Proofs.YtefmjjpdflpnaaaGreat.E.RowFnFormulas
namespace Go.Proofs.YtefmjjpdflpnaaaGreat
/-- The row, under a short name, for the claim. -/
theorem fnFormulas_holds : Rows.FnFormulasSaid := Go.Proofs.YtefmjjpdflpnaaaGreat.E.RowFnFormulas.proved
end Go.Proofs.YtefmjjpdflpnaaaGreat
