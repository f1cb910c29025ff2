/-
  The row of the law FnExactFuncOfFormula: for every input it returns true and leaves its arguments as they were; no condition.
-/
import Derived.Test.YtefmjjpdflpnaaaCFnExactFuncOfFormula6
import Derived.Test.YtefmjjpdflpnaaaRows
namespace Go.Proofs.Ytefmjjpdflpnaaa.E.RowFnExactFuncOfFormula
open Go Go.RowKit Go.ChangeShapes Go.WideShapes Go.ChangeAt Go.Proofs Go.Proofs.Ytefmjjpdflpnaaa Go.Proofs.Ytefmjjpdflpnaaa.E
set_option linter.unusedVariables false
set_option linter.unusedSimpArgs false
theorem own : ownKnob Try.prog.godebug = none := by kernel_rfl
theorem laidOut : laidOutB Try.prog = true := by kernel_rfl
set_option maxRecDepth 100000 in
theorem lifted (os : Os) (started : os.Started) (H : Type) (enc : TypeId × Value → H) :
    ReturnsInHanded {} Try.checked os 3 .any (Rows.fnExactFuncOfFormulaSpec.pre6 enc Try.prog Try.f3 Rows.fnExactFuncOfFormulaRow.domain false) (Rows.fnExactFuncOfFormulaSpec.post enc Try.prog Try.f3 false true false false) := by
  refine returnsInHanded_of_change (C := Try.checked) own started (by kernel_rfl) Try.func3
    (ChangeSpec.witness6 (enc := enc) (C := Try.checked) false ⟨#[], #[.int .i64 0, .string ByteArray.empty], []⟩ 8 (by kernel_rfl) (by kernel_rfl) (by kernel_rfl) (by kernel_rfl)) ?_
  intro W base args ds gs before hval0 hW hcnd _
  have hval : ∀ (j : Nat) t v, Try.f3.params[j]? = some t → args[j]? = some v → Value.okWide Try.prog W .any base t v := hval0
  have hW' := hW
  obtain ⟨p, q, hA0, hV, rfl, hfz, hnd⟩ := hW
  have hA : DataW.TrodAll enc Try.prog W 0 (fun _ => true) true Try.f3.params.toList args.toList ds p := hA0
  rw [Try.params3] at hA hval
  obtain ⟨v0, vs0, d0, ds0, p0, q0, hargs0, rfl, rfl, h0, r0⟩ := trodAll_cons hA
  obtain ⟨v1, vs1, d1, ds1, p1, q1, hargs1, rfl, rfl, h1, r1⟩ := trodAll_cons r0
  obtain ⟨rfl, rfl, rfl⟩ := trodAll_nil r1
  obtain rfl : args = #[v0, v1] := by cases args; simp_all
  obtain ⟨rfl, rfl⟩ := trodVars_none hV
  have k0 := h0
  have lt0 : ∀ x ∈ p0, x.block < W.heap.size := by obtain ⟨m, hm⟩ := k0; exact DataW.trod_lt m _ _ _ hm
  obtain ⟨y0, e0, x0, z0⟩ := arg_open (T := (.int .i64)) tysOk (by rfl) (by decide) (hval 0 2 v0 rfl rfl) h0
  have k1 := h1
  have lt1 : ∀ x ∈ p1, x.block < W.heap.size := by obtain ⟨m, hm⟩ := k1; exact DataW.trod_lt m _ _ _ hm
  obtain ⟨y1, e1, x1, z1⟩ := arg_open (T := .str) tysOk (by rfl) (by decide) (hval 1 9 v1 rfl rfl) h1
  obtain ⟨K, h⟩ := PuFnExactFuncOfFormula (y0, y1, ()) ⟨z0, z1, trivial⟩
  have hR : RX Try.prog as_w_FnExactFuncOfFormula true W (fun b => b < W.heap.size) [v0, v1] (y0, y1, ()) := ⟨v0.cells.toList, _, by rw [← e0], x0, ⟨v1.cells.toList, _, by rw [← e1], x1, rfl⟩⟩
  refine (((ok_w_FnExactFuncOfFormula K).plain (by rfl) W [v0, v1] (y0, y1, ()) true hR h).calls (c := bodyOf Try.f3) Try.func3 (by kernel_rfl) (by kernel_rfl)).mono ?_
  rintro e W' ⟨v, rfl, hr⟩
  obtain ⟨rfl, bel⟩ := ret_bool hr
  exact ⟨_, rfl, _, _, _, [], _, [], hW', trodAll_mk1 (shut_bool Try.underlying4 _), (trodAll_cons_mk (Below.trod laidOut (by kernel_rfl) (of_decide_eq_true (by kernel_rfl)) k0 bel lt0) (trodAll_cons_mk (Below.trod laidOut (by kernel_rfl) (of_decide_eq_true (by kernel_rfl)) k1 bel lt1) trodAll_mk0)), rfl, bel.frame _, fun h => by cases h⟩
theorem over : Rows.fnExactFuncOfFormulaRow.holds Try.pinned (OpenSpec.ofChange Rows.fnExactFuncOfFormulaSpec) :=
  OpenClaim.holds_of_wide 3 Try.f3 rfl rfl rfl rfl rfl rfl rfl ⟨rfl, rfl, rfl, rfl, rfl⟩ rfl rfl rfl rfl rfl (by kernel_rfl) Try.func3 (by kernel_rfl)
    (of_decide_eq_true (by kernel_rfl)) (by unfold Func.isWrapper; first | (rw [if_pos (by decide +kernel)]; kernel_rfl) | (rw [if_neg (by decide +kernel)]; exact ⟨rfl, rfl⟩))
    (fun os started H enc _ => lifted os started H enc)
theorem proved : Rows.FnExactFuncOfFormulaSaid := over
end Go.Proofs.Ytefmjjpdflpnaaa.E.RowFnExactFuncOfFormula
namespace Go.Proofs.Ytefmjjpdflpnaaa
/-- The row, under a short name, for the claim. -/
theorem fnExactFuncOfFormula_holds : Rows.FnExactFuncOfFormulaSaid := Go.Proofs.Ytefmjjpdflpnaaa.E.RowFnExactFuncOfFormula.proved
end Go.Proofs.Ytefmjjpdflpnaaa
