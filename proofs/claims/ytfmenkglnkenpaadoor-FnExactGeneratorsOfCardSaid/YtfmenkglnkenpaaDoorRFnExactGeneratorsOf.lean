/-
  The row of the law FnExactGeneratorsOf: for every input it returns true and leaves its arguments as they were; no condition.
-/
import Derived.Test.YtfmenkglnkenpaaDoorCFnExactGeneratorsOf7
import Derived.Test.YtfmenkglnkenpaaDoorRows
import Derived.Test.YtfmenkglnkenpaaDoorTie
import Derived.Test.YtfmenkglnkenpaaDoorCards
import Derived.LaidMore
import Derived.Lay
import Derived.MakeChecks
import Derived.ProofKit
import Derived.OpenShut
import Derived.Stop.Joined
import Derived.SevenTiedAt
namespace Go.Proofs.YtfmenkglnkenpaaDoor.E.RowFnExactGeneratorsOf
open Go Go.RowKit Go.ChangeShapes Go.WideShapes Go.ChangeAt Go.Proofs Go.Proofs.YtfmenkglnkenpaaDoor Go.Proofs.YtfmenkglnkenpaaDoor.E
set_option linter.unusedVariables false
set_option linter.unusedSimpArgs false
theorem own : ownKnob Tryd.prog.godebug = none := by kernel_rfl
theorem laidOut : laidOutB Tryd.prog = true := by kernel_rfl
set_option maxRecDepth 100000 in
theorem lifted (os : Os) (started : os.Started) (H : Type) (enc : TypeId × Value → H) :
    ReturnsInHanded {} Tryd.checked os 4 .any (fun w args => (Rows.fnExactGeneratorsOfSpec.pre enc Tryd.prog Tryd.f4 [] false w args ∧ laidMetH Tryd.prog Rows.fnExactGeneratorsOfRow.laid w) ∧ sizedMet enc Tryd.prog Tryd.f4 (OpenSpec.ofChange Rows.fnExactGeneratorsOfSpec) false w args)
      (Rows.fnExactGeneratorsOfSpec.post enc Tryd.prog Tryd.f4 false true false false) := by
  refine returnsInHanded_of_change_and (C := Tryd.checked) (X := fun w _ => laidMetH Tryd.prog Rows.fnExactGeneratorsOfRow.laid w) (fun _ _ _ hh h => h.of_heap hh) own started (by kernel_rfl) Tryd.func4
    (ChangeSpec.witness_shaped (enc := enc) (C := Tryd.checked) (os := os) (X := fun w _ => laidMetH Tryd.prog Rows.fnExactGeneratorsOfRow.laid w) false (World.laidAll Tryd.prog os Rows.fnExactGeneratorsOfRow.laid) #[.string ByteArray.empty] 8 (World.laidAll_os _ _ _)
      (World.shaped_of_ZipB (by kernel_rfl) (by kernel_rfl)) (by kernel_rfl) (by kernel_rfl) (by kernel_rfl)
      (by rw [MakeChecks.laidMetH_plain _ _ _ (by kernel_rfl)]; exact laidMet_laidAll _ (by kernel_rfl) (by kernel_rfl))) ?_
  intro W base args ds gs before hval0 hW hcnd _ hL _
  have hval : ∀ (j : Nat) t v, Tryd.f4.params[j]? = some t → args[j]? = some v → Value.okWide Tryd.prog W .any base t v := hval0
  have hW' := hW
  obtain ⟨p, q, hA0, hV, rfl, hfz, hnd⟩ := hW
  have hA : DataW.TrodAll enc Tryd.prog W 0 (fun _ => true) true Tryd.f4.params.toList args.toList ds p := hA0
  rw [Tryd.params4] at hA hval
  obtain ⟨v0, vs0, d0, ds0, p0, q0, hargs0, rfl, rfl, h0, r0⟩ := trodAll_cons hA
  obtain ⟨rfl, rfl, rfl⟩ := trodAll_nil r0
  obtain rfl : args = #[v0] := by cases args; simp_all
  obtain ⟨rfl, rfl⟩ := trodVars_none hV
  have k0 := h0
  have lt0 : ∀ x ∈ p0, x.block < W.heap.size := by obtain ⟨m, hm⟩ := k0; exact DataW.trod_lt m _ _ _ hm
  obtain ⟨y0, e0, x0, z0⟩ := arg_open (T := .str) tysOk (by rfl) (by decide) (hval 0 9 v0 rfl rfl) h0
  obtain ⟨K, h⟩ := PuFnExactGeneratorsOf (y0, ()) ⟨z0, trivial⟩
  have hR : RX Tryd.prog as_w_FnExactGeneratorsOf true W (fun b => b < W.heap.size) [v0] (y0, ()) := ⟨v0.cells.toList, _, by rw [← e0], x0, rfl⟩
  refine (((ok_w_FnExactGeneratorsOf K).plain (by rfl) W [v0] (y0, ()) true hR h).calls (c := bodyOf Tryd.f4) Tryd.func4 (by kernel_rfl) (by kernel_rfl)).mono ?_
  rintro e W' ⟨v, rfl, hr⟩
  obtain ⟨rfl, bel⟩ := ret_bool hr
  exact ⟨_, rfl, _, _, _, [], _, [], hW', trodAll_mk1 (shut_bool Tryd.underlying4 _), (trodAll_cons_mk (Below.trod laidOut (by kernel_rfl) (of_decide_eq_true (by kernel_rfl)) k0 bel lt0) trodAll_mk0), rfl, bel.frame _, fun h => by cases h⟩
theorem over : Rows.fnExactGeneratorsOfRow.holds Tryd.pinned (OpenSpec.ofChange Rows.fnExactGeneratorsOfSpec) :=
  OpenClaim.holds_of_wide 4 Tryd.f4 rfl rfl rfl rfl rfl rfl rfl ⟨rfl, rfl, rfl, rfl, rfl⟩ rfl rfl rfl rfl rfl (by kernel_rfl) Tryd.func4 (by kernel_rfl)
    (of_decide_eq_true (by kernel_rfl)) (by unfold Func.isWrapper; first | (rw [if_pos (by decide +kernel)]; kernel_rfl) | (rw [if_neg (by decide +kernel)]; exact ⟨rfl, rfl⟩))
    (fun os started H enc _ => lifted os started H enc)
theorem proved : Rows.FnExactGeneratorsOfCardSaid :=
  Claim7.holds_tied_plain_at .later [] [.data, .pinned] true (true, "532c69406b30b278a96a9d7f704c7da0caadaee5eb8a2fa5c5c33c485013dfb7") false
    over (fun _ h => by cases h) (by kernel_rfl) (fun _ h => by cases h) fnExactGeneratorsOf_row_tie rfl ⟨rfl, rfl⟩ (by kernel_rfl) rfl
    (fun f fn hf hfn => by
      obtain rfl : f = 4 := Option.some.inj ((show Tryd.prog.funcNamed "loop.example/g01323/laws.FnExactGeneratorsOf" = some 4 by kernel_rfl).symm.trans hf) |>.symm
      obtain rfl : fn = Tryd.f4 := (Option.some.inj (Tryd.func4.symm.trans hfn)).symm
      exact ⟨by kernel_rfl, fun j t ht => by
        rw [Tryd.params4] at ht
        have h3 : t = 9 := by
          rcases j with _ | j
          · simp at ht; simp [ht.symm]
          · simp at ht
        rcases h3 with rfl
        exact (show Tryd.prog.wantsStandIn 9 = false by kernel_rfl)⟩)
    (by kernel_rfl)
end Go.Proofs.YtfmenkglnkenpaaDoor.E.RowFnExactGeneratorsOf
namespace Go.Proofs.YtfmenkglnkenpaaDoor
/-- The card, under a short name, for the claim. -/
theorem fnExactGeneratorsOf_holds : Rows.FnExactGeneratorsOfCardSaid := Go.Proofs.YtfmenkglnkenpaaDoor.E.RowFnExactGeneratorsOf.proved
end Go.Proofs.YtfmenkglnkenpaaDoor
