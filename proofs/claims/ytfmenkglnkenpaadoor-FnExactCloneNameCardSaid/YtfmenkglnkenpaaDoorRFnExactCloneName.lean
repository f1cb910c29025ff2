/-
  The row of the law FnExactCloneName: for every input it returns true and leaves its arguments as they were; no condition.
-/
import Derived.Test.YtfmenkglnkenpaaDoorCFnExactCloneName7
import Derived.Test.YtfmenkglnkenpaaDoorRows
import Derived.Test.YtfmenkglnkenpaaDoorTie
import Derived.Test.YtfmenkglnkenpaaDoorCards
import Derived.LaidMore
import Derived.ProofKit
import Derived.OpenShut
import Derived.Stop.Joined
import Derived.SevenTiedAt
namespace Go.Proofs.YtfmenkglnkenpaaDoor.E.RowFnExactCloneName
open Go Go.RowKit Go.ChangeShapes Go.WideShapes Go.ChangeAt Go.Proofs Go.Proofs.YtfmenkglnkenpaaDoor Go.Proofs.YtfmenkglnkenpaaDoor.E
set_option linter.unusedVariables false
set_option linter.unusedSimpArgs false
theorem own : ownKnob Tryd.prog.godebug = none := by kernel_rfl
theorem laidOut : laidOutB Tryd.prog = true := by kernel_rfl
theorem door_met (os : Os) (args : Array Value) : laidMetH Tryd.prog Rows.fnExactCloneNameRow.laid ((World.doorLaid Tryd.prog 400 os).forCall (fun _ _ => 0) ⟨#[], args, []⟩).memory :=
  laidMetH_of_parts3 (fuel := 8) (laidMet_of_run' 8 (by kernel_rfl) (by kernel_rfl)) (by kernel_rfl) (by kernel_rfl)
set_option maxRecDepth 100000 in
theorem lifted (os : Os) (started : os.Started) (H : Type) (enc : TypeId × Value → H) :
    ReturnsInHanded {} Tryd.checked os 3 .any (fun w args => (Rows.fnExactCloneNameSpec.pre enc Tryd.prog Tryd.f3 [] false w args ∧ laidMetH Tryd.prog Rows.fnExactCloneNameRow.laid w) ∧ sizedMet enc Tryd.prog Tryd.f3 (OpenSpec.ofChange Rows.fnExactCloneNameSpec) false w args)
      (Rows.fnExactCloneNameSpec.post enc Tryd.prog Tryd.f3 false true false false) := by
  refine returnsInHanded_of_change_and (C := Tryd.checked) (X := fun w _ => laidMetH Tryd.prog Rows.fnExactCloneNameRow.laid w) (fun _ _ _ hh h => h.of_heap hh) own started (by kernel_rfl) Tryd.func3
    (ChangeSpec.witness_shaped (enc := enc) (C := Tryd.checked) (os := os) (X := fun w _ => laidMetH Tryd.prog Rows.fnExactCloneNameRow.laid w) false (World.doorLaid Tryd.prog 400 os) #[.slice none 0 0] 8 rfl (World.shaped_of_RefB (by kernel_rfl) (by kernel_rfl)) (by kernel_rfl) (by kernel_rfl) (by kernel_rfl) (door_met os _)) ?_
  intro W base args ds gs before hval0 hW hcnd _ hL _
  have hval : ∀ (j : Nat) t v, Tryd.f3.params[j]? = some t → args[j]? = some v → Value.okWide Tryd.prog W .any base t v := hval0
  have hW' := hW
  obtain ⟨p, q, hA0, hV, rfl, hfz, hnd⟩ := hW
  have hA : DataW.TrodAll enc Tryd.prog W 0 (fun _ => true) true Tryd.f3.params.toList args.toList ds p := hA0
  rw [Tryd.params3] at hA hval
  obtain ⟨v0, vs0, d0, ds0, p0, q0, hargs0, rfl, rfl, h0, r0⟩ := trodAll_cons hA
  obtain ⟨rfl, rfl, rfl⟩ := trodAll_nil r0
  obtain rfl : args = #[v0] := by cases args; simp_all
  obtain ⟨rfl, rfl⟩ := trodVars_none hV
  have k0 := h0
  have lt0 : ∀ x ∈ p0, x.block < W.heap.size := by obtain ⟨m, hm⟩ := k0; exact DataW.trod_lt m _ _ _ hm
  obtain ⟨y0, e0, x0, z0⟩ := arg_open (T := (.sl (.st (.pair (.int .i64) (.pair (.int .i64) .unit))))) tysOk (by rfl) (by decide) (hval 0 22 v0 rfl rfl) h0
  obtain ⟨K, h⟩ := PuFnExactCloneName (y0, ()) ⟨z0, trivial⟩
  have hR : RX Tryd.prog as_w_FnExactCloneName true W (fun b => b < W.heap.size) [v0] (y0, ()) := ⟨v0.cells.toList, _, by rw [← e0], x0, rfl⟩
  refine (((ok_w_FnExactCloneName K).plain (by rfl) W [v0] (y0, ()) true hR h).calls (c := bodyOf Tryd.f3) Tryd.func3 (by kernel_rfl) (by kernel_rfl)).mono ?_
  rintro e W' ⟨v, rfl, hr⟩
  obtain ⟨rfl, bel⟩ := ret_bool hr
  exact ⟨_, rfl, _, _, _, [], _, [], hW', trodAll_mk1 (shut_bool Tryd.underlying4 _), (trodAll_cons_mk (Below.trod laidOut (by kernel_rfl) (of_decide_eq_true (by kernel_rfl)) k0 bel lt0) trodAll_mk0), rfl, bel.frame _, fun h => by cases h⟩
theorem over : Rows.fnExactCloneNameRow.holds Tryd.pinned (OpenSpec.ofChange Rows.fnExactCloneNameSpec) :=
  OpenClaim.holds_of_wide 3 Tryd.f3 rfl rfl rfl rfl rfl rfl rfl ⟨rfl, rfl, rfl, rfl, rfl⟩ rfl rfl rfl rfl rfl (by kernel_rfl) Tryd.func3 (by kernel_rfl)
    (of_decide_eq_true (by kernel_rfl)) (by unfold Func.isWrapper; first | (rw [if_pos (by decide +kernel)]; kernel_rfl) | (rw [if_neg (by decide +kernel)]; exact ⟨rfl, rfl⟩))
    (fun os started H enc _ => lifted os started H enc)
theorem proved : Rows.FnExactCloneNameCardSaid :=
  Claim7.holds_tied_plain_at .later [] [.data, .data, .data] true (true, "532c69406b30b278a96a9d7f704c7da0caadaee5eb8a2fa5c5c33c485013dfb7") false
    over (fun _ h => by cases h) (by kernel_rfl) (fun _ h => by cases h) fnExactCloneName_row_tie rfl ⟨rfl, rfl⟩ (by kernel_rfl) rfl
    (fun f fn hf hfn => by
      obtain rfl : f = 3 := Option.some.inj ((show Tryd.prog.funcNamed "loop.example/g01323/laws.FnExactCloneName" = some 3 by kernel_rfl).symm.trans hf) |>.symm
      obtain rfl : fn = Tryd.f3 := (Option.some.inj (Tryd.func3.symm.trans hfn)).symm
      exact ⟨by kernel_rfl, fun j t ht => by
        rw [Tryd.params3] at ht
        have h3 : t = 22 := by
          rcases j with _ | j
          · simp at ht; simp [ht.symm]
          · simp at ht
        rcases h3 with rfl
        exact (show Tryd.prog.wantsStandIn 22 = false by kernel_rfl)⟩)
    (by kernel_rfl)
end Go.Proofs.YtfmenkglnkenpaaDoor.E.RowFnExactCloneName
namespace Go.Proofs.YtfmenkglnkenpaaDoor
/-- The card, under a short name, for the claim. -/
theorem fnExactCloneName_holds : Rows.FnExactCloneNameCardSaid := Go.Proofs.YtfmenkglnkenpaaDoor.E.RowFnExactCloneName.proved
end Go.Proofs.YtfmenkglnkenpaaDoor
