/-
  The row of the law FnPromiseOfAll: for every input it returns true and leaves its arguments as they were; no condition.
-/
import Derived.Test.YtmlgfaojfmkdnaaGreatDoorCFnPromiseOfAll10
import Derived.Test.YtmlgfaojfmkdnaaGreatDoorRows
import Derived.Test.YtmlgfaojfmkdnaaGreatDoorTie
import Derived.Test.YtmlgfaojfmkdnaaGreatDoorCards
import Derived.LaidMore
import Derived.Lay
import Derived.MakeChecks
import Derived.ProofKit
import Derived.OpenShut
import Derived.Stop.Joined
import Derived.SevenTiedAt
namespace Go.Proofs.YtmlgfaojfmkdnaaGreatDoor.E.RowFnPromiseOfAll
open Go Go.RowKit Go.ChangeShapes Go.WideShapes Go.ChangeAt Go.Proofs Go.Proofs.YtmlgfaojfmkdnaaGreatDoor Go.Proofs.YtmlgfaojfmkdnaaGreatDoor.E
set_option linter.unusedVariables false
set_option linter.unusedSimpArgs false
theorem own : ownKnob Tryz.prog.godebug = none := by kernel_rfl
theorem laidOut : laidOutB Tryz.prog = true := by kernel_rfl
set_option maxRecDepth 100000 in
theorem lifted (os : Os) (started : os.Started) (H : Type) (enc : TypeId × Value → H) :
    ReturnsInHanded {} Tryz.checked os 4 .any (fun w args => (Rows.fnPromiseOfAllSpec.pre enc Tryz.prog Tryz.f4 [] false w args ∧ laidMetH Tryz.prog Rows.fnPromiseOfAllRow.laid w) ∧ sizedMet enc Tryz.prog Tryz.f4 (OpenSpec.ofChange Rows.fnPromiseOfAllSpec) false w args)
      (Rows.fnPromiseOfAllSpec.post enc Tryz.prog Tryz.f4 false true false false) := by
  refine returnsInHanded_of_change_and (C := Tryz.checked) (X := fun w _ => laidMetH Tryz.prog Rows.fnPromiseOfAllRow.laid w) (fun _ _ _ hh h => h.of_heap hh) own started (by kernel_rfl) Tryz.func4
    (ChangeSpec.witness_shaped (enc := enc) (C := Tryz.checked) (os := os) (X := fun w _ => laidMetH Tryz.prog Rows.fnPromiseOfAllRow.laid w) false (World.laidAll Tryz.prog os Rows.fnPromiseOfAllRow.laid) #[.slice none 0 0, .int .i64 0, .agg #[.int .i64 0, .int .i64 0]] 8 (World.laidAll_os _ _ _)
      (World.shaped_of_ZipB (by kernel_rfl) (by kernel_rfl)) (by kernel_rfl) (by kernel_rfl) (by kernel_rfl)
      (by rw [MakeChecks.laidMetH_plain _ _ _ (by kernel_rfl)]; exact laidMet_laidAll _ (by kernel_rfl) (by kernel_rfl))) ?_
  intro W base args ds gs before hval0 hW hcnd _ hL _
  have hval : ∀ (j : Nat) t v, Tryz.f4.params[j]? = some t → args[j]? = some v → Value.okWide Tryz.prog W .any base t v := hval0
  have hW' := hW
  obtain ⟨p, q, hA0, hV, rfl, hfz, hnd⟩ := hW
  have hA : DataW.TrodAll enc Tryz.prog W 0 (fun _ => true) true Tryz.f4.params.toList args.toList ds p := hA0
  rw [Tryz.params4] at hA hval
  obtain ⟨v0, vs0, d0, ds0, p0, q0, hargs0, rfl, rfl, h0, r0⟩ := trodAll_cons hA
  obtain ⟨v1, vs1, d1, ds1, p1, q1, hargs1, rfl, rfl, h1, r1⟩ := trodAll_cons r0
  obtain ⟨v2, vs2, d2, ds2, p2, q2, hargs2, rfl, rfl, h2, r2⟩ := trodAll_cons r1
  obtain ⟨rfl, rfl, rfl⟩ := trodAll_nil r2
  obtain rfl : args = #[v0, v1, v2] := by cases args; simp_all
  obtain ⟨rfl, rfl⟩ := trodVars_none hV
  have k0 := h0
  have lt0 : ∀ x ∈ p0, x.block < W.heap.size := by obtain ⟨m, hm⟩ := k0; exact DataW.trod_lt m _ _ _ hm
  obtain ⟨y0, e0, x0, z0⟩ := arg_open (T := (.sl (.st (.pair (.int .i64) (.pair (.int .i64) .unit))))) tysOk (by rfl) (by decide) (hval 0 27 v0 rfl rfl) h0
  have k1 := h1
  have lt1 : ∀ x ∈ p1, x.block < W.heap.size := by obtain ⟨m, hm⟩ := k1; exact DataW.trod_lt m _ _ _ hm
  obtain ⟨y1, e1, x1, z1⟩ := arg_open (T := (.int .i64)) tysOk (by rfl) (by decide) (hval 1 2 v1 rfl rfl) h1
  have k2 := h2
  have lt2 : ∀ x ∈ p2, x.block < W.heap.size := by obtain ⟨m, hm⟩ := k2; exact DataW.trod_lt m _ _ _ hm
  obtain ⟨y2, e2, x2, z2⟩ := arg_open (T := (.st (.pair (.int .i64) (.pair (.int .i64) .unit)))) tysOk (by rfl) (by decide) (hval 2 40 v2 rfl rfl) h2
  obtain ⟨K, h⟩ := PuFnPromiseOfAll (y0, y1, y2, ()) ⟨z0, z1, z2, trivial⟩
  have hR : RX Tryz.prog as_w_FnPromiseOfAll true W (fun b => b < W.heap.size) [v0, v1, v2] (y0, y1, y2, ()) := ⟨v0.cells.toList, _, by rw [← e0], x0, ⟨v1.cells.toList, _, by rw [← e1], x1, ⟨v2.cells.toList, _, by rw [← e2], x2, rfl⟩⟩⟩
  refine (((ok_w_FnPromiseOfAll K).plain (by rfl) W [v0, v1, v2] (y0, y1, y2, ()) true hR h).calls (c := bodyOf Tryz.f4) Tryz.func4 (by kernel_rfl) (by kernel_rfl)).mono ?_
  rintro e W' ⟨v, rfl, hr⟩
  obtain ⟨rfl, bel⟩ := ret_bool hr
  exact ⟨_, rfl, _, _, _, [], _, [], hW', trodAll_mk1 (shut_bool Tryz.underlying4 _), (trodAll_cons_mk (Below.trod laidOut (by kernel_rfl) (of_decide_eq_true (by kernel_rfl)) k0 bel lt0) (trodAll_cons_mk (Below.trod laidOut (by kernel_rfl) (of_decide_eq_true (by kernel_rfl)) k1 bel lt1) (trodAll_cons_mk (Below.trod laidOut (by kernel_rfl) (of_decide_eq_true (by kernel_rfl)) k2 bel lt2) trodAll_mk0))), rfl, bel.frame _, fun h => by cases h⟩
theorem over : Rows.fnPromiseOfAllRow.holds Tryz.pinned (OpenSpec.ofChange Rows.fnPromiseOfAllSpec) :=
  OpenClaim.holds_of_wide 4 Tryz.f4 rfl rfl rfl rfl rfl rfl rfl ⟨rfl, rfl, rfl, rfl, rfl⟩ rfl rfl rfl rfl rfl (by kernel_rfl) Tryz.func4 (by kernel_rfl)
    (of_decide_eq_true (by kernel_rfl)) (by unfold Func.isWrapper; first | (rw [if_pos (by decide +kernel)]; kernel_rfl) | (rw [if_neg (by decide +kernel)]; exact ⟨rfl, rfl⟩))
    (fun os started H enc _ => lifted os started H enc)
theorem proved : Rows.FnPromiseOfAllCardSaid :=
  Claim7.holds_tied_plain_at .later [] [.data, .data, .data, .data, .pinned] true (true, "8a332b0e59a0e9c8d94250ac12bc2d943f6d481f626090cf3445cccad9013b59") false
    over (fun _ h => by cases h) (by kernel_rfl) (fun _ h => by cases h) fnPromiseOfAll_row_tie rfl ⟨rfl, rfl⟩ (by kernel_rfl) rfl
    (fun f fn hf hfn => by
      obtain rfl : f = 4 := Option.some.inj ((show Tryz.prog.funcNamed "loop.example/g01323/laws.FnPromiseOfAll" = some 4 by kernel_rfl).symm.trans hf) |>.symm
      obtain rfl : fn = Tryz.f4 := (Option.some.inj (Tryz.func4.symm.trans hfn)).symm
      exact ⟨by kernel_rfl, fun j t ht => by
        rw [Tryz.params4] at ht
        have h3 : t = 27 ∨ t = 2 ∨ t = 40 := by
          rcases j with _ | _ | _ | j
          · simp at ht; simp [ht.symm]
          · simp at ht; simp [ht.symm]
          · simp at ht; simp [ht.symm]
          · simp at ht
        rcases h3 with rfl | rfl | rfl
        · exact (show Tryz.prog.wantsStandIn 27 = false by kernel_rfl)
        · exact (show Tryz.prog.wantsStandIn 2 = false by kernel_rfl)
        · exact (show Tryz.prog.wantsStandIn 40 = false by kernel_rfl)⟩)
    (by kernel_rfl)
end Go.Proofs.YtmlgfaojfmkdnaaGreatDoor.E.RowFnPromiseOfAll
namespace Go.Proofs.YtmlgfaojfmkdnaaGreatDoor
/-- The card, under a short name, for the claim. -/
theorem fnPromiseOfAll_holds : Rows.FnPromiseOfAllCardSaid := Go.Proofs.YtmlgfaojfmkdnaaGreatDoor.E.RowFnPromiseOfAll.proved
end Go.Proofs.YtmlgfaojfmkdnaaGreatDoor
