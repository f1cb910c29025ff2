/-
  No cell of these rows narrows 'for every input' (looked for: loops, veiled, ifaces, maps, wideKeys, modest, calm, conditions, laid).
  DERIVED. THE GIVEN ROWS OF THIS SEAT. 12 by the template 'for every input the law returns true; each argument reads behind the call as it read before'; 0 by the template 'total and deterministic' (their statements: YtieiajeggahipaaTotals.lean).
  GIVEN WITH THE SEED: the statements are not yours to turn. If you find one false, say at which input.
  Laid BY PROGRAM, IN A SANDBOX (cutbox-rows.mjs): the forced cells as the released guide's own fill.sh prints them over the translation b2ab7a79d66657c8… (all of the seat's roots in one cut). By AI agents, Wed Nov 11 2026. No macro, syntax, notation, axiom, sorry.
-/
import Derived.Test.YtieiajeggahipaaChecked
import GoSem.Claim
import GoSem.ClaimJoined
import GoSem.ClaimMapViews
import Derived.JoinedTies
import Derived.KernelRfl
namespace Go.Proofs.Ytieiajeggahipaa
/- THE CELL 'sum', in the pinned program and in every row, IS THE sha256 OF THE DUMP (.gsa) THAT YtieiajeggahipaaProg.lean LOADS. Nothing in Lean hashes anything: it is a label: what it is worth is what the hold of that sum in a sandbox is worth. -/
noncomputable def Try.pinned : Pinned := { name := "ytieiajeggahipaa", sum := "b2ab7a79d66657c862aadace16155b6ceb69e293085f1001e7803ea0eaab5d9a", checked := Try.checked }
namespace Rows
def none {H : Type} : Left H := { results := [], args := [] }

/-- 'laws.FnExactKindCounts': WHATEVER THE INPUT: true; the input reads as it did. -/
def fnExactKindCountsSpec : ChangeSpec := { name := "fnExactKindCounts", fn := fun _ => fun
  | [d] => { results := [.lit (.bool true)], args := [d] }
  | _ => none }
def fnExactKindCountsRow : OpenClaim := { program := "ytieiajeggahipaa", sum := "b2ab7a79d66657c862aadace16155b6ceb69e293085f1001e7803ea0eaab5d9a", func := "loop.example/g01323/laws.FnExactKindCounts", spec := "fnExactKindCounts", apart := false }
def FnExactKindCountsSaid : Prop := fnExactKindCountsRow.holds Try.pinned (OpenSpec.ofChange fnExactKindCountsSpec)

/-- ITS FALSE NEIGHBOUR: 'it returns false'. Refute it at one input. -/
def fnExactKindCountsWrong : ChangeSpec := { name := "fnExactKindCounts", fn := fun _ => fun
  | [d] => { results := [.lit (.bool false)], args := [d] }
  | _ => none }
def FnExactKindCountsWrongFalsely : Prop := fnExactKindCountsRow.holds Try.pinned (OpenSpec.ofChange fnExactKindCountsWrong)

/-- 'laws.FnExactCountSolutions': WHATEVER THE INPUT: true; the input reads as it did. -/
def fnExactCountSolutionsSpec : ChangeSpec := { name := "fnExactCountSolutions", fn := fun _ => fun
  | [d] => { results := [.lit (.bool true)], args := [d] }
  | _ => none }
def fnExactCountSolutionsRow : OpenClaim := { program := "ytieiajeggahipaa", sum := "b2ab7a79d66657c862aadace16155b6ceb69e293085f1001e7803ea0eaab5d9a", func := "loop.example/g01323/laws.FnExactCountSolutions", spec := "fnExactCountSolutions", unfollowed := true, recurses := true, apart := false }
def FnExactCountSolutionsSaid : Prop := fnExactCountSolutionsRow.holds Try.pinned (OpenSpec.ofChange fnExactCountSolutionsSpec)

/-- ITS FALSE NEIGHBOUR: 'it returns false'. Refute it at one input. -/
def fnExactCountSolutionsWrong : ChangeSpec := { name := "fnExactCountSolutions", fn := fun _ => fun
  | [d] => { results := [.lit (.bool false)], args := [d] }
  | _ => none }
def FnExactCountSolutionsWrongFalsely : Prop := fnExactCountSolutionsRow.holds Try.pinned (OpenSpec.ofChange fnExactCountSolutionsWrong)

/-- 'laws.FnExactNewDesk': WHATEVER THE INPUT: true; the input reads as it did. -/
def fnExactNewDeskSpec : ChangeSpec := { name := "fnExactNewDesk", fn := fun _ => fun
  | [] => { results := [.lit (.bool true)], args := [] }
  | _ => none }
def fnExactNewDeskRow : OpenClaim := { program := "ytieiajeggahipaa", sum := "b2ab7a79d66657c862aadace16155b6ceb69e293085f1001e7803ea0eaab5d9a", func := "loop.example/g01323/laws.FnExactNewDesk", spec := "fnExactNewDesk", inPlace := ["internal/bytealg.IndexByteString", "internal/bytealg.IndexString"], named := ["internal/bytealg.MaxLen"], apart := false }
def FnExactNewDeskSaid : Prop := fnExactNewDeskRow.holds Try.pinned (OpenSpec.ofChange fnExactNewDeskSpec)

/-- ITS FALSE NEIGHBOUR: 'it returns false'. Refute it at one input. -/
def fnExactNewDeskWrong : ChangeSpec := { name := "fnExactNewDesk", fn := fun _ => fun
  | [] => { results := [.lit (.bool false)], args := [] }
  | _ => none }
def FnExactNewDeskWrongFalsely : Prop := fnExactNewDeskRow.holds Try.pinned (OpenSpec.ofChange fnExactNewDeskWrong)

/-- 'laws.FnExactSatisfiedBy': WHATEVER THE INPUT: true; the input reads as it did. -/
def fnExactSatisfiedBySpec : ChangeSpec := { name := "fnExactSatisfiedBy", fn := fun _ => fun
  | [d1, d2] => { results := [.lit (.bool true)], args := [d1, d2] }
  | _ => none }
def fnExactSatisfiedByRow : OpenClaim := { program := "ytieiajeggahipaa", sum := "b2ab7a79d66657c862aadace16155b6ceb69e293085f1001e7803ea0eaab5d9a", func := "loop.example/g01323/laws.FnExactSatisfiedBy", spec := "fnExactSatisfiedBy", unfollowed := true, recurses := true, apart := false }
def FnExactSatisfiedBySaid : Prop := fnExactSatisfiedByRow.holds Try.pinned (OpenSpec.ofChange fnExactSatisfiedBySpec)

/-- ITS FALSE NEIGHBOUR: 'it returns false'. Refute it at one input. -/
def fnExactSatisfiedByWrong : ChangeSpec := { name := "fnExactSatisfiedBy", fn := fun _ => fun
  | [d1, d2] => { results := [.lit (.bool false)], args := [d1, d2] }
  | _ => none }
def FnExactSatisfiedByWrongFalsely : Prop := fnExactSatisfiedByRow.holds Try.pinned (OpenSpec.ofChange fnExactSatisfiedByWrong)

/-- 'laws.FnExactSolutionsOf': WHATEVER THE INPUT: true; the input reads as it did. -/
def fnExactSolutionsOfSpec : ChangeSpec := { name := "fnExactSolutionsOf", fn := fun _ => fun
  | [d] => { results := [.lit (.bool true)], args := [d] }
  | _ => none }
def fnExactSolutionsOfRow : OpenClaim := { program := "ytieiajeggahipaa", sum := "b2ab7a79d66657c862aadace16155b6ceb69e293085f1001e7803ea0eaab5d9a", func := "loop.example/g01323/laws.FnExactSolutionsOf", spec := "fnExactSolutionsOf", unfollowed := true, recurses := true, apart := false }
def FnExactSolutionsOfSaid : Prop := fnExactSolutionsOfRow.holds Try.pinned (OpenSpec.ofChange fnExactSolutionsOfSpec)

/-- ITS FALSE NEIGHBOUR: 'it returns false'. Refute it at one input. -/
def fnExactSolutionsOfWrong : ChangeSpec := { name := "fnExactSolutionsOf", fn := fun _ => fun
  | [d] => { results := [.lit (.bool false)], args := [d] }
  | _ => none }
def FnExactSolutionsOfWrongFalsely : Prop := fnExactSolutionsOfRow.holds Try.pinned (OpenSpec.ofChange fnExactSolutionsOfWrong)

/-- 'laws.FnExactMeetOfSolutions': WHATEVER THE INPUT: true; the input reads as it did. -/
def fnExactMeetOfSolutionsSpec : ChangeSpec := { name := "fnExactMeetOfSolutions", fn := fun _ => fun
  | [d] => { results := [.lit (.bool true)], args := [d] }
  | _ => none }
def fnExactMeetOfSolutionsRow : OpenClaim := { program := "ytieiajeggahipaa", sum := "b2ab7a79d66657c862aadace16155b6ceb69e293085f1001e7803ea0eaab5d9a", func := "loop.example/g01323/laws.FnExactMeetOfSolutions", spec := "fnExactMeetOfSolutions", unfollowed := true, recurses := true, apart := false }
def FnExactMeetOfSolutionsSaid : Prop := fnExactMeetOfSolutionsRow.holds Try.pinned (OpenSpec.ofChange fnExactMeetOfSolutionsSpec)

/-- ITS FALSE NEIGHBOUR: 'it returns false'. Refute it at one input. -/
def fnExactMeetOfSolutionsWrong : ChangeSpec := { name := "fnExactMeetOfSolutions", fn := fun _ => fun
  | [d] => { results := [.lit (.bool false)], args := [d] }
  | _ => none }
def FnExactMeetOfSolutionsWrongFalsely : Prop := fnExactMeetOfSolutionsRow.holds Try.pinned (OpenSpec.ofChange fnExactMeetOfSolutionsWrong)

/-- 'laws.FnExactFixVar': WHATEVER THE INPUT: true; the input reads as it did. -/
def fnExactFixVarSpec : ChangeSpec := { name := "fnExactFixVar", fn := fun _ => fun
  | [d1, d2, d3] => { results := [.lit (.bool true)], args := [d1, d2, d3] }
  | _ => none }
def fnExactFixVarRow : OpenClaim := { program := "ytieiajeggahipaa", sum := "b2ab7a79d66657c862aadace16155b6ceb69e293085f1001e7803ea0eaab5d9a", func := "loop.example/g01323/laws.FnExactFixVar", spec := "fnExactFixVar", unfollowed := true, recurses := true, apart := false }
def FnExactFixVarSaid : Prop := fnExactFixVarRow.holds Try.pinned (OpenSpec.ofChange fnExactFixVarSpec)

/-- ITS FALSE NEIGHBOUR: 'it returns false'. Refute it at one input. -/
def fnExactFixVarWrong : ChangeSpec := { name := "fnExactFixVar", fn := fun _ => fun
  | [d1, d2, d3] => { results := [.lit (.bool false)], args := [d1, d2, d3] }
  | _ => none }
def FnExactFixVarWrongFalsely : Prop := fnExactFixVarRow.holds Try.pinned (OpenSpec.ofChange fnExactFixVarWrong)

/-- 'laws.FnExactFlipInstance': WHATEVER THE INPUT: true; the input reads as it did. -/
def fnExactFlipInstanceSpec : ChangeSpec := { name := "fnExactFlipInstance", fn := fun _ => fun
  | [d] => { results := [.lit (.bool true)], args := [d] }
  | _ => none }
def fnExactFlipInstanceRow : OpenClaim := { program := "ytieiajeggahipaa", sum := "b2ab7a79d66657c862aadace16155b6ceb69e293085f1001e7803ea0eaab5d9a", func := "loop.example/g01323/laws.FnExactFlipInstance", spec := "fnExactFlipInstance", unfollowed := true, recurses := true, apart := false }
def FnExactFlipInstanceSaid : Prop := fnExactFlipInstanceRow.holds Try.pinned (OpenSpec.ofChange fnExactFlipInstanceSpec)

/-- ITS FALSE NEIGHBOUR: 'it returns false'. Refute it at one input. -/
def fnExactFlipInstanceWrong : ChangeSpec := { name := "fnExactFlipInstance", fn := fun _ => fun
  | [d] => { results := [.lit (.bool false)], args := [d] }
  | _ => none }
def FnExactFlipInstanceWrongFalsely : Prop := fnExactFlipInstanceRow.holds Try.pinned (OpenSpec.ofChange fnExactFlipInstanceWrong)

/-- 'laws.FnExactLeastSolution': WHATEVER THE INPUT: true; the input reads as it did. -/
def fnExactLeastSolutionSpec : ChangeSpec := { name := "fnExactLeastSolution", fn := fun _ => fun
  | [d] => { results := [.lit (.bool true)], args := [d] }
  | _ => none }
def fnExactLeastSolutionRow : OpenClaim := { program := "ytieiajeggahipaa", sum := "b2ab7a79d66657c862aadace16155b6ceb69e293085f1001e7803ea0eaab5d9a", func := "loop.example/g01323/laws.FnExactLeastSolution", spec := "fnExactLeastSolution", unfollowed := true, recurses := true, apart := false }
def FnExactLeastSolutionSaid : Prop := fnExactLeastSolutionRow.holds Try.pinned (OpenSpec.ofChange fnExactLeastSolutionSpec)

/-- ITS FALSE NEIGHBOUR: 'it returns false'. Refute it at one input. -/
def fnExactLeastSolutionWrong : ChangeSpec := { name := "fnExactLeastSolution", fn := fun _ => fun
  | [d] => { results := [.lit (.bool false)], args := [d] }
  | _ => none }
def FnExactLeastSolutionWrongFalsely : Prop := fnExactLeastSolutionRow.holds Try.pinned (OpenSpec.ofChange fnExactLeastSolutionWrong)

/-- 'laws.FnExactForcedOf': WHATEVER THE INPUT: true; the input reads as it did. -/
def fnExactForcedOfSpec : ChangeSpec := { name := "fnExactForcedOf", fn := fun _ => fun
  | [d] => { results := [.lit (.bool true)], args := [d] }
  | _ => none }
def fnExactForcedOfRow : OpenClaim := { program := "ytieiajeggahipaa", sum := "b2ab7a79d66657c862aadace16155b6ceb69e293085f1001e7803ea0eaab5d9a", func := "loop.example/g01323/laws.FnExactForcedOf", spec := "fnExactForcedOf", unfollowed := true, recurses := true, apart := false }
def FnExactForcedOfSaid : Prop := fnExactForcedOfRow.holds Try.pinned (OpenSpec.ofChange fnExactForcedOfSpec)

/-- ITS FALSE NEIGHBOUR: 'it returns false'. Refute it at one input. -/
def fnExactForcedOfWrong : ChangeSpec := { name := "fnExactForcedOf", fn := fun _ => fun
  | [d] => { results := [.lit (.bool false)], args := [d] }
  | _ => none }
def FnExactForcedOfWrongFalsely : Prop := fnExactForcedOfRow.holds Try.pinned (OpenSpec.ofChange fnExactForcedOfWrong)

/-- 'laws.FnExactNarrowDomains': WHATEVER THE INPUT: true; the input reads as it did. -/
def fnExactNarrowDomainsSpec : ChangeSpec := { name := "fnExactNarrowDomains", fn := fun _ => fun
  | [d1, d2] => { results := [.lit (.bool true)], args := [d1, d2] }
  | _ => none }
def fnExactNarrowDomainsRow : OpenClaim := { program := "ytieiajeggahipaa", sum := "b2ab7a79d66657c862aadace16155b6ceb69e293085f1001e7803ea0eaab5d9a", func := "loop.example/g01323/laws.FnExactNarrowDomains", spec := "fnExactNarrowDomains", unfollowed := true, recurses := true, apart := false }
def FnExactNarrowDomainsSaid : Prop := fnExactNarrowDomainsRow.holds Try.pinned (OpenSpec.ofChange fnExactNarrowDomainsSpec)

/-- ITS FALSE NEIGHBOUR: 'it returns false'. Refute it at one input. -/
def fnExactNarrowDomainsWrong : ChangeSpec := { name := "fnExactNarrowDomains", fn := fun _ => fun
  | [d1, d2] => { results := [.lit (.bool false)], args := [d1, d2] }
  | _ => none }
def FnExactNarrowDomainsWrongFalsely : Prop := fnExactNarrowDomainsRow.holds Try.pinned (OpenSpec.ofChange fnExactNarrowDomainsWrong)

/-- 'laws.FnExactEasyRow': WHATEVER THE INPUT: true; the input reads as it did. -/
def fnExactEasyRowSpec : ChangeSpec := { name := "fnExactEasyRow", fn := fun _ => fun
  | [d] => { results := [.lit (.bool true)], args := [d] }
  | _ => none }
def fnExactEasyRowRow : OpenClaim := { program := "ytieiajeggahipaa", sum := "b2ab7a79d66657c862aadace16155b6ceb69e293085f1001e7803ea0eaab5d9a", func := "loop.example/g01323/laws.FnExactEasyRow", spec := "fnExactEasyRow", inPlace := ["internal/bytealg.IndexByteString", "internal/bytealg.IndexString"], unfollowed := true, recurses := true, named := ["internal/bytealg.MaxLen"], apart := false }
def FnExactEasyRowSaid : Prop := fnExactEasyRowRow.holds Try.pinned (OpenSpec.ofChange fnExactEasyRowSpec)

/-- ITS FALSE NEIGHBOUR: 'it returns false'. Refute it at one input. -/
def fnExactEasyRowWrong : ChangeSpec := { name := "fnExactEasyRow", fn := fun _ => fun
  | [d] => { results := [.lit (.bool false)], args := [d] }
  | _ => none }
def FnExactEasyRowWrongFalsely : Prop := fnExactEasyRowRow.holds Try.pinned (OpenSpec.ofChange fnExactEasyRowWrong)

/- THE SECOND FORM. 'bulk': how many values and letters a reading holds, each counted each time it is reached (what is shared counts as often as it is met; a slice's spare places count too). A statement '..UptoSaid' is the law's where the arguments, and the package variables that the reading takes, are together of bulk at most 1048576: NARROWER than '..Said'. Prove '..Said' where nothing that the law and all that it calls make is longer than what came in: it says more and counts as full. Else prove '..UptoSaid'. A law counts once. -/
mutual
def uptoBulk {H : Type} : DataW H → Nat
  | .lit (.string bytes) => bytes.length + 1
  | .lit _ => 1
  | .nil => 1
  | .ptr d => uptoBulk d + 1
  | .slice elems spare => uptoBulkAll elems + uptoBulkAll spare + 1
  | .agg parts => uptoBulkAll parts + 1
  | .iface _ d => uptoBulk d + 1
  | .map entries => uptoBulkEntries entries + 1
  | .held _ => 1
def uptoBulkAll {H : Type} : List (DataW H) → Nat
  | [] => 0
  | d :: r => uptoBulk d + uptoBulkAll r
def uptoBulkEntries {H : Type} : List (Lit × DataW H) → Nat
  | [] => 0
  | x :: r => uptoBulkEntry x + uptoBulkEntries r
def uptoBulkEntry {H : Type} : Lit × DataW H → Nat
  | (.string bytes, d) => bytes.length + uptoBulk d + 1
  | (_, d) => uptoBulk d + 1
 end
def uptoSmall : (H : Type) → List (DataW H) → Bool := fun _ ds => decide (uptoBulkAll ds ≤ 1048576)
def OpenSpec.upto (s : _root_.Go.ChangeSpec) : _root_.Go.OpenSpec := { _root_.Go.OpenSpec.ofChange s with cond := some uptoSmall }

/-- 'laws.FnExactKindCounts', WHERE WHAT IT READS IS OF BULK AT MOST 1048576: true; the input reads as it did. -/
def fnExactKindCountsUptoRow : OpenClaim := { program := "ytieiajeggahipaa", sum := "b2ab7a79d66657c862aadace16155b6ceb69e293085f1001e7803ea0eaab5d9a", func := "loop.example/g01323/laws.FnExactKindCounts", spec := "fnExactKindCounts", apart := false, narrowed := true }
def FnExactKindCountsUptoSaid : Prop := fnExactKindCountsUptoRow.holds Try.pinned (OpenSpec.upto fnExactKindCountsSpec)

/-- 'laws.FnExactCountSolutions', WHERE WHAT IT READS IS OF BULK AT MOST 1048576: true; the input reads as it did. -/
def fnExactCountSolutionsUptoRow : OpenClaim := { program := "ytieiajeggahipaa", sum := "b2ab7a79d66657c862aadace16155b6ceb69e293085f1001e7803ea0eaab5d9a", func := "loop.example/g01323/laws.FnExactCountSolutions", spec := "fnExactCountSolutions", unfollowed := true, recurses := true, apart := false, narrowed := true }
def FnExactCountSolutionsUptoSaid : Prop := fnExactCountSolutionsUptoRow.holds Try.pinned (OpenSpec.upto fnExactCountSolutionsSpec)

/-- 'laws.FnExactNewDesk', WHERE WHAT IT READS IS OF BULK AT MOST 1048576: true; the input reads as it did. -/
def fnExactNewDeskUptoRow : OpenClaim := { program := "ytieiajeggahipaa", sum := "b2ab7a79d66657c862aadace16155b6ceb69e293085f1001e7803ea0eaab5d9a", func := "loop.example/g01323/laws.FnExactNewDesk", spec := "fnExactNewDesk", inPlace := ["internal/bytealg.IndexByteString", "internal/bytealg.IndexString"], named := ["internal/bytealg.MaxLen"], apart := false, narrowed := true }
def FnExactNewDeskUptoSaid : Prop := fnExactNewDeskUptoRow.holds Try.pinned (OpenSpec.upto fnExactNewDeskSpec)

/-- 'laws.FnExactSatisfiedBy', WHERE WHAT IT READS IS OF BULK AT MOST 1048576: true; the input reads as it did. -/
def fnExactSatisfiedByUptoRow : OpenClaim := { program := "ytieiajeggahipaa", sum := "b2ab7a79d66657c862aadace16155b6ceb69e293085f1001e7803ea0eaab5d9a", func := "loop.example/g01323/laws.FnExactSatisfiedBy", spec := "fnExactSatisfiedBy", unfollowed := true, recurses := true, apart := false, narrowed := true }
def FnExactSatisfiedByUptoSaid : Prop := fnExactSatisfiedByUptoRow.holds Try.pinned (OpenSpec.upto fnExactSatisfiedBySpec)

/-- 'laws.FnExactSolutionsOf', WHERE WHAT IT READS IS OF BULK AT MOST 1048576: true; the input reads as it did. -/
def fnExactSolutionsOfUptoRow : OpenClaim := { program := "ytieiajeggahipaa", sum := "b2ab7a79d66657c862aadace16155b6ceb69e293085f1001e7803ea0eaab5d9a", func := "loop.example/g01323/laws.FnExactSolutionsOf", spec := "fnExactSolutionsOf", unfollowed := true, recurses := true, apart := false, narrowed := true }
def FnExactSolutionsOfUptoSaid : Prop := fnExactSolutionsOfUptoRow.holds Try.pinned (OpenSpec.upto fnExactSolutionsOfSpec)

/-- 'laws.FnExactMeetOfSolutions', WHERE WHAT IT READS IS OF BULK AT MOST 1048576: true; the input reads as it did. -/
def fnExactMeetOfSolutionsUptoRow : OpenClaim := { program := "ytieiajeggahipaa", sum := "b2ab7a79d66657c862aadace16155b6ceb69e293085f1001e7803ea0eaab5d9a", func := "loop.example/g01323/laws.FnExactMeetOfSolutions", spec := "fnExactMeetOfSolutions", unfollowed := true, recurses := true, apart := false, narrowed := true }
def FnExactMeetOfSolutionsUptoSaid : Prop := fnExactMeetOfSolutionsUptoRow.holds Try.pinned (OpenSpec.upto fnExactMeetOfSolutionsSpec)

/-- 'laws.FnExactFixVar', WHERE WHAT IT READS IS OF BULK AT MOST 1048576: true; the input reads as it did. -/
def fnExactFixVarUptoRow : OpenClaim := { program := "ytieiajeggahipaa", sum := "b2ab7a79d66657c862aadace16155b6ceb69e293085f1001e7803ea0eaab5d9a", func := "loop.example/g01323/laws.FnExactFixVar", spec := "fnExactFixVar", unfollowed := true, recurses := true, apart := false, narrowed := true }
def FnExactFixVarUptoSaid : Prop := fnExactFixVarUptoRow.holds Try.pinned (OpenSpec.upto fnExactFixVarSpec)

/-- 'laws.FnExactFlipInstance', WHERE WHAT IT READS IS OF BULK AT MOST 1048576: true; the input reads as it did. -/
def fnExactFlipInstanceUptoRow : OpenClaim := { program := "ytieiajeggahipaa", sum := "b2ab7a79d66657c862aadace16155b6ceb69e293085f1001e7803ea0eaab5d9a", func := "loop.example/g01323/laws.FnExactFlipInstance", spec := "fnExactFlipInstance", unfollowed := true, recurses := true, apart := false, narrowed := true }
def FnExactFlipInstanceUptoSaid : Prop := fnExactFlipInstanceUptoRow.holds Try.pinned (OpenSpec.upto fnExactFlipInstanceSpec)

/-- 'laws.FnExactLeastSolution', WHERE WHAT IT READS IS OF BULK AT MOST 1048576: true; the input reads as it did. -/
def fnExactLeastSolutionUptoRow : OpenClaim := { program := "ytieiajeggahipaa", sum := "b2ab7a79d66657c862aadace16155b6ceb69e293085f1001e7803ea0eaab5d9a", func := "loop.example/g01323/laws.FnExactLeastSolution", spec := "fnExactLeastSolution", unfollowed := true, recurses := true, apart := false, narrowed := true }
def FnExactLeastSolutionUptoSaid : Prop := fnExactLeastSolutionUptoRow.holds Try.pinned (OpenSpec.upto fnExactLeastSolutionSpec)

/-- 'laws.FnExactForcedOf', WHERE WHAT IT READS IS OF BULK AT MOST 1048576: true; the input reads as it did. -/
def fnExactForcedOfUptoRow : OpenClaim := { program := "ytieiajeggahipaa", sum := "b2ab7a79d66657c862aadace16155b6ceb69e293085f1001e7803ea0eaab5d9a", func := "loop.example/g01323/laws.FnExactForcedOf", spec := "fnExactForcedOf", unfollowed := true, recurses := true, apart := false, narrowed := true }
def FnExactForcedOfUptoSaid : Prop := fnExactForcedOfUptoRow.holds Try.pinned (OpenSpec.upto fnExactForcedOfSpec)

/-- 'laws.FnExactNarrowDomains', WHERE WHAT IT READS IS OF BULK AT MOST 1048576: true; the input reads as it did. -/
def fnExactNarrowDomainsUptoRow : OpenClaim := { program := "ytieiajeggahipaa", sum := "b2ab7a79d66657c862aadace16155b6ceb69e293085f1001e7803ea0eaab5d9a", func := "loop.example/g01323/laws.FnExactNarrowDomains", spec := "fnExactNarrowDomains", unfollowed := true, recurses := true, apart := false, narrowed := true }
def FnExactNarrowDomainsUptoSaid : Prop := fnExactNarrowDomainsUptoRow.holds Try.pinned (OpenSpec.upto fnExactNarrowDomainsSpec)

/-- 'laws.FnExactEasyRow', WHERE WHAT IT READS IS OF BULK AT MOST 1048576: true; the input reads as it did. -/
def fnExactEasyRowUptoRow : OpenClaim := { program := "ytieiajeggahipaa", sum := "b2ab7a79d66657c862aadace16155b6ceb69e293085f1001e7803ea0eaab5d9a", func := "loop.example/g01323/laws.FnExactEasyRow", spec := "fnExactEasyRow", inPlace := ["internal/bytealg.IndexByteString", "internal/bytealg.IndexString"], unfollowed := true, recurses := true, named := ["internal/bytealg.MaxLen"], apart := false, narrowed := true }
def FnExactEasyRowUptoSaid : Prop := fnExactEasyRowUptoRow.holds Try.pinned (OpenSpec.upto fnExactEasyRowSpec)

end Rows
end Go.Proofs.Ytieiajeggahipaa
