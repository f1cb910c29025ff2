/-
  No cell of these rows narrows 'for every input' (looked for: loops, veiled, ifaces, maps, wideKeys, modest, calm, conditions, laid).
  DERIVED. THE GIVEN ROWS OF THIS SEAT. 12 by the template 'for every input the law returns true; each argument reads behind the call as it read before'; 0 by the template 'total and deterministic' (their statements: YtbnngmjkoopbmaaTotals.lean).
  GIVEN WITH THE SEED: the statements are not yours to turn. If you find one false, say at which input.
  Laid BY PROGRAM, IN A SANDBOX (cutbox-rows.mjs): the forced cells as the released guide's own fill.sh prints them over the translation 568ab755ecffe5ec… (all of the seat's roots in one cut). By AI agents, Wed Nov 11 2026. No macro, syntax, notation, axiom, sorry.
-/
import Derived.Test.YtbnngmjkoopbmaaChecked
import GoSem.Claim
import GoSem.ClaimJoined
import GoSem.ClaimMapViews
import Derived.JoinedTies
import Derived.KernelRfl
namespace Go.Proofs.Ytbnngmjkoopbmaa
/- THE CELL 'sum', in the pinned program and in every row, IS THE sha256 OF THE DUMP (.gsa) THAT YtbnngmjkoopbmaaProg.lean LOADS. Nothing in Lean hashes anything: it is a label: what it is worth is what the hold of that sum in a sandbox is worth. -/
noncomputable def Try.pinned : Pinned := { name := "ytbnngmjkoopbmaa", sum := "568ab755ecffe5ec9d7452f05c4bd740963c12cc1ecca6c4072d09f8b99568db", checked := Try.checked }
namespace Rows
def none {H : Type} : Left H := { results := [], args := [] }

/-- 'laws.FnExactIsIdempotent': WHATEVER THE INPUT: true; the input reads as it did. -/
def fnExactIsIdempotentSpec : ChangeSpec := { name := "fnExactIsIdempotent", fn := fun _ => fun
  | [d] => { results := [.lit (.bool true)], args := [d] }
  | _ => none }
def fnExactIsIdempotentRow : OpenClaim := { program := "ytbnngmjkoopbmaa", sum := "568ab755ecffe5ec9d7452f05c4bd740963c12cc1ecca6c4072d09f8b99568db", func := "loop.example/g01323/laws.FnExactIsIdempotent", spec := "fnExactIsIdempotent", apart := false }
def FnExactIsIdempotentSaid : Prop := fnExactIsIdempotentRow.holds Try.pinned (OpenSpec.ofChange fnExactIsIdempotentSpec)

/-- ITS FALSE NEIGHBOUR: 'it returns false'. Refute it at one input. -/
def fnExactIsIdempotentWrong : ChangeSpec := { name := "fnExactIsIdempotent", fn := fun _ => fun
  | [d] => { results := [.lit (.bool false)], args := [d] }
  | _ => none }
def FnExactIsIdempotentWrongFalsely : Prop := fnExactIsIdempotentRow.holds Try.pinned (OpenSpec.ofChange fnExactIsIdempotentWrong)

/-- 'laws.FnExactIsSemilattice': WHATEVER THE INPUT: true; the input reads as it did. -/
def fnExactIsSemilatticeSpec : ChangeSpec := { name := "fnExactIsSemilattice", fn := fun _ => fun
  | [d] => { results := [.lit (.bool true)], args := [d] }
  | _ => none }
def fnExactIsSemilatticeRow : OpenClaim := { program := "ytbnngmjkoopbmaa", sum := "568ab755ecffe5ec9d7452f05c4bd740963c12cc1ecca6c4072d09f8b99568db", func := "loop.example/g01323/laws.FnExactIsSemilattice", spec := "fnExactIsSemilattice", unfollowed := true, recurses := true, apart := false }
def FnExactIsSemilatticeSaid : Prop := fnExactIsSemilatticeRow.holds Try.pinned (OpenSpec.ofChange fnExactIsSemilatticeSpec)

/-- ITS FALSE NEIGHBOUR: 'it returns false'. Refute it at one input. -/
def fnExactIsSemilatticeWrong : ChangeSpec := { name := "fnExactIsSemilattice", fn := fun _ => fun
  | [d] => { results := [.lit (.bool false)], args := [d] }
  | _ => none }
def FnExactIsSemilatticeWrongFalsely : Prop := fnExactIsSemilatticeRow.holds Try.pinned (OpenSpec.ofChange fnExactIsSemilatticeWrong)

/-- 'laws.FnExactAreCommuting': WHATEVER THE INPUT: true; the input reads as it did. -/
def fnExactAreCommutingSpec : ChangeSpec := { name := "fnExactAreCommuting", fn := fun _ => fun
  | [d1, d2] => { results := [.lit (.bool true)], args := [d1, d2] }
  | _ => none }
def fnExactAreCommutingRow : OpenClaim := { program := "ytbnngmjkoopbmaa", sum := "568ab755ecffe5ec9d7452f05c4bd740963c12cc1ecca6c4072d09f8b99568db", func := "loop.example/g01323/laws.FnExactAreCommuting", spec := "fnExactAreCommuting", unfollowed := true, recurses := true, apart := false }
def FnExactAreCommutingSaid : Prop := fnExactAreCommutingRow.holds Try.pinned (OpenSpec.ofChange fnExactAreCommutingSpec)

/-- ITS FALSE NEIGHBOUR: 'it returns false'. Refute it at one input. -/
def fnExactAreCommutingWrong : ChangeSpec := { name := "fnExactAreCommuting", fn := fun _ => fun
  | [d1, d2] => { results := [.lit (.bool false)], args := [d1, d2] }
  | _ => none }
def FnExactAreCommutingWrongFalsely : Prop := fnExactAreCommutingRow.holds Try.pinned (OpenSpec.ofChange fnExactAreCommutingWrong)

/-- 'laws.FnExactHasNearUnanimity': WHATEVER THE INPUT: true; the input reads as it did. -/
def fnExactHasNearUnanimitySpec : ChangeSpec := { name := "fnExactHasNearUnanimity", fn := fun _ => fun
  | [d] => { results := [.lit (.bool true)], args := [d] }
  | _ => none }
def fnExactHasNearUnanimityRow : OpenClaim := { program := "ytbnngmjkoopbmaa", sum := "568ab755ecffe5ec9d7452f05c4bd740963c12cc1ecca6c4072d09f8b99568db", func := "loop.example/g01323/laws.FnExactHasNearUnanimity", spec := "fnExactHasNearUnanimity", apart := false }
def FnExactHasNearUnanimitySaid : Prop := fnExactHasNearUnanimityRow.holds Try.pinned (OpenSpec.ofChange fnExactHasNearUnanimitySpec)

/-- ITS FALSE NEIGHBOUR: 'it returns false'. Refute it at one input. -/
def fnExactHasNearUnanimityWrong : ChangeSpec := { name := "fnExactHasNearUnanimity", fn := fun _ => fun
  | [d] => { results := [.lit (.bool false)], args := [d] }
  | _ => none }
def FnExactHasNearUnanimityWrongFalsely : Prop := fnExactHasNearUnanimityRow.holds Try.pinned (OpenSpec.ofChange fnExactHasNearUnanimityWrong)

/-- 'laws.FnExactIsConjunction': WHATEVER THE INPUT: true; the input reads as it did. -/
def fnExactIsConjunctionSpec : ChangeSpec := { name := "fnExactIsConjunction", fn := fun _ => fun
  | [d] => { results := [.lit (.bool true)], args := [d] }
  | _ => none }
def fnExactIsConjunctionRow : OpenClaim := { program := "ytbnngmjkoopbmaa", sum := "568ab755ecffe5ec9d7452f05c4bd740963c12cc1ecca6c4072d09f8b99568db", func := "loop.example/g01323/laws.FnExactIsConjunction", spec := "fnExactIsConjunction", unfollowed := true, recurses := true, apart := false }
def FnExactIsConjunctionSaid : Prop := fnExactIsConjunctionRow.holds Try.pinned (OpenSpec.ofChange fnExactIsConjunctionSpec)

/-- ITS FALSE NEIGHBOUR: 'it returns false'. Refute it at one input. -/
def fnExactIsConjunctionWrong : ChangeSpec := { name := "fnExactIsConjunction", fn := fun _ => fun
  | [d] => { results := [.lit (.bool false)], args := [d] }
  | _ => none }
def FnExactIsConjunctionWrongFalsely : Prop := fnExactIsConjunctionRow.holds Try.pinned (OpenSpec.ofChange fnExactIsConjunctionWrong)

/-- 'laws.FnExactIsDisjunction': WHATEVER THE INPUT: true; the input reads as it did. -/
def fnExactIsDisjunctionSpec : ChangeSpec := { name := "fnExactIsDisjunction", fn := fun _ => fun
  | [d] => { results := [.lit (.bool true)], args := [d] }
  | _ => none }
def fnExactIsDisjunctionRow : OpenClaim := { program := "ytbnngmjkoopbmaa", sum := "568ab755ecffe5ec9d7452f05c4bd740963c12cc1ecca6c4072d09f8b99568db", func := "loop.example/g01323/laws.FnExactIsDisjunction", spec := "fnExactIsDisjunction", unfollowed := true, recurses := true, apart := false }
def FnExactIsDisjunctionSaid : Prop := fnExactIsDisjunctionRow.holds Try.pinned (OpenSpec.ofChange fnExactIsDisjunctionSpec)

/-- ITS FALSE NEIGHBOUR: 'it returns false'. Refute it at one input. -/
def fnExactIsDisjunctionWrong : ChangeSpec := { name := "fnExactIsDisjunction", fn := fun _ => fun
  | [d] => { results := [.lit (.bool false)], args := [d] }
  | _ => none }
def FnExactIsDisjunctionWrongFalsely : Prop := fnExactIsDisjunctionRow.holds Try.pinned (OpenSpec.ofChange fnExactIsDisjunctionWrong)

/-- 'laws.FnExactIsDesk': WHATEVER THE INPUT: true; the input reads as it did. -/
def fnExactIsDeskSpec : ChangeSpec := { name := "fnExactIsDesk", fn := fun _ => fun
  | [d] => { results := [.lit (.bool true)], args := [d] }
  | _ => none }
def fnExactIsDeskRow : OpenClaim := { program := "ytbnngmjkoopbmaa", sum := "568ab755ecffe5ec9d7452f05c4bd740963c12cc1ecca6c4072d09f8b99568db", func := "loop.example/g01323/laws.FnExactIsDesk", spec := "fnExactIsDesk", unfollowed := true, recurses := true, apart := false }
def FnExactIsDeskSaid : Prop := fnExactIsDeskRow.holds Try.pinned (OpenSpec.ofChange fnExactIsDeskSpec)

/-- ITS FALSE NEIGHBOUR: 'it returns false'. Refute it at one input. -/
def fnExactIsDeskWrong : ChangeSpec := { name := "fnExactIsDesk", fn := fun _ => fun
  | [d] => { results := [.lit (.bool false)], args := [d] }
  | _ => none }
def FnExactIsDeskWrongFalsely : Prop := fnExactIsDeskRow.holds Try.pinned (OpenSpec.ofChange fnExactIsDeskWrong)

/-- 'laws.FnExactIsSymmetric': WHATEVER THE INPUT: true; the input reads as it did. -/
def fnExactIsSymmetricSpec : ChangeSpec := { name := "fnExactIsSymmetric", fn := fun _ => fun
  | [d] => { results := [.lit (.bool true)], args := [d] }
  | _ => none }
def fnExactIsSymmetricRow : OpenClaim := { program := "ytbnngmjkoopbmaa", sum := "568ab755ecffe5ec9d7452f05c4bd740963c12cc1ecca6c4072d09f8b99568db", func := "loop.example/g01323/laws.FnExactIsSymmetric", spec := "fnExactIsSymmetric", apart := false }
def FnExactIsSymmetricSaid : Prop := fnExactIsSymmetricRow.holds Try.pinned (OpenSpec.ofChange fnExactIsSymmetricSpec)

/-- ITS FALSE NEIGHBOUR: 'it returns false'. Refute it at one input. -/
def fnExactIsSymmetricWrong : ChangeSpec := { name := "fnExactIsSymmetric", fn := fun _ => fun
  | [d] => { results := [.lit (.bool false)], args := [d] }
  | _ => none }
def FnExactIsSymmetricWrongFalsely : Prop := fnExactIsSymmetricRow.holds Try.pinned (OpenSpec.ofChange fnExactIsSymmetricWrong)

/-- 'laws.FnExactIsAbelian': WHATEVER THE INPUT: true; the input reads as it did. -/
def fnExactIsAbelianSpec : ChangeSpec := { name := "fnExactIsAbelian", fn := fun _ => fun
  | [d] => { results := [.lit (.bool true)], args := [d] }
  | _ => none }
def fnExactIsAbelianRow : OpenClaim := { program := "ytbnngmjkoopbmaa", sum := "568ab755ecffe5ec9d7452f05c4bd740963c12cc1ecca6c4072d09f8b99568db", func := "loop.example/g01323/laws.FnExactIsAbelian", spec := "fnExactIsAbelian", unfollowed := true, recurses := true, apart := false }
def FnExactIsAbelianSaid : Prop := fnExactIsAbelianRow.holds Try.pinned (OpenSpec.ofChange fnExactIsAbelianSpec)

/-- ITS FALSE NEIGHBOUR: 'it returns false'. Refute it at one input. -/
def fnExactIsAbelianWrong : ChangeSpec := { name := "fnExactIsAbelian", fn := fun _ => fun
  | [d] => { results := [.lit (.bool false)], args := [d] }
  | _ => none }
def FnExactIsAbelianWrongFalsely : Prop := fnExactIsAbelianRow.holds Try.pinned (OpenSpec.ofChange fnExactIsAbelianWrong)

/-- 'laws.FnExactIsInstance': WHATEVER THE INPUT: true; the input reads as it did. -/
def fnExactIsInstanceSpec : ChangeSpec := { name := "fnExactIsInstance", fn := fun _ => fun
  | [d] => { results := [.lit (.bool true)], args := [d] }
  | _ => none }
def fnExactIsInstanceRow : OpenClaim := { program := "ytbnngmjkoopbmaa", sum := "568ab755ecffe5ec9d7452f05c4bd740963c12cc1ecca6c4072d09f8b99568db", func := "loop.example/g01323/laws.FnExactIsInstance", spec := "fnExactIsInstance", unfollowed := true, recurses := true, apart := false }
def FnExactIsInstanceSaid : Prop := fnExactIsInstanceRow.holds Try.pinned (OpenSpec.ofChange fnExactIsInstanceSpec)

/-- ITS FALSE NEIGHBOUR: 'it returns false'. Refute it at one input. -/
def fnExactIsInstanceWrong : ChangeSpec := { name := "fnExactIsInstance", fn := fun _ => fun
  | [d] => { results := [.lit (.bool false)], args := [d] }
  | _ => none }
def FnExactIsInstanceWrongFalsely : Prop := fnExactIsInstanceRow.holds Try.pinned (OpenSpec.ofChange fnExactIsInstanceWrong)

/-- 'laws.FnExactCentraliserOf': WHATEVER THE INPUT: true; the input reads as it did. -/
def fnExactCentraliserOfSpec : ChangeSpec := { name := "fnExactCentraliserOf", fn := fun _ => fun
  | [d1, d2] => { results := [.lit (.bool true)], args := [d1, d2] }
  | _ => none }
def fnExactCentraliserOfRow : OpenClaim := { program := "ytbnngmjkoopbmaa", sum := "568ab755ecffe5ec9d7452f05c4bd740963c12cc1ecca6c4072d09f8b99568db", func := "loop.example/g01323/laws.FnExactCentraliserOf", spec := "fnExactCentraliserOf", unfollowed := true, recurses := true, apart := false }
def FnExactCentraliserOfSaid : Prop := fnExactCentraliserOfRow.holds Try.pinned (OpenSpec.ofChange fnExactCentraliserOfSpec)

/-- ITS FALSE NEIGHBOUR: 'it returns false'. Refute it at one input. -/
def fnExactCentraliserOfWrong : ChangeSpec := { name := "fnExactCentraliserOf", fn := fun _ => fun
  | [d1, d2] => { results := [.lit (.bool false)], args := [d1, d2] }
  | _ => none }
def FnExactCentraliserOfWrongFalsely : Prop := fnExactCentraliserOfRow.holds Try.pinned (OpenSpec.ofChange fnExactCentraliserOfWrong)

/-- 'laws.FnExactIsOfKind': WHATEVER THE INPUT: true; the input reads as it did. -/
def fnExactIsOfKindSpec : ChangeSpec := { name := "fnExactIsOfKind", fn := fun _ => fun
  | [d1, d2] => { results := [.lit (.bool true)], args := [d1, d2] }
  | _ => none }
def fnExactIsOfKindRow : OpenClaim := { program := "ytbnngmjkoopbmaa", sum := "568ab755ecffe5ec9d7452f05c4bd740963c12cc1ecca6c4072d09f8b99568db", func := "loop.example/g01323/laws.FnExactIsOfKind", spec := "fnExactIsOfKind", unfollowed := true, recurses := true, apart := false }
def FnExactIsOfKindSaid : Prop := fnExactIsOfKindRow.holds Try.pinned (OpenSpec.ofChange fnExactIsOfKindSpec)

/-- ITS FALSE NEIGHBOUR: 'it returns false'. Refute it at one input. -/
def fnExactIsOfKindWrong : ChangeSpec := { name := "fnExactIsOfKind", fn := fun _ => fun
  | [d1, d2] => { results := [.lit (.bool false)], args := [d1, d2] }
  | _ => none }
def FnExactIsOfKindWrongFalsely : Prop := fnExactIsOfKindRow.holds Try.pinned (OpenSpec.ofChange fnExactIsOfKindWrong)

/- THE SECOND FORM. 'bulk': how many values and letters a reading holds, each counted each time it is reached (what is shared counts as often as it is met; a slice's spare places count too). A statement '..UptoSaid' is the law's where the arguments, and the package variables that the reading takes, are together of bulk at most 1048576: NARROWER than '..Said'. Prove '..Said' where nothing that the law and all that it calls make is longer than what came in: it says more and counts as full. Else prove '..UptoSaid'. A law counts once. -/
mutual
def uptoBulk {H : Type} : DataW H → Nat
  | .lit (.string bytes) => bytes.length + 1
  | .lit _ => 1
  | .nil => 1
  | .ptr d => uptoBulk d + 1
  | .slice elems spare => uptoBulkAll elems + uptoBulkAll spare + 1
  | .agg parts => uptoBulkAll parts + 1
  | .iface _ d => uptoBulk d + 1
  | .map entries => uptoBulkEntries entries + 1
  | .held _ => 1
def uptoBulkAll {H : Type} : List (DataW H) → Nat
  | [] => 0
  | d :: r => uptoBulk d + uptoBulkAll r
def uptoBulkEntries {H : Type} : List (Lit × DataW H) → Nat
  | [] => 0
  | x :: r => uptoBulkEntry x + uptoBulkEntries r
def uptoBulkEntry {H : Type} : Lit × DataW H → Nat
  | (.string bytes, d) => bytes.length + uptoBulk d + 1
  | (_, d) => uptoBulk d + 1
 end
def uptoSmall : (H : Type) → List (DataW H) → Bool := fun _ ds => decide (uptoBulkAll ds ≤ 1048576)
def OpenSpec.upto (s : _root_.Go.ChangeSpec) : _root_.Go.OpenSpec := { _root_.Go.OpenSpec.ofChange s with cond := some uptoSmall }

/-- 'laws.FnExactIsIdempotent', WHERE WHAT IT READS IS OF BULK AT MOST 1048576: true; the input reads as it did. -/
def fnExactIsIdempotentUptoRow : OpenClaim := { program := "ytbnngmjkoopbmaa", sum := "568ab755ecffe5ec9d7452f05c4bd740963c12cc1ecca6c4072d09f8b99568db", func := "loop.example/g01323/laws.FnExactIsIdempotent", spec := "fnExactIsIdempotent", apart := false, narrowed := true }
def FnExactIsIdempotentUptoSaid : Prop := fnExactIsIdempotentUptoRow.holds Try.pinned (OpenSpec.upto fnExactIsIdempotentSpec)

/-- 'laws.FnExactIsSemilattice', WHERE WHAT IT READS IS OF BULK AT MOST 1048576: true; the input reads as it did. -/
def fnExactIsSemilatticeUptoRow : OpenClaim := { program := "ytbnngmjkoopbmaa", sum := "568ab755ecffe5ec9d7452f05c4bd740963c12cc1ecca6c4072d09f8b99568db", func := "loop.example/g01323/laws.FnExactIsSemilattice", spec := "fnExactIsSemilattice", unfollowed := true, recurses := true, apart := false, narrowed := true }
def FnExactIsSemilatticeUptoSaid : Prop := fnExactIsSemilatticeUptoRow.holds Try.pinned (OpenSpec.upto fnExactIsSemilatticeSpec)

/-- 'laws.FnExactAreCommuting', WHERE WHAT IT READS IS OF BULK AT MOST 1048576: true; the input reads as it did. -/
def fnExactAreCommutingUptoRow : OpenClaim := { program := "ytbnngmjkoopbmaa", sum := "568ab755ecffe5ec9d7452f05c4bd740963c12cc1ecca6c4072d09f8b99568db", func := "loop.example/g01323/laws.FnExactAreCommuting", spec := "fnExactAreCommuting", unfollowed := true, recurses := true, apart := false, narrowed := true }
def FnExactAreCommutingUptoSaid : Prop := fnExactAreCommutingUptoRow.holds Try.pinned (OpenSpec.upto fnExactAreCommutingSpec)

/-- 'laws.FnExactHasNearUnanimity', WHERE WHAT IT READS IS OF BULK AT MOST 1048576: true; the input reads as it did. -/
def fnExactHasNearUnanimityUptoRow : OpenClaim := { program := "ytbnngmjkoopbmaa", sum := "568ab755ecffe5ec9d7452f05c4bd740963c12cc1ecca6c4072d09f8b99568db", func := "loop.example/g01323/laws.FnExactHasNearUnanimity", spec := "fnExactHasNearUnanimity", apart := false, narrowed := true }
def FnExactHasNearUnanimityUptoSaid : Prop := fnExactHasNearUnanimityUptoRow.holds Try.pinned (OpenSpec.upto fnExactHasNearUnanimitySpec)

/-- 'laws.FnExactIsConjunction', WHERE WHAT IT READS IS OF BULK AT MOST 1048576: true; the input reads as it did. -/
def fnExactIsConjunctionUptoRow : OpenClaim := { program := "ytbnngmjkoopbmaa", sum := "568ab755ecffe5ec9d7452f05c4bd740963c12cc1ecca6c4072d09f8b99568db", func := "loop.example/g01323/laws.FnExactIsConjunction", spec := "fnExactIsConjunction", unfollowed := true, recurses := true, apart := false, narrowed := true }
def FnExactIsConjunctionUptoSaid : Prop := fnExactIsConjunctionUptoRow.holds Try.pinned (OpenSpec.upto fnExactIsConjunctionSpec)

/-- 'laws.FnExactIsDisjunction', WHERE WHAT IT READS IS OF BULK AT MOST 1048576: true; the input reads as it did. -/
def fnExactIsDisjunctionUptoRow : OpenClaim := { program := "ytbnngmjkoopbmaa", sum := "568ab755ecffe5ec9d7452f05c4bd740963c12cc1ecca6c4072d09f8b99568db", func := "loop.example/g01323/laws.FnExactIsDisjunction", spec := "fnExactIsDisjunction", unfollowed := true, recurses := true, apart := false, narrowed := true }
def FnExactIsDisjunctionUptoSaid : Prop := fnExactIsDisjunctionUptoRow.holds Try.pinned (OpenSpec.upto fnExactIsDisjunctionSpec)

/-- 'laws.FnExactIsDesk', WHERE WHAT IT READS IS OF BULK AT MOST 1048576: true; the input reads as it did. -/
def fnExactIsDeskUptoRow : OpenClaim := { program := "ytbnngmjkoopbmaa", sum := "568ab755ecffe5ec9d7452f05c4bd740963c12cc1ecca6c4072d09f8b99568db", func := "loop.example/g01323/laws.FnExactIsDesk", spec := "fnExactIsDesk", unfollowed := true, recurses := true, apart := false, narrowed := true }
def FnExactIsDeskUptoSaid : Prop := fnExactIsDeskUptoRow.holds Try.pinned (OpenSpec.upto fnExactIsDeskSpec)

/-- 'laws.FnExactIsSymmetric', WHERE WHAT IT READS IS OF BULK AT MOST 1048576: true; the input reads as it did. -/
def fnExactIsSymmetricUptoRow : OpenClaim := { program := "ytbnngmjkoopbmaa", sum := "568ab755ecffe5ec9d7452f05c4bd740963c12cc1ecca6c4072d09f8b99568db", func := "loop.example/g01323/laws.FnExactIsSymmetric", spec := "fnExactIsSymmetric", apart := false, narrowed := true }
def FnExactIsSymmetricUptoSaid : Prop := fnExactIsSymmetricUptoRow.holds Try.pinned (OpenSpec.upto fnExactIsSymmetricSpec)

/-- 'laws.FnExactIsAbelian', WHERE WHAT IT READS IS OF BULK AT MOST 1048576: true; the input reads as it did. -/
def fnExactIsAbelianUptoRow : OpenClaim := { program := "ytbnngmjkoopbmaa", sum := "568ab755ecffe5ec9d7452f05c4bd740963c12cc1ecca6c4072d09f8b99568db", func := "loop.example/g01323/laws.FnExactIsAbelian", spec := "fnExactIsAbelian", unfollowed := true, recurses := true, apart := false, narrowed := true }
def FnExactIsAbelianUptoSaid : Prop := fnExactIsAbelianUptoRow.holds Try.pinned (OpenSpec.upto fnExactIsAbelianSpec)

/-- 'laws.FnExactIsInstance', WHERE WHAT IT READS IS OF BULK AT MOST 1048576: true; the input reads as it did. -/
def fnExactIsInstanceUptoRow : OpenClaim := { program := "ytbnngmjkoopbmaa", sum := "568ab755ecffe5ec9d7452f05c4bd740963c12cc1ecca6c4072d09f8b99568db", func := "loop.example/g01323/laws.FnExactIsInstance", spec := "fnExactIsInstance", unfollowed := true, recurses := true, apart := false, narrowed := true }
def FnExactIsInstanceUptoSaid : Prop := fnExactIsInstanceUptoRow.holds Try.pinned (OpenSpec.upto fnExactIsInstanceSpec)

/-- 'laws.FnExactCentraliserOf', WHERE WHAT IT READS IS OF BULK AT MOST 1048576: true; the input reads as it did. -/
def fnExactCentraliserOfUptoRow : OpenClaim := { program := "ytbnngmjkoopbmaa", sum := "568ab755ecffe5ec9d7452f05c4bd740963c12cc1ecca6c4072d09f8b99568db", func := "loop.example/g01323/laws.FnExactCentraliserOf", spec := "fnExactCentraliserOf", unfollowed := true, recurses := true, apart := false, narrowed := true }
def FnExactCentraliserOfUptoSaid : Prop := fnExactCentraliserOfUptoRow.holds Try.pinned (OpenSpec.upto fnExactCentraliserOfSpec)

/-- 'laws.FnExactIsOfKind', WHERE WHAT IT READS IS OF BULK AT MOST 1048576: true; the input reads as it did. -/
def fnExactIsOfKindUptoRow : OpenClaim := { program := "ytbnngmjkoopbmaa", sum := "568ab755ecffe5ec9d7452f05c4bd740963c12cc1ecca6c4072d09f8b99568db", func := "loop.example/g01323/laws.FnExactIsOfKind", spec := "fnExactIsOfKind", unfollowed := true, recurses := true, apart := false, narrowed := true }
def FnExactIsOfKindUptoSaid : Prop := fnExactIsOfKindUptoRow.holds Try.pinned (OpenSpec.upto fnExactIsOfKindSpec)

end Rows
end Go.Proofs.Ytbnngmjkoopbmaa
