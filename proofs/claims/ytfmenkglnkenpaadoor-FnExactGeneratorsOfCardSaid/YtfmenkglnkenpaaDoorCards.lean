/-
  DERIVED. GIVEN WITH THE SEED: THE CARDS: each row of YtfmenkglnkenpaaDoorRows.lean that lists a variable, with what it lists TIED to the program's text (the seventh form; the later family's looks); each row that meets fmt, with fmt's text TOLD by the authors' own Lean function (tested against real Go, not proved from fmt's source: count such statements apart). THE CARD IS WHAT COUNTS. Prove the row's statement (the work); the ties are given (YtfmenkglnkenpaaDoorTie.lean); close each card by the builder's one call (the guide's Derived/Test/ToyasCard.lean, 'card_holds'). Laid BY PROGRAM, IN A SANDBOX (cutbox-door.mjs). By AI agents, Wed Nov 11 2026. No macro, syntax, notation, axiom, sorry.
-/
import Derived.Test.YtfmenkglnkenpaaDoorRows
import GoSem.ClaimSeven
namespace Go.Proofs.YtfmenkglnkenpaaDoor
namespace Rows

/-- THE TIED CARD OF 'laws.FnExactCloneName'. -/
def fnExactCloneNameCard : Claim7 := { stood := { row := fnExactCloneNameRow, standIns := [], harness := (true, "532c69406b30b278a96a9d7f704c7da0caadaee5eb8a2fa5c5c33c485013dfb7"), looks := false }, kinds := [], alts := [], laidByText := true, laidKinds := [.data, .data, .data], laidTests := true, laidLooks := .later }
def FnExactCloneNameCardSaid : Prop := Claim7.holds Tryd.pinned (.plain (OpenSpec.ofChange fnExactCloneNameSpec)) fnExactCloneNameCard

/-- THE TIED CARD OF 'laws.FnExactGeneratorsOf'. -/
def fnExactGeneratorsOfCard : Claim7 := { stood := { row := fnExactGeneratorsOfRow, standIns := [], harness := (true, "532c69406b30b278a96a9d7f704c7da0caadaee5eb8a2fa5c5c33c485013dfb7"), looks := false }, kinds := [], alts := [], laidByText := true, laidKinds := [.data, .pinned], laidTests := true, laidLooks := .later }
def FnExactGeneratorsOfCardSaid : Prop := Claim7.holds Tryd.pinned (.plain (OpenSpec.ofChange fnExactGeneratorsOfSpec)) fnExactGeneratorsOfCard

/-- THE SECOND FORM's CARD OF 'laws.FnExactCloneName'. -/
def fnExactCloneNameUptoCard : Claim7 := { stood := { row := fnExactCloneNameUptoRow, standIns := [], harness := (true, "532c69406b30b278a96a9d7f704c7da0caadaee5eb8a2fa5c5c33c485013dfb7"), looks := false }, kinds := [], alts := [], laidByText := true, laidKinds := [.data, .data, .data], laidTests := true, laidLooks := .later }
def FnExactCloneNameUptoCardSaid : Prop := Claim7.holds Tryd.pinned (.plain (OpenSpec.upto fnExactCloneNameSpec)) fnExactCloneNameUptoCard

/-- THE SECOND FORM's CARD OF 'laws.FnExactGeneratorsOf'. -/
def fnExactGeneratorsOfUptoCard : Claim7 := { stood := { row := fnExactGeneratorsOfUptoRow, standIns := [], harness := (true, "532c69406b30b278a96a9d7f704c7da0caadaee5eb8a2fa5c5c33c485013dfb7"), looks := false }, kinds := [], alts := [], laidByText := true, laidKinds := [.data, .pinned], laidTests := true, laidLooks := .later }
def FnExactGeneratorsOfUptoCardSaid : Prop := Claim7.holds Tryd.pinned (.plain (OpenSpec.upto fnExactGeneratorsOfSpec)) fnExactGeneratorsOfUptoCard
end Rows
end Go.Proofs.YtfmenkglnkenpaaDoor
