/-
  DERIVED. GIVEN WITH THE SEED: THE CARDS: each row of YtfmenkglnkenpaaGreatDoorRows.lean that lists a variable, with what it lists TIED to the program's text (the seventh form; the later family's looks); each row that meets fmt, with fmt's text TOLD by the authors' own Lean function (tested against real Go, not proved from fmt's source: count such statements apart). THE CARD IS WHAT COUNTS. Prove the row's statement (the work); the ties are given (YtfmenkglnkenpaaGreatDoorTie.lean); close each card by the builder's one call (the guide's Derived/Test/ToyasCard.lean, 'card_holds'). Laid BY PROGRAM, IN A SANDBOX (cutbox-door.mjs). By AI agents, Wed Nov 11 2026. No macro, syntax, notation, axiom, sorry.
-/
import Derived.Test.YtfmenkglnkenpaaGreatDoorRows
import GoSem.ClaimSeven
namespace Go.Proofs.YtfmenkglnkenpaaGreatDoor
namespace Rows

/-- THE TIED CARD OF 'laws.FnExactDualName'. -/
def fnExactDualNameCard : Claim7 := { stood := { row := fnExactDualNameRow, standIns := [], harness := (true, "d83f989f1eb37363347dfa6918fb694b2c8998f77f9940d291fe2d122e5f7ee6"), looks := false }, kinds := [], alts := [], laidByText := true, laidKinds := [.data, .data, .data, .data, .pinned], laidTests := true, laidLooks := .later }
def FnExactDualNameCardSaid : Prop := Claim7.holds Tryz.pinned (.plain (OpenSpec.ofChange fnExactDualNameSpec)) fnExactDualNameCard

/-- THE TIED CARD OF 'laws.FnExactIsBelow'. -/
def fnExactIsBelowCard : Claim7 := { stood := { row := fnExactIsBelowRow, standIns := [], harness := (true, "d83f989f1eb37363347dfa6918fb694b2c8998f77f9940d291fe2d122e5f7ee6"), looks := false }, kinds := [], alts := [], laidByText := true, laidKinds := [.data, .data, .data, .data, .pinned], laidTests := true, laidLooks := .later }
def FnExactIsBelowCardSaid : Prop := Claim7.holds Tryz.pinned (.plain (OpenSpec.ofChange fnExactIsBelowSpec)) fnExactIsBelowCard

/-- THE TIED CARD OF 'laws.FnExactIsInNamed'. -/
def fnExactIsInNamedCard : Claim7 := { stood := { row := fnExactIsInNamedRow, standIns := [], harness := (true, "d83f989f1eb37363347dfa6918fb694b2c8998f77f9940d291fe2d122e5f7ee6"), looks := false }, kinds := [], alts := [], laidByText := true, laidKinds := [.data, .data, .data, .data, .pinned], laidTests := true, laidLooks := .later }
def FnExactIsInNamedCardSaid : Prop := Claim7.holds Tryz.pinned (.plain (OpenSpec.ofChange fnExactIsInNamedSpec)) fnExactIsInNamedCard

/-- THE SECOND FORM's CARD OF 'laws.FnExactDualName'. -/
def fnExactDualNameUptoCard : Claim7 := { stood := { row := fnExactDualNameUptoRow, standIns := [], harness := (true, "d83f989f1eb37363347dfa6918fb694b2c8998f77f9940d291fe2d122e5f7ee6"), looks := false }, kinds := [], alts := [], laidByText := true, laidKinds := [.data, .data, .data, .data, .pinned], laidTests := true, laidLooks := .later }
def FnExactDualNameUptoCardSaid : Prop := Claim7.holds Tryz.pinned (.plain (OpenSpec.upto fnExactDualNameSpec)) fnExactDualNameUptoCard

/-- THE SECOND FORM's CARD OF 'laws.FnExactIsBelow'. -/
def fnExactIsBelowUptoCard : Claim7 := { stood := { row := fnExactIsBelowUptoRow, standIns := [], harness := (true, "d83f989f1eb37363347dfa6918fb694b2c8998f77f9940d291fe2d122e5f7ee6"), looks := false }, kinds := [], alts := [], laidByText := true, laidKinds := [.data, .data, .data, .data, .pinned], laidTests := true, laidLooks := .later }
def FnExactIsBelowUptoCardSaid : Prop := Claim7.holds Tryz.pinned (.plain (OpenSpec.upto fnExactIsBelowSpec)) fnExactIsBelowUptoCard

/-- THE SECOND FORM's CARD OF 'laws.FnExactIsInNamed'. -/
def fnExactIsInNamedUptoCard : Claim7 := { stood := { row := fnExactIsInNamedUptoRow, standIns := [], harness := (true, "d83f989f1eb37363347dfa6918fb694b2c8998f77f9940d291fe2d122e5f7ee6"), looks := false }, kinds := [], alts := [], laidByText := true, laidKinds := [.data, .data, .data, .data, .pinned], laidTests := true, laidLooks := .later }
def FnExactIsInNamedUptoCardSaid : Prop := Claim7.holds Tryz.pinned (.plain (OpenSpec.upto fnExactIsInNamedSpec)) fnExactIsInNamedUptoCard
end Rows
end Go.Proofs.YtfmenkglnkenpaaGreatDoor
