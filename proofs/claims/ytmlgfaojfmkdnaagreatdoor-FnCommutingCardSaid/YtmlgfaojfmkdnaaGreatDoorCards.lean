/-
  DERIVED. GIVEN WITH THE SEED: THE CARDS: each row of YtmlgfaojfmkdnaaGreatDoorRows.lean that lists a variable, with what it lists TIED to the program's text (the seventh form; the later family's looks); each row that meets fmt, with fmt's text TOLD by the authors' own Lean function (tested against real Go, not proved from fmt's source: count such statements apart). THE CARD IS WHAT COUNTS. Prove the row's statement (the work); the ties are given (YtmlgfaojfmkdnaaGreatDoorTie.lean); close each card by the builder's one call (the guide's Derived/Test/ToyasCard.lean, 'card_holds'). Laid BY PROGRAM, IN A SANDBOX (cutbox-door.mjs). By AI agents, Wed Nov 11 2026. No macro, syntax, notation, axiom, sorry.
-/
import Derived.Test.YtmlgfaojfmkdnaaGreatDoorRows
import GoSem.ClaimSeven
namespace Go.Proofs.YtmlgfaojfmkdnaaGreatDoor
namespace Rows

/-- THE TIED CARD OF 'laws.FnTop'. -/
def fnTopCard : Claim7 := { stood := { row := fnTopRow, standIns := [], harness := (true, "8a332b0e59a0e9c8d94250ac12bc2d943f6d481f626090cf3445cccad9013b59"), looks := false }, kinds := [], alts := [], laidByText := true, laidKinds := [.data, .data, .data, .data, .pinned], laidTests := true, laidLooks := .later }
def FnTopCardSaid : Prop := Claim7.holds Tryz.pinned (.plain (OpenSpec.ofChange fnTopSpec)) fnTopCard

/-- THE TIED CARD OF 'laws.FnPromiseOfAll'. -/
def fnPromiseOfAllCard : Claim7 := { stood := { row := fnPromiseOfAllRow, standIns := [], harness := (true, "8a332b0e59a0e9c8d94250ac12bc2d943f6d481f626090cf3445cccad9013b59"), looks := false }, kinds := [], alts := [], laidByText := true, laidKinds := [.data, .data, .data, .data, .pinned], laidTests := true, laidLooks := .later }
def FnPromiseOfAllCardSaid : Prop := Claim7.holds Tryz.pinned (.plain (OpenSpec.ofChange fnPromiseOfAllSpec)) fnPromiseOfAllCard

/-- THE TIED CARD OF 'laws.FnCommuting'. -/
def fnCommutingCard : Claim7 := { stood := { row := fnCommutingRow, standIns := [], harness := (true, "8a332b0e59a0e9c8d94250ac12bc2d943f6d481f626090cf3445cccad9013b59"), looks := false }, kinds := [], alts := [], laidByText := true, laidKinds := [.data, .data, .data, .data, .pinned], laidTests := true, laidLooks := .later }
def FnCommutingCardSaid : Prop := Claim7.holds Tryz.pinned (.plain (OpenSpec.ofChange fnCommutingSpec)) fnCommutingCard

/-- THE SECOND FORM's CARD OF 'laws.FnTop'. -/
def fnTopUptoCard : Claim7 := { stood := { row := fnTopUptoRow, standIns := [], harness := (true, "8a332b0e59a0e9c8d94250ac12bc2d943f6d481f626090cf3445cccad9013b59"), looks := false }, kinds := [], alts := [], laidByText := true, laidKinds := [.data, .data, .data, .data, .pinned], laidTests := true, laidLooks := .later }
def FnTopUptoCardSaid : Prop := Claim7.holds Tryz.pinned (.plain (OpenSpec.upto fnTopSpec)) fnTopUptoCard

/-- THE SECOND FORM's CARD OF 'laws.FnPromiseOfAll'. -/
def fnPromiseOfAllUptoCard : Claim7 := { stood := { row := fnPromiseOfAllUptoRow, standIns := [], harness := (true, "8a332b0e59a0e9c8d94250ac12bc2d943f6d481f626090cf3445cccad9013b59"), looks := false }, kinds := [], alts := [], laidByText := true, laidKinds := [.data, .data, .data, .data, .pinned], laidTests := true, laidLooks := .later }
def FnPromiseOfAllUptoCardSaid : Prop := Claim7.holds Tryz.pinned (.plain (OpenSpec.upto fnPromiseOfAllSpec)) fnPromiseOfAllUptoCard

/-- THE SECOND FORM's CARD OF 'laws.FnCommuting'. -/
def fnCommutingUptoCard : Claim7 := { stood := { row := fnCommutingUptoRow, standIns := [], harness := (true, "8a332b0e59a0e9c8d94250ac12bc2d943f6d481f626090cf3445cccad9013b59"), looks := false }, kinds := [], alts := [], laidByText := true, laidKinds := [.data, .data, .data, .data, .pinned], laidTests := true, laidLooks := .later }
def FnCommutingUptoCardSaid : Prop := Claim7.holds Tryz.pinned (.plain (OpenSpec.upto fnCommutingSpec)) fnCommutingUptoCard
end Rows
end Go.Proofs.YtmlgfaojfmkdnaaGreatDoor
