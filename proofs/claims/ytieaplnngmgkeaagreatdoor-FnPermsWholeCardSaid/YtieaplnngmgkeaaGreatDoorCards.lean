/-
  DERIVED. GIVEN WITH THE SEED: THE CARDS: each row of YtieaplnngmgkeaaGreatDoorRows.lean that lists a variable, with what it lists TIED to the program's text (the seventh form; the later family's looks); each row that meets fmt, with fmt's text TOLD by the authors' own Lean function (tested against real Go, not proved from fmt's source: count such statements apart). THE CARD IS WHAT COUNTS. Prove the row's statement (the work); the ties are given (YtieaplnngmgkeaaGreatDoorTie.lean); close each card by the builder's one call (the guide's Derived/Test/ToyasCard.lean, 'card_holds'). Laid BY PROGRAM, IN A SANDBOX (cutbox-door.mjs). By AI agents, Wed Nov 11 2026. No macro, syntax, notation, axiom, sorry.
-/
import Derived.Test.YtieaplnngmgkeaaGreatDoorRows
import GoSem.ClaimSeven
namespace Go.Proofs.YtieaplnngmgkeaaGreatDoor
namespace Rows

/-- THE TIED CARD OF 'laws.FnPermsWhole'. -/
def fnPermsWholeCard : Claim7 := { stood := { row := fnPermsWholeRow, standIns := [], harness := (true, "22bfa9abbf0212d524f156f375745bdaa1498f514b8375fba3c15e5da26920f3"), looks := true }, kinds := [], alts := [], laidByText := true, laidKinds := [.data, .data, .data, .data, .sentinel, .sentinel, .pinned], laidTests := true, laidLooks := .later }
def FnPermsWholeCardSaid : Prop := Claim7.holds Tryz.pinned (.plain (OpenSpec.ofChange fnPermsWholeSpec)) fnPermsWholeCard

/-- THE SECOND FORM's CARD OF 'laws.FnPermsWhole'. -/
def fnPermsWholeUptoCard : Claim7 := { stood := { row := fnPermsWholeUptoRow, standIns := [], harness := (true, "22bfa9abbf0212d524f156f375745bdaa1498f514b8375fba3c15e5da26920f3"), looks := true }, kinds := [], alts := [], laidByText := true, laidKinds := [.data, .data, .data, .data, .sentinel, .sentinel, .pinned], laidTests := true, laidLooks := .later }
def FnPermsWholeUptoCardSaid : Prop := Claim7.holds Tryz.pinned (.plain (OpenSpec.upto fnPermsWholeSpec)) fnPermsWholeUptoCard
end Rows
end Go.Proofs.YtieaplnngmgkeaaGreatDoor
