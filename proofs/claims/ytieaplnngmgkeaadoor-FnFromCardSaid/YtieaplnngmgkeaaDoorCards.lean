/-
  DERIVED. GIVEN WITH THE SEED: THE CARDS: each row of YtieaplnngmgkeaaDoorRows.lean that lists a variable, with what it lists TIED to the program's text (the seventh form; the later family's looks); each row that meets fmt, with fmt's text TOLD by the authors' own Lean function (tested against real Go, not proved from fmt's source: count such statements apart). THE CARD IS WHAT COUNTS. Prove the row's statement (the work); the ties are given (YtieaplnngmgkeaaDoorTie.lean); close each card by the builder's one call (the guide's Derived/Test/ToyasCard.lean, 'card_holds'). Laid BY PROGRAM, IN A SANDBOX (cutbox-door.mjs). By AI agents, Wed Nov 11 2026. No macro, syntax, notation, axiom, sorry.
-/
import Derived.Test.YtieaplnngmgkeaaDoorRows
import GoSem.ClaimSeven
namespace Go.Proofs.YtieaplnngmgkeaaDoor
namespace Rows

/-- THE TIED CARD OF 'laws.FnExactPermFrom'. -/
def fnExactPermFromCard : Claim7 := { stood := { row := fnExactPermFromRow, standIns := [], harness := (true, "9165ee984a2494a998ef6472c3155b820e7e585ce7200bad27ef59c7abe14459"), looks := true }, kinds := [], alts := [], laidByText := true, laidKinds := [.data, .data, .data, .data, .sentinel, .sentinel, .pinned], laidTests := true, laidLooks := .later }
def FnExactPermFromCardSaid : Prop := Claim7.holds Tryd.pinned (.plain (OpenSpec.ofChange fnExactPermFromSpec)) fnExactPermFromCard

/-- THE TIED CARD OF 'laws.FnFrom'. -/
def fnFromCard : Claim7 := { stood := { row := fnFromRow, standIns := [], harness := (true, "9165ee984a2494a998ef6472c3155b820e7e585ce7200bad27ef59c7abe14459"), looks := true }, kinds := [], alts := [], laidByText := true, laidKinds := [.data, .data, .data, .data, .sentinel, .sentinel, .pinned], laidTests := true, laidLooks := .later }
def FnFromCardSaid : Prop := Claim7.holds Tryd.pinned (.plain (OpenSpec.ofChange fnFromSpec)) fnFromCard

/-- THE TIED CARD OF 'laws.FnExactPermText'. -/
def fnExactPermTextCard : Claim7 := { stood := { row := fnExactPermTextRow, standIns := [], harness := (true, "9165ee984a2494a998ef6472c3155b820e7e585ce7200bad27ef59c7abe14459"), looks := true }, kinds := [], alts := [], laidByText := true, laidKinds := [.data, .data, .data], laidTests := true, laidLooks := .later }
def FnExactPermTextCardSaid : Prop := Claim7.holds Tryd.pinned (.plain (OpenSpec.ofChange fnExactPermTextSpec)) fnExactPermTextCard

/-- THE TIED CARD OF 'laws.FnText'. -/
def fnTextCard : Claim7 := { stood := { row := fnTextRow, standIns := [], harness := (true, "9165ee984a2494a998ef6472c3155b820e7e585ce7200bad27ef59c7abe14459"), looks := true }, kinds := [], alts := [], laidByText := true, laidKinds := [.data, .data, .data, .data, .sentinel, .sentinel, .pinned], laidTests := true, laidLooks := .later }
def FnTextCardSaid : Prop := Claim7.holds Tryd.pinned (.plain (OpenSpec.ofChange fnTextSpec)) fnTextCard

/-- THE SECOND FORM's CARD OF 'laws.FnExactPermFrom'. -/
def fnExactPermFromUptoCard : Claim7 := { stood := { row := fnExactPermFromUptoRow, standIns := [], harness := (true, "9165ee984a2494a998ef6472c3155b820e7e585ce7200bad27ef59c7abe14459"), looks := true }, kinds := [], alts := [], laidByText := true, laidKinds := [.data, .data, .data, .data, .sentinel, .sentinel, .pinned], laidTests := true, laidLooks := .later }
def FnExactPermFromUptoCardSaid : Prop := Claim7.holds Tryd.pinned (.plain (OpenSpec.upto fnExactPermFromSpec)) fnExactPermFromUptoCard

/-- THE SECOND FORM's CARD OF 'laws.FnFrom'. -/
def fnFromUptoCard : Claim7 := { stood := { row := fnFromUptoRow, standIns := [], harness := (true, "9165ee984a2494a998ef6472c3155b820e7e585ce7200bad27ef59c7abe14459"), looks := true }, kinds := [], alts := [], laidByText := true, laidKinds := [.data, .data, .data, .data, .sentinel, .sentinel, .pinned], laidTests := true, laidLooks := .later }
def FnFromUptoCardSaid : Prop := Claim7.holds Tryd.pinned (.plain (OpenSpec.upto fnFromSpec)) fnFromUptoCard

/-- THE SECOND FORM's CARD OF 'laws.FnExactPermText'. -/
def fnExactPermTextUptoCard : Claim7 := { stood := { row := fnExactPermTextUptoRow, standIns := [], harness := (true, "9165ee984a2494a998ef6472c3155b820e7e585ce7200bad27ef59c7abe14459"), looks := true }, kinds := [], alts := [], laidByText := true, laidKinds := [.data, .data, .data], laidTests := true, laidLooks := .later }
def FnExactPermTextUptoCardSaid : Prop := Claim7.holds Tryd.pinned (.plain (OpenSpec.upto fnExactPermTextSpec)) fnExactPermTextUptoCard

/-- THE SECOND FORM's CARD OF 'laws.FnText'. -/
def fnTextUptoCard : Claim7 := { stood := { row := fnTextUptoRow, standIns := [], harness := (true, "9165ee984a2494a998ef6472c3155b820e7e585ce7200bad27ef59c7abe14459"), looks := true }, kinds := [], alts := [], laidByText := true, laidKinds := [.data, .data, .data, .data, .sentinel, .sentinel, .pinned], laidTests := true, laidLooks := .later }
def FnTextUptoCardSaid : Prop := Claim7.holds Tryd.pinned (.plain (OpenSpec.upto fnTextSpec)) fnTextUptoCard
end Rows
end Go.Proofs.YtieaplnngmgkeaaDoor
