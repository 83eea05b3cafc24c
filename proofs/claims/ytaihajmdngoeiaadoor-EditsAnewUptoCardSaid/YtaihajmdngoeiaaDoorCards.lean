/-
  DERIVED. GIVEN WITH THE SEED: THE CARDS: each row of YtaihajmdngoeiaaDoorRows.lean that lists a variable, with what it lists TIED to the program's text (the seventh form; the later family's looks); each row that meets fmt, with fmt's text TOLD by the authors' own Lean function (tested against real Go, not proved from fmt's source: count such statements apart). THE CARD IS WHAT COUNTS. Prove the row's statement (the work); the ties are given (YtaihajmdngoeiaaDoorTie.lean); close each card by the builder's one call (the guide's Derived/Test/ToyasCard.lean, 'card_holds'). Laid BY PROGRAM, IN A SANDBOX (cutbox-door.mjs). By AI agents, Wed Nov 11 2026. No macro, syntax, notation, axiom, sorry.
-/
import Derived.Test.YtaihajmdngoeiaaDoorRows
import GoSem.ClaimSeven
namespace Go.Proofs.YtaihajmdngoeiaaDoor
namespace Rows

/-- THE TIED CARD OF 'monikerlaw1.EditsPrints'. -/
def editsPrintsCard : Claim7 := { stood := { row := editsPrintsRow, standIns := [], harness := (true, "5dff5955441dae039d908d6fa71d36e157deb213d1f0e8a3e839571ce3078b52"), looks := true }, kinds := [], alts := [], laidByText := true, laidKinds := [.data, .data, .data], laidTests := true, laidLooks := .later }
def EditsPrintsCardSaid : Prop := Claim7.holds Tryd.pinned (.plain (OpenSpec.ofChange editsPrintsSpec)) editsPrintsCard

/-- THE TIED CARD OF 'monikerlaw1.EditsRound'. -/
def editsRoundCard : Claim7 := { stood := { row := editsRoundRow, standIns := [], harness := (true, "5dff5955441dae039d908d6fa71d36e157deb213d1f0e8a3e839571ce3078b52"), looks := true }, kinds := [], alts := [], laidByText := true, laidKinds := [.data, .data, .data], laidTests := true, laidLooks := .later }
def EditsRoundCardSaid : Prop := Claim7.holds Tryd.pinned (.plain (OpenSpec.ofChange editsRoundSpec)) editsRoundCard

/-- THE TIED CARD OF 'monikerlaw1.EditsAnew'. -/
def editsAnewCard : Claim7 := { stood := { row := editsAnewRow, standIns := [], harness := (true, "5dff5955441dae039d908d6fa71d36e157deb213d1f0e8a3e839571ce3078b52"), looks := true }, kinds := [], alts := [], laidByText := true, laidKinds := [.data, .data, .data], laidTests := true, laidLooks := .later }
def EditsAnewCardSaid : Prop := Claim7.holds Tryd.pinned (.plain (OpenSpec.ofChange editsAnewSpec)) editsAnewCard

/-- THE TIED CARD OF 'monikerlaw1.EditsParses'. -/
def editsParsesCard : Claim7 := { stood := { row := editsParsesRow, standIns := [], harness := (true, "5dff5955441dae039d908d6fa71d36e157deb213d1f0e8a3e839571ce3078b52"), looks := true }, kinds := [], alts := [], laidByText := true, laidKinds := [.data, .data, .data, .sentinel, .sentinel], laidTests := true, laidLooks := .later }
def EditsParsesCardSaid : Prop := Claim7.holds Tryd.pinned (.plain (OpenSpec.ofChange editsParsesSpec)) editsParsesCard

/-- THE TIED CARD OF 'monikerlaw1.EditsOwn'. -/
def editsOwnCard : Claim7 := { stood := { row := editsOwnRow, standIns := [], harness := (true, "5dff5955441dae039d908d6fa71d36e157deb213d1f0e8a3e839571ce3078b52"), looks := true }, kinds := [], alts := [], laidByText := true, laidKinds := [.data, .data, .data, .sentinel, .sentinel], laidTests := true, laidLooks := .later }
def EditsOwnCardSaid : Prop := Claim7.holds Tryd.pinned (.plain (OpenSpec.ofChange editsOwnSpec)) editsOwnCard

/-- THE SECOND FORM's CARD OF 'monikerlaw1.EditsPrints'. -/
def editsPrintsUptoCard : Claim7 := { stood := { row := editsPrintsUptoRow, standIns := [], harness := (true, "5dff5955441dae039d908d6fa71d36e157deb213d1f0e8a3e839571ce3078b52"), looks := true }, kinds := [], alts := [], laidByText := true, laidKinds := [.data, .data, .data], laidTests := true, laidLooks := .later }
def EditsPrintsUptoCardSaid : Prop := Claim7.holds Tryd.pinned (.plain (OpenSpec.upto editsPrintsSpec)) editsPrintsUptoCard

/-- THE SECOND FORM's CARD OF 'monikerlaw1.EditsRound'. -/
def editsRoundUptoCard : Claim7 := { stood := { row := editsRoundUptoRow, standIns := [], harness := (true, "5dff5955441dae039d908d6fa71d36e157deb213d1f0e8a3e839571ce3078b52"), looks := true }, kinds := [], alts := [], laidByText := true, laidKinds := [.data, .data, .data], laidTests := true, laidLooks := .later }
def EditsRoundUptoCardSaid : Prop := Claim7.holds Tryd.pinned (.plain (OpenSpec.upto editsRoundSpec)) editsRoundUptoCard

/-- THE SECOND FORM's CARD OF 'monikerlaw1.EditsAnew'. -/
def editsAnewUptoCard : Claim7 := { stood := { row := editsAnewUptoRow, standIns := [], harness := (true, "5dff5955441dae039d908d6fa71d36e157deb213d1f0e8a3e839571ce3078b52"), looks := true }, kinds := [], alts := [], laidByText := true, laidKinds := [.data, .data, .data], laidTests := true, laidLooks := .later }
def EditsAnewUptoCardSaid : Prop := Claim7.holds Tryd.pinned (.plain (OpenSpec.upto editsAnewSpec)) editsAnewUptoCard

/-- THE SECOND FORM's CARD OF 'monikerlaw1.EditsParses'. -/
def editsParsesUptoCard : Claim7 := { stood := { row := editsParsesUptoRow, standIns := [], harness := (true, "5dff5955441dae039d908d6fa71d36e157deb213d1f0e8a3e839571ce3078b52"), looks := true }, kinds := [], alts := [], laidByText := true, laidKinds := [.data, .data, .data, .sentinel, .sentinel], laidTests := true, laidLooks := .later }
def EditsParsesUptoCardSaid : Prop := Claim7.holds Tryd.pinned (.plain (OpenSpec.upto editsParsesSpec)) editsParsesUptoCard

/-- THE SECOND FORM's CARD OF 'monikerlaw1.EditsOwn'. -/
def editsOwnUptoCard : Claim7 := { stood := { row := editsOwnUptoRow, standIns := [], harness := (true, "5dff5955441dae039d908d6fa71d36e157deb213d1f0e8a3e839571ce3078b52"), looks := true }, kinds := [], alts := [], laidByText := true, laidKinds := [.data, .data, .data, .sentinel, .sentinel], laidTests := true, laidLooks := .later }
def EditsOwnUptoCardSaid : Prop := Claim7.holds Tryd.pinned (.plain (OpenSpec.upto editsOwnSpec)) editsOwnUptoCard
end Rows
end Go.Proofs.YtaihajmdngoeiaaDoor
