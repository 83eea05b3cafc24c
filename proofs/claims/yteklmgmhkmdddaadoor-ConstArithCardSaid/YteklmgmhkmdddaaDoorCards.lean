/-
  DERIVED. GIVEN WITH THE SEED: THE CARDS: each row of YteklmgmhkmdddaaDoorRows.lean that lists a variable, with what it lists TIED to the program's text (the seventh form; the later family's looks); each row that meets fmt, with fmt's text TOLD by the authors' own Lean function (tested against real Go, not proved from fmt's source: count such statements apart). THE CARD IS WHAT COUNTS. Prove the row's statement (the work); the ties are given (YteklmgmhkmdddaaDoorTie.lean); close each card by the builder's one call (the guide's Derived/Test/ToyasCard.lean, 'card_holds'). Laid BY PROGRAM, IN A SANDBOX (cutbox-door.mjs). By AI agents, Wed Nov 11 2026. No macro, syntax, notation, axiom, sorry.
-/
import Derived.Test.YteklmgmhkmdddaaDoorRows
import GoSem.ClaimSeven
namespace Go.Proofs.YteklmgmhkmdddaaDoor
namespace Rows

/-- THE TIED CARD OF 'monikerlaw8.ConstTurned'. -/
def constTurnedCard : Claim7 := { stood := { row := constTurnedRow, standIns := [], harness := (true, "084c5a8330fa9b7c319350bbe20c71b9281869b36a6e89ffd28a9c2889556acc"), looks := false }, kinds := [], alts := [], laidByText := true, laidKinds := [.data], laidTests := true, laidLooks := .later }
def ConstTurnedCardSaid : Prop := Claim7.holds Tryd.pinned (.plain (OpenSpec.ofChange constTurnedSpec)) constTurnedCard

/-- THE TIED CARD OF 'monikerlaw8.ConstJoins'. -/
def constJoinsCard : Claim7 := { stood := { row := constJoinsRow, standIns := [], harness := (true, "084c5a8330fa9b7c319350bbe20c71b9281869b36a6e89ffd28a9c2889556acc"), looks := false }, kinds := [], alts := [], laidByText := true, laidKinds := [.data], laidTests := true, laidLooks := .later }
def ConstJoinsCardSaid : Prop := Claim7.holds Tryd.pinned (.plain (OpenSpec.ofChange constJoinsSpec)) constJoinsCard

/-- THE TIED CARD OF 'monikerlaw8.ConstOrder'. -/
def constOrderCard : Claim7 := { stood := { row := constOrderRow, standIns := [], harness := (true, "084c5a8330fa9b7c319350bbe20c71b9281869b36a6e89ffd28a9c2889556acc"), looks := false }, kinds := [], alts := [], laidByText := true, laidKinds := [.data], laidTests := true, laidLooks := .later }
def ConstOrderCardSaid : Prop := Claim7.holds Tryd.pinned (.plain (OpenSpec.ofChange constOrderSpec)) constOrderCard

/-- THE TIED CARD OF 'monikerlaw8.ConstBinaries'. -/
def constBinariesCard : Claim7 := { stood := { row := constBinariesRow, standIns := [], harness := (true, "084c5a8330fa9b7c319350bbe20c71b9281869b36a6e89ffd28a9c2889556acc"), looks := false }, kinds := [], alts := [], laidByText := true, laidKinds := [.data], laidTests := true, laidLooks := .later }
def ConstBinariesCardSaid : Prop := Claim7.holds Tryd.pinned (.plain (OpenSpec.ofChange constBinariesSpec)) constBinariesCard

/-- THE TIED CARD OF 'monikerlaw8.ConstArith'. -/
def constArithCard : Claim7 := { stood := { row := constArithRow, standIns := [], harness := (true, "084c5a8330fa9b7c319350bbe20c71b9281869b36a6e89ffd28a9c2889556acc"), looks := false }, kinds := [], alts := [], laidByText := true, laidKinds := [.data], laidTests := true, laidLooks := .later }
def ConstArithCardSaid : Prop := Claim7.holds Tryd.pinned (.plain (OpenSpec.ofChange constArithSpec)) constArithCard

/-- THE SECOND FORM's CARD OF 'monikerlaw8.ConstTurned'. -/
def constTurnedUptoCard : Claim7 := { stood := { row := constTurnedUptoRow, standIns := [], harness := (true, "084c5a8330fa9b7c319350bbe20c71b9281869b36a6e89ffd28a9c2889556acc"), looks := false }, kinds := [], alts := [], laidByText := true, laidKinds := [.data], laidTests := true, laidLooks := .later }
def ConstTurnedUptoCardSaid : Prop := Claim7.holds Tryd.pinned (.plain (OpenSpec.upto constTurnedSpec)) constTurnedUptoCard

/-- THE SECOND FORM's CARD OF 'monikerlaw8.ConstJoins'. -/
def constJoinsUptoCard : Claim7 := { stood := { row := constJoinsUptoRow, standIns := [], harness := (true, "084c5a8330fa9b7c319350bbe20c71b9281869b36a6e89ffd28a9c2889556acc"), looks := false }, kinds := [], alts := [], laidByText := true, laidKinds := [.data], laidTests := true, laidLooks := .later }
def ConstJoinsUptoCardSaid : Prop := Claim7.holds Tryd.pinned (.plain (OpenSpec.upto constJoinsSpec)) constJoinsUptoCard

/-- THE SECOND FORM's CARD OF 'monikerlaw8.ConstOrder'. -/
def constOrderUptoCard : Claim7 := { stood := { row := constOrderUptoRow, standIns := [], harness := (true, "084c5a8330fa9b7c319350bbe20c71b9281869b36a6e89ffd28a9c2889556acc"), looks := false }, kinds := [], alts := [], laidByText := true, laidKinds := [.data], laidTests := true, laidLooks := .later }
def ConstOrderUptoCardSaid : Prop := Claim7.holds Tryd.pinned (.plain (OpenSpec.upto constOrderSpec)) constOrderUptoCard

/-- THE SECOND FORM's CARD OF 'monikerlaw8.ConstBinaries'. -/
def constBinariesUptoCard : Claim7 := { stood := { row := constBinariesUptoRow, standIns := [], harness := (true, "084c5a8330fa9b7c319350bbe20c71b9281869b36a6e89ffd28a9c2889556acc"), looks := false }, kinds := [], alts := [], laidByText := true, laidKinds := [.data], laidTests := true, laidLooks := .later }
def ConstBinariesUptoCardSaid : Prop := Claim7.holds Tryd.pinned (.plain (OpenSpec.upto constBinariesSpec)) constBinariesUptoCard

/-- THE SECOND FORM's CARD OF 'monikerlaw8.ConstArith'. -/
def constArithUptoCard : Claim7 := { stood := { row := constArithUptoRow, standIns := [], harness := (true, "084c5a8330fa9b7c319350bbe20c71b9281869b36a6e89ffd28a9c2889556acc"), looks := false }, kinds := [], alts := [], laidByText := true, laidKinds := [.data], laidTests := true, laidLooks := .later }
def ConstArithUptoCardSaid : Prop := Claim7.holds Tryd.pinned (.plain (OpenSpec.upto constArithSpec)) constArithUptoCard
end Rows
end Go.Proofs.YteklmgmhkmdddaaDoor
