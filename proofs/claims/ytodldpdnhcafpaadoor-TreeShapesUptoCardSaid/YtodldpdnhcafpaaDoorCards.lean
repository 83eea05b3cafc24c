/-
  DERIVED. GIVEN WITH THE SEED: THE CARDS: each row of YtodldpdnhcafpaaDoorRows.lean that lists a variable, with what it lists TIED to the program's text (the seventh form; the later family's looks); each row that meets fmt, with fmt's text TOLD by the authors' own Lean function (tested against real Go, not proved from fmt's source: count such statements apart). THE CARD IS WHAT COUNTS. Prove the row's statement (the work); the ties are given (YtodldpdnhcafpaaDoorTie.lean); close each card by the builder's one call (the guide's Derived/Test/ToyasCard.lean, 'card_holds'). Laid BY PROGRAM, IN A SANDBOX (cutbox-door.mjs). By AI agents, Wed Nov 11 2026. No macro, syntax, notation, axiom, sorry.
-/
import Derived.Test.YtodldpdnhcafpaaDoorRows
import GoSem.ClaimSeven
namespace Go.Proofs.YtodldpdnhcafpaaDoor
namespace Rows

/-- THE TIED CARD OF 'monikerlaw4.TreeDraws'. -/
def treeDrawsCard : Claim7 := { stood := { row := treeDrawsRow, standIns := [], harness := (true, "8890b2ea800a1585d7a100827d90fe9f5334f9110d9f107b164d7ebcec4d257b"), looks := false }, kinds := [], alts := [], laidByText := true, laidKinds := [.data, .data], laidTests := true, laidLooks := .later }
def TreeDrawsCardSaid : Prop := Claim7.holds Tryd.pinned (.plain (OpenSpec.ofChange treeDrawsSpec)) treeDrawsCard

/-- THE TIED CARD OF 'monikerlaw4.TreeSketches'. -/
def treeSketchesCard : Claim7 := { stood := { row := treeSketchesRow, standIns := [], harness := (true, "8890b2ea800a1585d7a100827d90fe9f5334f9110d9f107b164d7ebcec4d257b"), looks := false }, kinds := [], alts := [], laidByText := true, laidKinds := [.data, .data], laidTests := true, laidLooks := .later }
def TreeSketchesCardSaid : Prop := Claim7.holds Tryd.pinned (.plain (OpenSpec.ofChange treeSketchesSpec)) treeSketchesCard

/-- THE TIED CARD OF 'monikerlaw4.TreeShapes'. -/
def treeShapesCard : Claim7 := { stood := { row := treeShapesRow, standIns := [], harness := (true, "8890b2ea800a1585d7a100827d90fe9f5334f9110d9f107b164d7ebcec4d257b"), looks := false }, kinds := [], alts := [], laidByText := true, laidKinds := [.data], laidTests := true, laidLooks := .later }
def TreeShapesCardSaid : Prop := Claim7.holds Tryd.pinned (.plain (OpenSpec.ofChange treeShapesSpec)) treeShapesCard

/-- THE TIED CARD OF 'monikerlaw4.TreeMine'. -/
def treeMineCard : Claim7 := { stood := { row := treeMineRow, standIns := [], harness := (true, "8890b2ea800a1585d7a100827d90fe9f5334f9110d9f107b164d7ebcec4d257b"), looks := false }, kinds := [], alts := [], laidByText := true, laidKinds := [.data, .data], laidTests := true, laidLooks := .later }
def TreeMineCardSaid : Prop := Claim7.holds Tryd.pinned (.plain (OpenSpec.ofChange treeMineSpec)) treeMineCard

/-- THE SECOND FORM's CARD OF 'monikerlaw4.TreeDraws'. -/
def treeDrawsUptoCard : Claim7 := { stood := { row := treeDrawsUptoRow, standIns := [], harness := (true, "8890b2ea800a1585d7a100827d90fe9f5334f9110d9f107b164d7ebcec4d257b"), looks := false }, kinds := [], alts := [], laidByText := true, laidKinds := [.data, .data], laidTests := true, laidLooks := .later }
def TreeDrawsUptoCardSaid : Prop := Claim7.holds Tryd.pinned (.plain (OpenSpec.upto treeDrawsSpec)) treeDrawsUptoCard

/-- THE SECOND FORM's CARD OF 'monikerlaw4.TreeSketches'. -/
def treeSketchesUptoCard : Claim7 := { stood := { row := treeSketchesUptoRow, standIns := [], harness := (true, "8890b2ea800a1585d7a100827d90fe9f5334f9110d9f107b164d7ebcec4d257b"), looks := false }, kinds := [], alts := [], laidByText := true, laidKinds := [.data, .data], laidTests := true, laidLooks := .later }
def TreeSketchesUptoCardSaid : Prop := Claim7.holds Tryd.pinned (.plain (OpenSpec.upto treeSketchesSpec)) treeSketchesUptoCard

/-- THE SECOND FORM's CARD OF 'monikerlaw4.TreeShapes'. -/
def treeShapesUptoCard : Claim7 := { stood := { row := treeShapesUptoRow, standIns := [], harness := (true, "8890b2ea800a1585d7a100827d90fe9f5334f9110d9f107b164d7ebcec4d257b"), looks := false }, kinds := [], alts := [], laidByText := true, laidKinds := [.data], laidTests := true, laidLooks := .later }
def TreeShapesUptoCardSaid : Prop := Claim7.holds Tryd.pinned (.plain (OpenSpec.upto treeShapesSpec)) treeShapesUptoCard

/-- THE SECOND FORM's CARD OF 'monikerlaw4.TreeMine'. -/
def treeMineUptoCard : Claim7 := { stood := { row := treeMineUptoRow, standIns := [], harness := (true, "8890b2ea800a1585d7a100827d90fe9f5334f9110d9f107b164d7ebcec4d257b"), looks := false }, kinds := [], alts := [], laidByText := true, laidKinds := [.data, .data], laidTests := true, laidLooks := .later }
def TreeMineUptoCardSaid : Prop := Claim7.holds Tryd.pinned (.plain (OpenSpec.upto treeMineSpec)) treeMineUptoCard
end Rows
end Go.Proofs.YtodldpdnhcafpaaDoor
