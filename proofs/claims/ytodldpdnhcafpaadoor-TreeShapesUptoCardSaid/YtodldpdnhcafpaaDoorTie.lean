/-
  DERIVED. GIVEN WITH THE SEED: THE PROGRAM's TIES (one call each: nine closed facts by the kernel) AND EACH ROW's TIE, after the 31st guide's Derived/Test/Toyas{Tie, Card}.lean. No idea stands in it: it is a product of the set-up. Laid BY PROGRAM, IN A SANDBOX (cutbox-door.mjs). By AI agents, Wed Nov 11 2026. No macro, syntax, notation, axiom, sorry.
-/
import Derived.Test.YtodldpdnhcafpaaDoorRows
import Derived.LaidByTextLater
import Derived.SevenTiedAt
import Derived.LaidSub
import Derived.LaidOnce
namespace Go.Proofs.YtodldpdnhcafpaaDoor
open Go
set_option maxRecDepth 100000
theorem seatTie1 : Tryd.prog.laidByTextLater [("moniker/monikerref4.names", Rows.laid_moniker_monikerref4_names), ("moniker/tree.kinds", Rows.laid_moniker_tree_kinds)] [.data, .data] true :=
  Program.laidByTextLater_by_one 19 8 59 (by kernel_rfl) (by kernel_rfl) (by kernel_rfl) (by kernel_rfl) (by kernel_rfl) (by kernel_rfl) (fun _ _ => by kernel_rfl)
theorem noOwnUnsafe : Tryd.pinned.checked.prog.headLifts.contains "ownunsafe" = false := by kernel_rfl
theorem tie : Tryd.prog.laidByTextLater [("moniker/monikerref4.names", Rows.laid_moniker_monikerref4_names), ("moniker/tree.kinds", Rows.laid_moniker_tree_kinds)] [.data, .data] true :=
  Program.laidByTextLater.sub seatTie1 ["moniker/monikerref4.names", "moniker/tree.kinds"] (by kernel_rfl) (by kernel_rfl)
theorem treeDraws_row_tie : Rows.treeDrawsRow.laidByTextAt .later Tryd.pinned [.data, .data] true :=
  OpenClaim.laidByTextAt_later rfl rfl tie noOwnUnsafe
theorem treeSketches_row_tie : Rows.treeSketchesRow.laidByTextAt .later Tryd.pinned [.data, .data] true :=
  OpenClaim.laidByTextAt_later rfl rfl tie noOwnUnsafe
theorem treeMine_row_tie : Rows.treeMineRow.laidByTextAt .later Tryd.pinned [.data, .data] true :=
  OpenClaim.laidByTextAt_later rfl rfl tie noOwnUnsafe
theorem tie2 : Tryd.prog.laidByTextLater [("moniker/tree.kinds", Rows.laid_moniker_tree_kinds)] [.data] true :=
  Program.laidByTextLater.sub seatTie1 ["moniker/tree.kinds"] (by kernel_rfl) (by kernel_rfl)
theorem treeShapes_row_tie : Rows.treeShapesRow.laidByTextAt .later Tryd.pinned [.data] true :=
  OpenClaim.laidByTextAt_later rfl rfl tie2 noOwnUnsafe
theorem treeDrawsUpto_row_tie : Rows.treeDrawsUptoRow.laidByTextAt .later Tryd.pinned [.data, .data] true :=
  OpenClaim.laidByTextAt_later rfl rfl tie noOwnUnsafe
theorem treeSketchesUpto_row_tie : Rows.treeSketchesUptoRow.laidByTextAt .later Tryd.pinned [.data, .data] true :=
  OpenClaim.laidByTextAt_later rfl rfl tie noOwnUnsafe
theorem treeShapesUpto_row_tie : Rows.treeShapesUptoRow.laidByTextAt .later Tryd.pinned [.data] true :=
  OpenClaim.laidByTextAt_later rfl rfl tie2 noOwnUnsafe
theorem treeMineUpto_row_tie : Rows.treeMineUptoRow.laidByTextAt .later Tryd.pinned [.data, .data] true :=
  OpenClaim.laidByTextAt_later rfl rfl tie noOwnUnsafe
end Go.Proofs.YtodldpdnhcafpaaDoor
