/-
  NARROWER THAN 'FOR EVERY INPUT', by the rows' own cells (each row's printed sentence says how): TreeDraws: laid · TreeSketches: laid · TreeShapes: laid · TreeMine: laid.
  DERIVED. THE GIVEN ROWS OF THIS SEAT. 4 by the template 'for every input the law returns true; each argument reads behind the call as it read before'; 0 by the template 'total and deterministic' (their statements: YtodldpdnhcafpaaDoorTotals.lean).
  GIVEN WITH THE SEED: the statements are not yours to turn. If you find one false, say at which input.
  Laid BY PROGRAM, IN A SANDBOX (cutbox-rows.mjs): the forced cells as the released guide's own fill.sh prints them over the translation 30671644573644f3… (all of the seat's roots in one cut). By AI agents, Wed Nov 11 2026. No macro, syntax, notation, axiom, sorry.
-/
import Derived.Test.YtodldpdnhcafpaaDoorChecked
import GoSem.Claim
import GoSem.ClaimJoined
import GoSem.ClaimMapViews
import Derived.JoinedTies
import Derived.KernelRfl
namespace Go.Proofs.YtodldpdnhcafpaaDoor
/- THE CELL 'sum', in the pinned program and in every row, IS THE sha256 OF THE DUMP (.gsa) THAT YtodldpdnhcafpaaDoorProg.lean LOADS. Nothing in Lean hashes anything: it is a label: what it is worth is what the hold of that sum in a sandbox is worth. -/
noncomputable def Tryd.pinned : Pinned := { name := "ytodldpdnhcafpaadoor", sum := "30671644573644f3b0d8bf65d1f4dd1d4c6c92eb79550a75c79d645524ba6a55", checked := Tryd.checked }
namespace Rows
def none {H : Type} : Left H := { results := [], args := [] }

/- WHAT THE LISTED PACKAGE-LEVEL VARIABLES READ AS WHEN THE CALL BEGINS. Each datum BY PROGRAM (the guide's laid-datum.mjs) off the statement by which the dump's own 'gosem.cut.vars' lays the variable. In a bare row this is a premise. The card (YtodldpdnhcafpaaDoorCards.lean) ties it to the program's text. -/
def laid_moniker_monikerref4_names {H : Type} : DataW H := .agg [.lit (.string [78, 111, 110, 101]), .lit (.string [76, 105, 115, 116]), .lit (.string [70, 105, 108, 101]), .lit (.string [73, 109, 112, 111, 114, 116]), .lit (.string [73, 109, 112, 111, 114, 116, 83, 112, 101, 99]), .lit (.string [67, 111, 110, 115, 116]), .lit (.string [86, 97, 114]), .lit (.string [84, 121, 112, 101, 115]), .lit (.string [67, 111, 110, 115, 116, 83, 112, 101, 99]), .lit (.string [86, 97, 114, 83, 112, 101, 99]), .lit (.string [84, 121, 112, 101, 83, 112, 101, 99]), .lit (.string [70, 117, 110, 99]), .lit (.string [82, 101, 99, 118]), .lit (.string [83, 105, 103]), .lit (.string [80, 97, 114, 97, 109]), .lit (.string [83, 116, 114, 117, 99, 116]), .lit (.string [70, 105, 101, 108, 100]), .lit (.string [69, 109, 98, 101, 100]), .lit (.string [73, 110, 116, 101, 114, 102, 97, 99, 101]), .lit (.string [77, 101, 116, 104, 111, 100]), .lit (.string [83, 104, 97, 112, 101]), .lit (.string [83, 116, 97, 114]), .lit (.string [83, 108, 105, 99, 101, 79, 102]), .lit (.string [77, 97, 112, 79, 102]), .lit (.string [70, 117, 110, 99, 79, 102]), .lit (.string [80, 97, 114, 101, 110]), .lit (.string [83, 101, 108, 101, 99, 116]), .lit (.string [66, 108, 111, 99, 107]), .lit (.string [73, 102]), .lit (.string [83, 119, 105, 116, 99, 104]), .lit (.string [77, 97, 116, 99, 104]), .lit (.string [67, 97, 115, 101]), .lit (.string [68, 101, 102, 97, 117, 108, 116]), .lit (.string [70, 111, 114]), .lit (.string [82, 97, 110, 103, 101]), .lit (.string [76, 97, 98, 101, 108]), .lit (.string [82, 101, 116, 117, 114, 110]), .lit (.string [66, 114, 101, 97, 107]), .lit (.string [67, 111, 110, 116, 105, 110, 117, 101]), .lit (.string [70, 97, 108, 108]), .lit (.string [69, 109, 112, 116, 121]), .lit (.string [68, 111]), .lit (.string [83, 116, 101, 112]), .lit (.string [65, 115, 115, 105, 103, 110]), .lit (.string [68, 101, 102, 105, 110, 101]), .lit (.string [78, 97, 109, 101]), .lit (.string [78, 117, 109, 98, 101, 114]), .lit (.string [67, 104, 97, 114]), .lit (.string [84, 101, 120, 116]), .lit (.string [66, 105, 110, 97, 114, 121]), .lit (.string [83, 105, 103, 110]), .lit (.string [73, 110, 100, 101, 120]), .lit (.string [83, 108, 105, 99, 101]), .lit (.string [65, 115, 115, 101, 114, 116]), .lit (.string [67, 97, 108, 108]), .lit (.string [70, 117, 110, 99, 76, 105, 116]), .lit (.string [67, 111, 109, 112, 111, 115, 105, 116, 101]), .lit (.string [80, 97, 105, 114])]
def laid_moniker_tree_kinds {H : Type} : DataW H := .agg [.lit (.string [78, 111, 110, 101]), .lit (.string [76, 105, 115, 116]), .lit (.string [70, 105, 108, 101]), .lit (.string [73, 109, 112, 111, 114, 116]), .lit (.string [73, 109, 112, 111, 114, 116, 83, 112, 101, 99]), .lit (.string [67, 111, 110, 115, 116]), .lit (.string [86, 97, 114]), .lit (.string [84, 121, 112, 101, 115]), .lit (.string [67, 111, 110, 115, 116, 83, 112, 101, 99]), .lit (.string [86, 97, 114, 83, 112, 101, 99]), .lit (.string [84, 121, 112, 101, 83, 112, 101, 99]), .lit (.string [70, 117, 110, 99]), .lit (.string [82, 101, 99, 118]), .lit (.string [83, 105, 103]), .lit (.string [80, 97, 114, 97, 109]), .lit (.string [83, 116, 114, 117, 99, 116]), .lit (.string [70, 105, 101, 108, 100]), .lit (.string [69, 109, 98, 101, 100]), .lit (.string [73, 110, 116, 101, 114, 102, 97, 99, 101]), .lit (.string [77, 101, 116, 104, 111, 100]), .lit (.string [83, 104, 97, 112, 101]), .lit (.string [83, 116, 97, 114]), .lit (.string [83, 108, 105, 99, 101, 79, 102]), .lit (.string [77, 97, 112, 79, 102]), .lit (.string [70, 117, 110, 99, 79, 102]), .lit (.string [80, 97, 114, 101, 110]), .lit (.string [83, 101, 108, 101, 99, 116]), .lit (.string [66, 108, 111, 99, 107]), .lit (.string [73, 102]), .lit (.string [83, 119, 105, 116, 99, 104]), .lit (.string [77, 97, 116, 99, 104]), .lit (.string [67, 97, 115, 101]), .lit (.string [68, 101, 102, 97, 117, 108, 116]), .lit (.string [70, 111, 114]), .lit (.string [82, 97, 110, 103, 101]), .lit (.string [76, 97, 98, 101, 108]), .lit (.string [82, 101, 116, 117, 114, 110]), .lit (.string [66, 114, 101, 97, 107]), .lit (.string [67, 111, 110, 116, 105, 110, 117, 101]), .lit (.string [70, 97, 108, 108]), .lit (.string [69, 109, 112, 116, 121]), .lit (.string [68, 111]), .lit (.string [83, 116, 101, 112]), .lit (.string [65, 115, 115, 105, 103, 110]), .lit (.string [68, 101, 102, 105, 110, 101]), .lit (.string [78, 97, 109, 101]), .lit (.string [78, 117, 109, 98, 101, 114]), .lit (.string [67, 104, 97, 114]), .lit (.string [84, 101, 120, 116]), .lit (.string [66, 105, 110, 97, 114, 121]), .lit (.string [83, 105, 103, 110]), .lit (.string [73, 110, 100, 101, 120]), .lit (.string [83, 108, 105, 99, 101]), .lit (.string [65, 115, 115, 101, 114, 116]), .lit (.string [67, 97, 108, 108]), .lit (.string [70, 117, 110, 99, 76, 105, 116]), .lit (.string [67, 111, 109, 112, 111, 115, 105, 116, 101]), .lit (.string [80, 97, 105, 114])]

/-- 'monikerlaw4.TreeDraws': WHATEVER THE INPUT: true; the input reads as it did. -/
def treeDrawsSpec : ChangeSpec := { name := "treeDraws", fn := fun _ => fun
  | [d] => { results := [.lit (.bool true)], args := [d] }
  | _ => none }
def treeDrawsRow : OpenClaim := { program := "ytodldpdnhcafpaadoor", sum := "30671644573644f3b0d8bf65d1f4dd1d4c6c92eb79550a75c79d645524ba6a55", func := "moniker/monikerlaw4.TreeDraws", spec := "treeDraws", unfollowed := true, recurses := true, named := ["moniker/tree.kinds", "moniker/monikerref4.names"], apart := false, laid := [("moniker/monikerref4.names", laid_moniker_monikerref4_names), ("moniker/tree.kinds", laid_moniker_tree_kinds)] }
def TreeDrawsSaid : Prop := treeDrawsRow.holds Tryd.pinned (OpenSpec.ofChange treeDrawsSpec)

/-- ITS FALSE NEIGHBOUR: 'it returns false'. Refute it at one input. -/
def treeDrawsWrong : ChangeSpec := { name := "treeDraws", fn := fun _ => fun
  | [d] => { results := [.lit (.bool false)], args := [d] }
  | _ => none }
def TreeDrawsWrongFalsely : Prop := treeDrawsRow.holds Tryd.pinned (OpenSpec.ofChange treeDrawsWrong)

/-- 'monikerlaw4.TreeSketches': WHATEVER THE INPUT: true; the input reads as it did. -/
def treeSketchesSpec : ChangeSpec := { name := "treeSketches", fn := fun _ => fun
  | [d] => { results := [.lit (.bool true)], args := [d] }
  | _ => none }
def treeSketchesRow : OpenClaim := { program := "ytodldpdnhcafpaadoor", sum := "30671644573644f3b0d8bf65d1f4dd1d4c6c92eb79550a75c79d645524ba6a55", func := "moniker/monikerlaw4.TreeSketches", spec := "treeSketches", inPlace := ["internal/abi.NoEscape"], named := ["moniker/tree.kinds", "moniker/monikerref4.names"], apart := false, laid := [("moniker/monikerref4.names", laid_moniker_monikerref4_names), ("moniker/tree.kinds", laid_moniker_tree_kinds)] }
def TreeSketchesSaid : Prop := treeSketchesRow.holds Tryd.pinned (OpenSpec.ofChange treeSketchesSpec)

/-- ITS FALSE NEIGHBOUR: 'it returns false'. Refute it at one input. -/
def treeSketchesWrong : ChangeSpec := { name := "treeSketches", fn := fun _ => fun
  | [d] => { results := [.lit (.bool false)], args := [d] }
  | _ => none }
def TreeSketchesWrongFalsely : Prop := treeSketchesRow.holds Tryd.pinned (OpenSpec.ofChange treeSketchesWrong)

/-- 'monikerlaw4.TreeShapes': WHATEVER THE INPUT: true; the input reads as it did. -/
def treeShapesSpec : ChangeSpec := { name := "treeShapes", fn := fun _ => fun
  | [d1, d2, d3, d4] => { results := [.lit (.bool true)], args := [d1, d2, d3, d4] }
  | _ => none }
def treeShapesRow : OpenClaim := { program := "ytodldpdnhcafpaadoor", sum := "30671644573644f3b0d8bf65d1f4dd1d4c6c92eb79550a75c79d645524ba6a55", func := "moniker/monikerlaw4.TreeShapes", spec := "treeShapes", inPlace := ["internal/abi.NoEscape"], unfollowed := true, recurses := true, named := ["moniker/tree.kinds"], apart := false, laid := [("moniker/tree.kinds", laid_moniker_tree_kinds)] }
def TreeShapesSaid : Prop := treeShapesRow.holds Tryd.pinned (OpenSpec.ofChange treeShapesSpec)

/-- ITS FALSE NEIGHBOUR: 'it returns false'. Refute it at one input. -/
def treeShapesWrong : ChangeSpec := { name := "treeShapes", fn := fun _ => fun
  | [d1, d2, d3, d4] => { results := [.lit (.bool false)], args := [d1, d2, d3, d4] }
  | _ => none }
def TreeShapesWrongFalsely : Prop := treeShapesRow.holds Tryd.pinned (OpenSpec.ofChange treeShapesWrong)

/-- 'monikerlaw4.TreeMine': WHATEVER THE INPUT: true; the input reads as it did. -/
def treeMineSpec : ChangeSpec := { name := "treeMine", fn := fun _ => fun
  | [d1, d2, d3] => { results := [.lit (.bool true)], args := [d1, d2, d3] }
  | _ => none }
def treeMineRow : OpenClaim := { program := "ytodldpdnhcafpaadoor", sum := "30671644573644f3b0d8bf65d1f4dd1d4c6c92eb79550a75c79d645524ba6a55", func := "moniker/monikerlaw4.TreeMine", spec := "treeMine", inPlace := ["internal/abi.NoEscape"], unfollowed := true, recurses := true, named := ["moniker/tree.kinds", "moniker/monikerref4.names"], apart := false, laid := [("moniker/monikerref4.names", laid_moniker_monikerref4_names), ("moniker/tree.kinds", laid_moniker_tree_kinds)] }
def TreeMineSaid : Prop := treeMineRow.holds Tryd.pinned (OpenSpec.ofChange treeMineSpec)

/-- ITS FALSE NEIGHBOUR: 'it returns false'. Refute it at one input. -/
def treeMineWrong : ChangeSpec := { name := "treeMine", fn := fun _ => fun
  | [d1, d2, d3] => { results := [.lit (.bool false)], args := [d1, d2, d3] }
  | _ => none }
def TreeMineWrongFalsely : Prop := treeMineRow.holds Tryd.pinned (OpenSpec.ofChange treeMineWrong)

/- THE SECOND FORM. 'bulk': how many values and letters a reading holds, each counted each time it is reached (what is shared counts as often as it is met; a slice's spare places count too). A statement '..UptoSaid' is the law's where the arguments, and the package variables that the reading takes, are together of bulk at most 1048576: NARROWER than '..Said'. Prove '..Said' where nothing that the law and all that it calls make is longer than what came in: it says more and counts as full. Else prove '..UptoSaid'. A law counts once. -/
mutual
def uptoBulk {H : Type} : DataW H → Nat
  | .lit (.string bytes) => bytes.length + 1
  | .lit _ => 1
  | .nil => 1
  | .ptr d => uptoBulk d + 1
  | .slice elems spare => uptoBulkAll elems + uptoBulkAll spare + 1
  | .agg parts => uptoBulkAll parts + 1
  | .iface _ d => uptoBulk d + 1
  | .map entries => uptoBulkEntries entries + 1
  | .held _ => 1
def uptoBulkAll {H : Type} : List (DataW H) → Nat
  | [] => 0
  | d :: r => uptoBulk d + uptoBulkAll r
def uptoBulkEntries {H : Type} : List (Lit × DataW H) → Nat
  | [] => 0
  | x :: r => uptoBulkEntry x + uptoBulkEntries r
def uptoBulkEntry {H : Type} : Lit × DataW H → Nat
  | (.string bytes, d) => bytes.length + uptoBulk d + 1
  | (_, d) => uptoBulk d + 1
 end
def uptoSmall : (H : Type) → List (DataW H) → Bool := fun _ ds => decide (uptoBulkAll ds ≤ 1048576)
def OpenSpec.upto (s : _root_.Go.ChangeSpec) : _root_.Go.OpenSpec := { _root_.Go.OpenSpec.ofChange s with cond := some uptoSmall }

/-- 'monikerlaw4.TreeDraws', WHERE WHAT IT READS IS OF BULK AT MOST 1048576: true; the input reads as it did. -/
def treeDrawsUptoRow : OpenClaim := { program := "ytodldpdnhcafpaadoor", sum := "30671644573644f3b0d8bf65d1f4dd1d4c6c92eb79550a75c79d645524ba6a55", func := "moniker/monikerlaw4.TreeDraws", spec := "treeDraws", unfollowed := true, recurses := true, named := ["moniker/tree.kinds", "moniker/monikerref4.names"], apart := false, laid := [("moniker/monikerref4.names", laid_moniker_monikerref4_names), ("moniker/tree.kinds", laid_moniker_tree_kinds)], narrowed := true }
def TreeDrawsUptoSaid : Prop := treeDrawsUptoRow.holds Tryd.pinned (OpenSpec.upto treeDrawsSpec)

/-- 'monikerlaw4.TreeSketches', WHERE WHAT IT READS IS OF BULK AT MOST 1048576: true; the input reads as it did. -/
def treeSketchesUptoRow : OpenClaim := { program := "ytodldpdnhcafpaadoor", sum := "30671644573644f3b0d8bf65d1f4dd1d4c6c92eb79550a75c79d645524ba6a55", func := "moniker/monikerlaw4.TreeSketches", spec := "treeSketches", inPlace := ["internal/abi.NoEscape"], named := ["moniker/tree.kinds", "moniker/monikerref4.names"], apart := false, laid := [("moniker/monikerref4.names", laid_moniker_monikerref4_names), ("moniker/tree.kinds", laid_moniker_tree_kinds)], narrowed := true }
def TreeSketchesUptoSaid : Prop := treeSketchesUptoRow.holds Tryd.pinned (OpenSpec.upto treeSketchesSpec)

/-- 'monikerlaw4.TreeShapes', WHERE WHAT IT READS IS OF BULK AT MOST 1048576: true; the input reads as it did. -/
def treeShapesUptoRow : OpenClaim := { program := "ytodldpdnhcafpaadoor", sum := "30671644573644f3b0d8bf65d1f4dd1d4c6c92eb79550a75c79d645524ba6a55", func := "moniker/monikerlaw4.TreeShapes", spec := "treeShapes", inPlace := ["internal/abi.NoEscape"], unfollowed := true, recurses := true, named := ["moniker/tree.kinds"], apart := false, laid := [("moniker/tree.kinds", laid_moniker_tree_kinds)], narrowed := true }
def TreeShapesUptoSaid : Prop := treeShapesUptoRow.holds Tryd.pinned (OpenSpec.upto treeShapesSpec)

/-- 'monikerlaw4.TreeMine', WHERE WHAT IT READS IS OF BULK AT MOST 1048576: true; the input reads as it did. -/
def treeMineUptoRow : OpenClaim := { program := "ytodldpdnhcafpaadoor", sum := "30671644573644f3b0d8bf65d1f4dd1d4c6c92eb79550a75c79d645524ba6a55", func := "moniker/monikerlaw4.TreeMine", spec := "treeMine", inPlace := ["internal/abi.NoEscape"], unfollowed := true, recurses := true, named := ["moniker/tree.kinds", "moniker/monikerref4.names"], apart := false, laid := [("moniker/monikerref4.names", laid_moniker_monikerref4_names), ("moniker/tree.kinds", laid_moniker_tree_kinds)], narrowed := true }
def TreeMineUptoSaid : Prop := treeMineUptoRow.holds Tryd.pinned (OpenSpec.upto treeMineSpec)

end Rows
end Go.Proofs.YtodldpdnhcafpaaDoor
