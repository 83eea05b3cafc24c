/-
  NARROWER THAN 'FOR EVERY INPUT', by the rows' own cells (each row's printed sentence says how): ConstTurned: laid · ConstJoins: laid · ConstOrder: laid · ConstBinaries: laid · ConstArith: laid.
  DERIVED. THE GIVEN ROWS OF THIS SEAT. 5 by the template 'for every input the law returns true; each argument reads behind the call as it read before'; 0 by the template 'total and deterministic' (their statements: YteklmgmhkmdddaaDoorTotals.lean).
  GIVEN WITH THE SEED: the statements are not yours to turn. If you find one false, say at which input.
  Laid BY PROGRAM, IN A SANDBOX (cutbox-rows.mjs): the forced cells as the released guide's own fill.sh prints them over the translation 30f8ba0e85086051… (all of the seat's roots in one cut). By AI agents, Wed Nov 11 2026. No macro, syntax, notation, axiom, sorry.
-/
import Derived.Test.YteklmgmhkmdddaaDoorChecked
import GoSem.Claim
import GoSem.ClaimJoined
import GoSem.ClaimMapViews
import Derived.JoinedTies
import Derived.KernelRfl
namespace Go.Proofs.YteklmgmhkmdddaaDoor
/- THE CELL 'sum', in the pinned program and in every row, IS THE sha256 OF THE DUMP (.gsa) THAT YteklmgmhkmdddaaDoorProg.lean LOADS. Nothing in Lean hashes anything: it is a label: what it is worth is what the hold of that sum in a sandbox is worth. -/
noncomputable def Tryd.pinned : Pinned := { name := "yteklmgmhkmdddaadoor", sum := "30f8ba0e85086051f3e0d4b4a6b77f31a2049e922cfaa62ff53bb09583e7ef35", checked := Tryd.checked }
namespace Rows
def none {H : Type} : Left H := { results := [], args := [] }

/- WHAT THE LISTED PACKAGE-LEVEL VARIABLES READ AS WHEN THE CALL BEGINS. Each datum BY PROGRAM (the guide's laid-datum.mjs) off the statement by which the dump's own 'gosem.cut.vars' lays the variable. In a bare row this is a premise. The card (YteklmgmhkmdddaaDoorCards.lean) ties it to the program's text. -/
def laid_moniker_consts_signs {H : Type} : DataW H := .agg [.agg [.lit (.bool false), .lit (.bool false), .lit (.bool false)], .agg [.lit (.bool false), .lit (.bool false), .lit (.bool false)], .agg [.lit (.bool false), .lit (.bool false), .lit (.bool false)], .agg [.lit (.bool false), .lit (.bool false), .lit (.bool false)], .agg [.lit (.bool false), .lit (.bool false), .lit (.bool false)], .agg [.lit (.bool false), .lit (.bool false), .lit (.bool false)], .agg [.lit (.bool false), .lit (.bool false), .lit (.bool false)], .agg [.lit (.bool false), .lit (.bool false), .lit (.bool false)], .agg [.lit (.bool false), .lit (.bool false), .lit (.bool false)], .agg [.lit (.bool false), .lit (.bool false), .lit (.bool false)], .agg [.lit (.bool false), .lit (.bool false), .lit (.bool false)], .agg [.lit (.bool false), .lit (.bool false), .lit (.bool false)], .agg [.lit (.bool false), .lit (.bool false), .lit (.bool false)], .agg [.lit (.bool false), .lit (.bool false), .lit (.bool false)], .agg [.lit (.bool false), .lit (.bool false), .lit (.bool false)], .agg [.lit (.bool false), .lit (.bool false), .lit (.bool false)], .agg [.lit (.bool false), .lit (.bool false), .lit (.bool false)], .agg [.lit (.bool false), .lit (.bool false), .lit (.bool false)], .agg [.lit (.bool false), .lit (.bool false), .lit (.bool false)], .agg [.lit (.bool false), .lit (.bool false), .lit (.bool false)], .agg [.lit (.bool false), .lit (.bool false), .lit (.bool false)], .agg [.lit (.bool false), .lit (.bool false), .lit (.bool false)], .agg [.lit (.bool false), .lit (.bool false), .lit (.bool false)], .agg [.lit (.bool false), .lit (.bool false), .lit (.bool false)], .agg [.lit (.bool false), .lit (.bool false), .lit (.bool false)], .agg [.lit (.bool false), .lit (.bool false), .lit (.bool false)], .agg [.lit (.bool false), .lit (.bool false), .lit (.bool false)], .agg [.lit (.bool false), .lit (.bool false), .lit (.bool false)], .agg [.lit (.bool false), .lit (.bool false), .lit (.bool false)], .agg [.lit (.bool false), .lit (.bool false), .lit (.bool false)], .agg [.lit (.bool false), .lit (.bool false), .lit (.bool false)], .agg [.lit (.bool false), .lit (.bool false), .lit (.bool false)], .agg [.lit (.bool false), .lit (.bool false), .lit (.bool false)], .agg [.lit (.bool false), .lit (.bool false), .lit (.bool false)], .agg [.lit (.bool false), .lit (.bool false), .lit (.bool false)], .agg [.lit (.bool false), .lit (.bool false), .lit (.bool false)], .agg [.lit (.bool false), .lit (.bool false), .lit (.bool false)], .agg [.lit (.bool false), .lit (.bool false), .lit (.bool false)], .agg [.lit (.bool false), .lit (.bool false), .lit (.bool false)], .agg [.lit (.bool false), .lit (.bool false), .lit (.bool false)], .agg [.lit (.bool false), .lit (.bool false), .lit (.bool false)], .agg [.lit (.bool false), .lit (.bool false), .lit (.bool false)], .agg [.lit (.bool false), .lit (.bool false), .lit (.bool false)], .agg [.lit (.bool false), .lit (.bool false), .lit (.bool false)], .agg [.lit (.bool false), .lit (.bool false), .lit (.bool false)], .agg [.lit (.bool false), .lit (.bool false), .lit (.bool false)], .agg [.lit (.bool false), .lit (.bool false), .lit (.bool false)], .agg [.lit (.bool false), .lit (.bool false), .lit (.bool false)], .agg [.lit (.bool false), .lit (.bool false), .lit (.bool false)], .agg [.lit (.bool false), .lit (.bool false), .lit (.bool false)], .agg [.lit (.bool false), .lit (.bool false), .lit (.bool false)], .agg [.lit (.bool false), .lit (.bool false), .lit (.bool false)], .agg [.lit (.bool false), .lit (.bool false), .lit (.bool false)], .agg [.lit (.bool false), .lit (.bool false), .lit (.bool false)], .agg [.lit (.bool false), .lit (.bool false), .lit (.bool false)], .agg [.lit (.bool false), .lit (.bool false), .lit (.bool false)], .agg [.lit (.bool false), .lit (.bool false), .lit (.bool false)], .agg [.lit (.bool false), .lit (.bool false), .lit (.bool false)], .agg [.lit (.bool false), .lit (.bool false), .lit (.bool false)], .agg [.lit (.bool false), .lit (.bool true), .lit (.bool false)], .agg [.lit (.bool true), .lit (.bool false), .lit (.bool false)], .agg [.lit (.bool false), .lit (.bool false), .lit (.bool true)], .agg [.lit (.bool false), .lit (.bool false), .lit (.bool false)], .agg [.lit (.bool false), .lit (.bool false), .lit (.bool false)], .agg [.lit (.bool false), .lit (.bool false), .lit (.bool false)], .agg [.lit (.bool true), .lit (.bool false), .lit (.bool true)], .agg [.lit (.bool true), .lit (.bool true), .lit (.bool false)], .agg [.lit (.bool false), .lit (.bool true), .lit (.bool true)], .agg [.lit (.bool false), .lit (.bool false), .lit (.bool false)], .agg [.lit (.bool false), .lit (.bool false), .lit (.bool false)], .agg [.lit (.bool false), .lit (.bool false), .lit (.bool false)], .agg [.lit (.bool false), .lit (.bool false), .lit (.bool false)], .agg [.lit (.bool false), .lit (.bool false), .lit (.bool false)], .agg [.lit (.bool false), .lit (.bool false), .lit (.bool false)], .agg [.lit (.bool false), .lit (.bool false), .lit (.bool false)], .agg [.lit (.bool false), .lit (.bool false), .lit (.bool false)], .agg [.lit (.bool false), .lit (.bool false), .lit (.bool false)], .agg [.lit (.bool false), .lit (.bool false), .lit (.bool false)], .agg [.lit (.bool false), .lit (.bool false), .lit (.bool false)], .agg [.lit (.bool false), .lit (.bool false), .lit (.bool false)]]

/-- 'monikerlaw8.ConstTurned': WHATEVER THE INPUT: true; the input reads as it did. -/
def constTurnedSpec : ChangeSpec := { name := "constTurned", fn := fun _ => fun
  | [d1, d2, d3] => { results := [.lit (.bool true)], args := [d1, d2, d3] }
  | _ => none }
def constTurnedRow : OpenClaim := { program := "yteklmgmhkmdddaadoor", sum := "30f8ba0e85086051f3e0d4b4a6b77f31a2049e922cfaa62ff53bb09583e7ef35", func := "moniker/monikerlaw8.ConstTurned", spec := "constTurned", named := ["moniker/consts.signs"], apart := false, laid := [("moniker/consts.signs", laid_moniker_consts_signs)] }
def ConstTurnedSaid : Prop := constTurnedRow.holds Tryd.pinned (OpenSpec.ofChange constTurnedSpec)

/-- ITS FALSE NEIGHBOUR: 'it returns false'. Refute it at one input. -/
def constTurnedWrong : ChangeSpec := { name := "constTurned", fn := fun _ => fun
  | [d1, d2, d3] => { results := [.lit (.bool false)], args := [d1, d2, d3] }
  | _ => none }
def ConstTurnedWrongFalsely : Prop := constTurnedRow.holds Tryd.pinned (OpenSpec.ofChange constTurnedWrong)

/-- 'monikerlaw8.ConstJoins': WHATEVER THE INPUT: true; the input reads as it did. -/
def constJoinsSpec : ChangeSpec := { name := "constJoins", fn := fun _ => fun
  | [d1, d2, d3] => { results := [.lit (.bool true)], args := [d1, d2, d3] }
  | _ => none }
def constJoinsRow : OpenClaim := { program := "yteklmgmhkmdddaadoor", sum := "30f8ba0e85086051f3e0d4b4a6b77f31a2049e922cfaa62ff53bb09583e7ef35", func := "moniker/monikerlaw8.ConstJoins", spec := "constJoins", named := ["moniker/consts.signs"], apart := false, laid := [("moniker/consts.signs", laid_moniker_consts_signs)] }
def ConstJoinsSaid : Prop := constJoinsRow.holds Tryd.pinned (OpenSpec.ofChange constJoinsSpec)

/-- ITS FALSE NEIGHBOUR: 'it returns false'. Refute it at one input. -/
def constJoinsWrong : ChangeSpec := { name := "constJoins", fn := fun _ => fun
  | [d1, d2, d3] => { results := [.lit (.bool false)], args := [d1, d2, d3] }
  | _ => none }
def ConstJoinsWrongFalsely : Prop := constJoinsRow.holds Tryd.pinned (OpenSpec.ofChange constJoinsWrong)

/-- 'monikerlaw8.ConstOrder': WHATEVER THE INPUT: true; the input reads as it did. -/
def constOrderSpec : ChangeSpec := { name := "constOrder", fn := fun _ => fun
  | [d1, d2, d3] => { results := [.lit (.bool true)], args := [d1, d2, d3] }
  | _ => none }
def constOrderRow : OpenClaim := { program := "yteklmgmhkmdddaadoor", sum := "30f8ba0e85086051f3e0d4b4a6b77f31a2049e922cfaa62ff53bb09583e7ef35", func := "moniker/monikerlaw8.ConstOrder", spec := "constOrder", named := ["moniker/consts.signs"], apart := false, laid := [("moniker/consts.signs", laid_moniker_consts_signs)] }
def ConstOrderSaid : Prop := constOrderRow.holds Tryd.pinned (OpenSpec.ofChange constOrderSpec)

/-- ITS FALSE NEIGHBOUR: 'it returns false'. Refute it at one input. -/
def constOrderWrong : ChangeSpec := { name := "constOrder", fn := fun _ => fun
  | [d1, d2, d3] => { results := [.lit (.bool false)], args := [d1, d2, d3] }
  | _ => none }
def ConstOrderWrongFalsely : Prop := constOrderRow.holds Tryd.pinned (OpenSpec.ofChange constOrderWrong)

/-- 'monikerlaw8.ConstBinaries': WHATEVER THE INPUT: true; the input reads as it did. -/
def constBinariesSpec : ChangeSpec := { name := "constBinaries", fn := fun _ => fun
  | [d1, d2, d3] => { results := [.lit (.bool true)], args := [d1, d2, d3] }
  | _ => none }
def constBinariesRow : OpenClaim := { program := "yteklmgmhkmdddaadoor", sum := "30f8ba0e85086051f3e0d4b4a6b77f31a2049e922cfaa62ff53bb09583e7ef35", func := "moniker/monikerlaw8.ConstBinaries", spec := "constBinaries", named := ["moniker/consts.signs"], apart := false, laid := [("moniker/consts.signs", laid_moniker_consts_signs)] }
def ConstBinariesSaid : Prop := constBinariesRow.holds Tryd.pinned (OpenSpec.ofChange constBinariesSpec)

/-- ITS FALSE NEIGHBOUR: 'it returns false'. Refute it at one input. -/
def constBinariesWrong : ChangeSpec := { name := "constBinaries", fn := fun _ => fun
  | [d1, d2, d3] => { results := [.lit (.bool false)], args := [d1, d2, d3] }
  | _ => none }
def ConstBinariesWrongFalsely : Prop := constBinariesRow.holds Tryd.pinned (OpenSpec.ofChange constBinariesWrong)

/-- 'monikerlaw8.ConstArith': WHATEVER THE INPUT: true; the input reads as it did. -/
def constArithSpec : ChangeSpec := { name := "constArith", fn := fun _ => fun
  | [d1, d2, d3] => { results := [.lit (.bool true)], args := [d1, d2, d3] }
  | _ => none }
def constArithRow : OpenClaim := { program := "yteklmgmhkmdddaadoor", sum := "30f8ba0e85086051f3e0d4b4a6b77f31a2049e922cfaa62ff53bb09583e7ef35", func := "moniker/monikerlaw8.ConstArith", spec := "constArith", named := ["moniker/consts.signs"], apart := false, laid := [("moniker/consts.signs", laid_moniker_consts_signs)] }
def ConstArithSaid : Prop := constArithRow.holds Tryd.pinned (OpenSpec.ofChange constArithSpec)

/-- ITS FALSE NEIGHBOUR: 'it returns false'. Refute it at one input. -/
def constArithWrong : ChangeSpec := { name := "constArith", fn := fun _ => fun
  | [d1, d2, d3] => { results := [.lit (.bool false)], args := [d1, d2, d3] }
  | _ => none }
def ConstArithWrongFalsely : Prop := constArithRow.holds Tryd.pinned (OpenSpec.ofChange constArithWrong)

/- THE SECOND FORM. 'bulk': how many values and letters a reading holds, each counted each time it is reached (what is shared counts as often as it is met; a slice's spare places count too). A statement '..UptoSaid' is the law's where the arguments, and the package variables that the reading takes, are together of bulk at most 1048576: NARROWER than '..Said'. Prove '..Said' where nothing that the law and all that it calls make is longer than what came in: it says more and counts as full. Else prove '..UptoSaid'. A law counts once. -/
mutual
def uptoBulk {H : Type} : DataW H → Nat
  | .lit (.string bytes) => bytes.length + 1
  | .lit _ => 1
  | .nil => 1
  | .ptr d => uptoBulk d + 1
  | .slice elems spare => uptoBulkAll elems + uptoBulkAll spare + 1
  | .agg parts => uptoBulkAll parts + 1
  | .iface _ d => uptoBulk d + 1
  | .map entries => uptoBulkEntries entries + 1
  | .held _ => 1
def uptoBulkAll {H : Type} : List (DataW H) → Nat
  | [] => 0
  | d :: r => uptoBulk d + uptoBulkAll r
def uptoBulkEntries {H : Type} : List (Lit × DataW H) → Nat
  | [] => 0
  | x :: r => uptoBulkEntry x + uptoBulkEntries r
def uptoBulkEntry {H : Type} : Lit × DataW H → Nat
  | (.string bytes, d) => bytes.length + uptoBulk d + 1
  | (_, d) => uptoBulk d + 1
 end
def uptoSmall : (H : Type) → List (DataW H) → Bool := fun _ ds => decide (uptoBulkAll ds ≤ 1048576)
def OpenSpec.upto (s : _root_.Go.ChangeSpec) : _root_.Go.OpenSpec := { _root_.Go.OpenSpec.ofChange s with cond := some uptoSmall }

/-- 'monikerlaw8.ConstTurned', WHERE WHAT IT READS IS OF BULK AT MOST 1048576: true; the input reads as it did. -/
def constTurnedUptoRow : OpenClaim := { program := "yteklmgmhkmdddaadoor", sum := "30f8ba0e85086051f3e0d4b4a6b77f31a2049e922cfaa62ff53bb09583e7ef35", func := "moniker/monikerlaw8.ConstTurned", spec := "constTurned", named := ["moniker/consts.signs"], apart := false, laid := [("moniker/consts.signs", laid_moniker_consts_signs)], narrowed := true }
def ConstTurnedUptoSaid : Prop := constTurnedUptoRow.holds Tryd.pinned (OpenSpec.upto constTurnedSpec)

/-- 'monikerlaw8.ConstJoins', WHERE WHAT IT READS IS OF BULK AT MOST 1048576: true; the input reads as it did. -/
def constJoinsUptoRow : OpenClaim := { program := "yteklmgmhkmdddaadoor", sum := "30f8ba0e85086051f3e0d4b4a6b77f31a2049e922cfaa62ff53bb09583e7ef35", func := "moniker/monikerlaw8.ConstJoins", spec := "constJoins", named := ["moniker/consts.signs"], apart := false, laid := [("moniker/consts.signs", laid_moniker_consts_signs)], narrowed := true }
def ConstJoinsUptoSaid : Prop := constJoinsUptoRow.holds Tryd.pinned (OpenSpec.upto constJoinsSpec)

/-- 'monikerlaw8.ConstOrder', WHERE WHAT IT READS IS OF BULK AT MOST 1048576: true; the input reads as it did. -/
def constOrderUptoRow : OpenClaim := { program := "yteklmgmhkmdddaadoor", sum := "30f8ba0e85086051f3e0d4b4a6b77f31a2049e922cfaa62ff53bb09583e7ef35", func := "moniker/monikerlaw8.ConstOrder", spec := "constOrder", named := ["moniker/consts.signs"], apart := false, laid := [("moniker/consts.signs", laid_moniker_consts_signs)], narrowed := true }
def ConstOrderUptoSaid : Prop := constOrderUptoRow.holds Tryd.pinned (OpenSpec.upto constOrderSpec)

/-- 'monikerlaw8.ConstBinaries', WHERE WHAT IT READS IS OF BULK AT MOST 1048576: true; the input reads as it did. -/
def constBinariesUptoRow : OpenClaim := { program := "yteklmgmhkmdddaadoor", sum := "30f8ba0e85086051f3e0d4b4a6b77f31a2049e922cfaa62ff53bb09583e7ef35", func := "moniker/monikerlaw8.ConstBinaries", spec := "constBinaries", named := ["moniker/consts.signs"], apart := false, laid := [("moniker/consts.signs", laid_moniker_consts_signs)], narrowed := true }
def ConstBinariesUptoSaid : Prop := constBinariesUptoRow.holds Tryd.pinned (OpenSpec.upto constBinariesSpec)

/-- 'monikerlaw8.ConstArith', WHERE WHAT IT READS IS OF BULK AT MOST 1048576: true; the input reads as it did. -/
def constArithUptoRow : OpenClaim := { program := "yteklmgmhkmdddaadoor", sum := "30f8ba0e85086051f3e0d4b4a6b77f31a2049e922cfaa62ff53bb09583e7ef35", func := "moniker/monikerlaw8.ConstArith", spec := "constArith", named := ["moniker/consts.signs"], apart := false, laid := [("moniker/consts.signs", laid_moniker_consts_signs)], narrowed := true }
def ConstArithUptoSaid : Prop := constArithUptoRow.holds Tryd.pinned (OpenSpec.upto constArithSpec)

end Rows
end Go.Proofs.YteklmgmhkmdddaaDoor
