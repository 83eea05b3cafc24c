/-
  No cell of these rows narrows 'for every input' (looked for: loops, veiled, ifaces, maps, wideKeys, modest, calm, conditions, laid).
  DERIVED. THE GIVEN ROWS OF THIS SEAT. 12 by the template 'for every input the law returns true; each argument reads behind the call as it read before'; 0 by the template 'total and deterministic' (their statements: YtaihajmdngoeiaaTotals.lean).
  GIVEN WITH THE SEED: the statements are not yours to turn. If you find one false, say at which input.
  Laid BY PROGRAM, IN A SANDBOX (cutbox-rows.mjs): the forced cells as the released guide's own fill.sh prints them over the translation 8273c44be5fe9293… (all of the seat's roots in one cut). By AI agents, Wed Nov 11 2026. No macro, syntax, notation, axiom, sorry.
-/
import Derived.Test.YtaihajmdngoeiaaChecked
import GoSem.Claim
import GoSem.ClaimJoined
import GoSem.ClaimMapViews
import Derived.JoinedTies
import Derived.KernelRfl
namespace Go.Proofs.Ytaihajmdngoeiaa
/- THE CELL 'sum', in the pinned program and in every row, IS THE sha256 OF THE DUMP (.gsa) THAT YtaihajmdngoeiaaProg.lean LOADS. Nothing in Lean hashes anything: it is a label: what it is worth is what the hold of that sum in a sandbox is worth. -/
noncomputable def Try.pinned : Pinned := { name := "ytaihajmdngoeiaa", sum := "8273c44be5fe92933bab584ee16fe34d7e5a28285d71d39f57b5e04e2a65ba71", checked := Try.checked }
namespace Rows
def none {H : Type} : Left H := { results := [], args := [] }

/-- 'monikerlaw1.EditsValids': WHATEVER THE INPUT: true; the input reads as it did. -/
def editsValidsSpec : ChangeSpec := { name := "editsValids", fn := fun _ => fun
  | [d1, d2] => { results := [.lit (.bool true)], args := [d1, d2] }
  | _ => none }
def editsValidsRow : OpenClaim := { program := "ytaihajmdngoeiaa", sum := "8273c44be5fe92933bab584ee16fe34d7e5a28285d71d39f57b5e04e2a65ba71", func := "moniker/monikerlaw1.EditsValids", spec := "editsValids", apart := false }
def EditsValidsSaid : Prop := editsValidsRow.holds Try.pinned (OpenSpec.ofChange editsValidsSpec)

/-- ITS FALSE NEIGHBOUR: 'it returns false'. Refute it at one input. -/
def editsValidsWrong : ChangeSpec := { name := "editsValids", fn := fun _ => fun
  | [d1, d2] => { results := [.lit (.bool false)], args := [d1, d2] }
  | _ => none }
def EditsValidsWrongFalsely : Prop := editsValidsRow.holds Try.pinned (OpenSpec.ofChange editsValidsWrong)

/-- 'monikerlaw1.EditsInverts': WHATEVER THE INPUT: true; the input reads as it did. -/
def editsInvertsSpec : ChangeSpec := { name := "editsInverts", fn := fun _ => fun
  | [d1, d2] => { results := [.lit (.bool true)], args := [d1, d2] }
  | _ => none }
def editsInvertsRow : OpenClaim := { program := "ytaihajmdngoeiaa", sum := "8273c44be5fe92933bab584ee16fe34d7e5a28285d71d39f57b5e04e2a65ba71", func := "moniker/monikerlaw1.EditsInverts", spec := "editsInverts", apart := false }
def EditsInvertsSaid : Prop := editsInvertsRow.holds Try.pinned (OpenSpec.ofChange editsInvertsSpec)

/-- ITS FALSE NEIGHBOUR: 'it returns false'. Refute it at one input. -/
def editsInvertsWrong : ChangeSpec := { name := "editsInverts", fn := fun _ => fun
  | [d1, d2] => { results := [.lit (.bool false)], args := [d1, d2] }
  | _ => none }
def EditsInvertsWrongFalsely : Prop := editsInvertsRow.holds Try.pinned (OpenSpec.ofChange editsInvertsWrong)

/-- 'monikerlaw1.EditsShifts': WHATEVER THE INPUT: true; the input reads as it did. -/
def editsShiftsSpec : ChangeSpec := { name := "editsShifts", fn := fun _ => fun
  | [d1, d2] => { results := [.lit (.bool true)], args := [d1, d2] }
  | _ => none }
def editsShiftsRow : OpenClaim := { program := "ytaihajmdngoeiaa", sum := "8273c44be5fe92933bab584ee16fe34d7e5a28285d71d39f57b5e04e2a65ba71", func := "moniker/monikerlaw1.EditsShifts", spec := "editsShifts", apart := false }
def EditsShiftsSaid : Prop := editsShiftsRow.holds Try.pinned (OpenSpec.ofChange editsShiftsSpec)

/-- ITS FALSE NEIGHBOUR: 'it returns false'. Refute it at one input. -/
def editsShiftsWrong : ChangeSpec := { name := "editsShifts", fn := fun _ => fun
  | [d1, d2] => { results := [.lit (.bool false)], args := [d1, d2] }
  | _ => none }
def EditsShiftsWrongFalsely : Prop := editsShiftsRow.holds Try.pinned (OpenSpec.ofChange editsShiftsWrong)

/-- 'monikerlaw1.EditsApplies': WHATEVER THE INPUT: true; the input reads as it did. -/
def editsAppliesSpec : ChangeSpec := { name := "editsApplies", fn := fun _ => fun
  | [d1, d2] => { results := [.lit (.bool true)], args := [d1, d2] }
  | _ => none }
def editsAppliesRow : OpenClaim := { program := "ytaihajmdngoeiaa", sum := "8273c44be5fe92933bab584ee16fe34d7e5a28285d71d39f57b5e04e2a65ba71", func := "moniker/monikerlaw1.EditsApplies", spec := "editsApplies", apart := false }
def EditsAppliesSaid : Prop := editsAppliesRow.holds Try.pinned (OpenSpec.ofChange editsAppliesSpec)

/-- ITS FALSE NEIGHBOUR: 'it returns false'. Refute it at one input. -/
def editsAppliesWrong : ChangeSpec := { name := "editsApplies", fn := fun _ => fun
  | [d1, d2] => { results := [.lit (.bool false)], args := [d1, d2] }
  | _ => none }
def EditsAppliesWrongFalsely : Prop := editsAppliesRow.holds Try.pinned (OpenSpec.ofChange editsAppliesWrong)

/-- 'monikerlaw1.EditsNormals': WHATEVER THE INPUT: true; the input reads as it did. -/
def editsNormalsSpec : ChangeSpec := { name := "editsNormals", fn := fun _ => fun
  | [d1, d2] => { results := [.lit (.bool true)], args := [d1, d2] }
  | _ => none }
def editsNormalsRow : OpenClaim := { program := "ytaihajmdngoeiaa", sum := "8273c44be5fe92933bab584ee16fe34d7e5a28285d71d39f57b5e04e2a65ba71", func := "moniker/monikerlaw1.EditsNormals", spec := "editsNormals", apart := false }
def EditsNormalsSaid : Prop := editsNormalsRow.holds Try.pinned (OpenSpec.ofChange editsNormalsSpec)

/-- ITS FALSE NEIGHBOUR: 'it returns false'. Refute it at one input. -/
def editsNormalsWrong : ChangeSpec := { name := "editsNormals", fn := fun _ => fun
  | [d1, d2] => { results := [.lit (.bool false)], args := [d1, d2] }
  | _ => none }
def EditsNormalsWrongFalsely : Prop := editsNormalsRow.holds Try.pinned (OpenSpec.ofChange editsNormalsWrong)

/-- 'monikerlaw1.EditsKept': WHATEVER THE INPUT: true; the input reads as it did. -/
def editsKeptSpec : ChangeSpec := { name := "editsKept", fn := fun _ => fun
  | [d1, d2] => { results := [.lit (.bool true)], args := [d1, d2] }
  | _ => none }
def editsKeptRow : OpenClaim := { program := "ytaihajmdngoeiaa", sum := "8273c44be5fe92933bab584ee16fe34d7e5a28285d71d39f57b5e04e2a65ba71", func := "moniker/monikerlaw1.EditsKept", spec := "editsKept", apart := false }
def EditsKeptSaid : Prop := editsKeptRow.holds Try.pinned (OpenSpec.ofChange editsKeptSpec)

/-- ITS FALSE NEIGHBOUR: 'it returns false'. Refute it at one input. -/
def editsKeptWrong : ChangeSpec := { name := "editsKept", fn := fun _ => fun
  | [d1, d2] => { results := [.lit (.bool false)], args := [d1, d2] }
  | _ => none }
def EditsKeptWrongFalsely : Prop := editsKeptRow.holds Try.pinned (OpenSpec.ofChange editsKeptWrong)

/-- 'monikerlaw1.EditsMerges': WHATEVER THE INPUT: true; the input reads as it did. -/
def editsMergesSpec : ChangeSpec := { name := "editsMerges", fn := fun _ => fun
  | [d1, d2, d3] => { results := [.lit (.bool true)], args := [d1, d2, d3] }
  | _ => none }
def editsMergesRow : OpenClaim := { program := "ytaihajmdngoeiaa", sum := "8273c44be5fe92933bab584ee16fe34d7e5a28285d71d39f57b5e04e2a65ba71", func := "moniker/monikerlaw1.EditsMerges", spec := "editsMerges", apart := false }
def EditsMergesSaid : Prop := editsMergesRow.holds Try.pinned (OpenSpec.ofChange editsMergesSpec)

/-- ITS FALSE NEIGHBOUR: 'it returns false'. Refute it at one input. -/
def editsMergesWrong : ChangeSpec := { name := "editsMerges", fn := fun _ => fun
  | [d1, d2, d3] => { results := [.lit (.bool false)], args := [d1, d2, d3] }
  | _ => none }
def EditsMergesWrongFalsely : Prop := editsMergesRow.holds Try.pinned (OpenSpec.ofChange editsMergesWrong)

/-- 'monikerlaw1.EditsLeast': WHATEVER THE INPUT: true; the input reads as it did. -/
def editsLeastSpec : ChangeSpec := { name := "editsLeast", fn := fun _ => fun
  | [d1, d2] => { results := [.lit (.bool true)], args := [d1, d2] }
  | _ => none }
def editsLeastRow : OpenClaim := { program := "ytaihajmdngoeiaa", sum := "8273c44be5fe92933bab584ee16fe34d7e5a28285d71d39f57b5e04e2a65ba71", func := "moniker/monikerlaw1.EditsLeast", spec := "editsLeast", apart := false }
def EditsLeastSaid : Prop := editsLeastRow.holds Try.pinned (OpenSpec.ofChange editsLeastSpec)

/-- ITS FALSE NEIGHBOUR: 'it returns false'. Refute it at one input. -/
def editsLeastWrong : ChangeSpec := { name := "editsLeast", fn := fun _ => fun
  | [d1, d2] => { results := [.lit (.bool false)], args := [d1, d2] }
  | _ => none }
def EditsLeastWrongFalsely : Prop := editsLeastRow.holds Try.pinned (OpenSpec.ofChange editsLeastWrong)

/-- 'monikerlaw1.EditsBoth': WHATEVER THE INPUT: true; the input reads as it did. -/
def editsBothSpec : ChangeSpec := { name := "editsBoth", fn := fun _ => fun
  | [d1, d2, d3] => { results := [.lit (.bool true)], args := [d1, d2, d3] }
  | _ => none }
def editsBothRow : OpenClaim := { program := "ytaihajmdngoeiaa", sum := "8273c44be5fe92933bab584ee16fe34d7e5a28285d71d39f57b5e04e2a65ba71", func := "moniker/monikerlaw1.EditsBoth", spec := "editsBoth", apart := false }
def EditsBothSaid : Prop := editsBothRow.holds Try.pinned (OpenSpec.ofChange editsBothSpec)

/-- ITS FALSE NEIGHBOUR: 'it returns false'. Refute it at one input. -/
def editsBothWrong : ChangeSpec := { name := "editsBoth", fn := fun _ => fun
  | [d1, d2, d3] => { results := [.lit (.bool false)], args := [d1, d2, d3] }
  | _ => none }
def EditsBothWrongFalsely : Prop := editsBothRow.holds Try.pinned (OpenSpec.ofChange editsBothWrong)

/-- 'monikerlaw1.EditsComposes': WHATEVER THE INPUT: true; the input reads as it did. -/
def editsComposesSpec : ChangeSpec := { name := "editsComposes", fn := fun _ => fun
  | [d1, d2, d3] => { results := [.lit (.bool true)], args := [d1, d2, d3] }
  | _ => none }
def editsComposesRow : OpenClaim := { program := "ytaihajmdngoeiaa", sum := "8273c44be5fe92933bab584ee16fe34d7e5a28285d71d39f57b5e04e2a65ba71", func := "moniker/monikerlaw1.EditsComposes", spec := "editsComposes", unfollowed := true, recurses := true, apart := false }
def EditsComposesSaid : Prop := editsComposesRow.holds Try.pinned (OpenSpec.ofChange editsComposesSpec)

/-- ITS FALSE NEIGHBOUR: 'it returns false'. Refute it at one input. -/
def editsComposesWrong : ChangeSpec := { name := "editsComposes", fn := fun _ => fun
  | [d1, d2, d3] => { results := [.lit (.bool false)], args := [d1, d2, d3] }
  | _ => none }
def EditsComposesWrongFalsely : Prop := editsComposesRow.holds Try.pinned (OpenSpec.ofChange editsComposesWrong)

/-- 'monikerlaw1.EditsChain': WHATEVER THE INPUT: true; the input reads as it did. -/
def editsChainSpec : ChangeSpec := { name := "editsChain", fn := fun _ => fun
  | [d1, d2, d3, d4] => { results := [.lit (.bool true)], args := [d1, d2, d3, d4] }
  | _ => none }
def editsChainRow : OpenClaim := { program := "ytaihajmdngoeiaa", sum := "8273c44be5fe92933bab584ee16fe34d7e5a28285d71d39f57b5e04e2a65ba71", func := "moniker/monikerlaw1.EditsChain", spec := "editsChain", unfollowed := true, recurses := true, apart := false }
def EditsChainSaid : Prop := editsChainRow.holds Try.pinned (OpenSpec.ofChange editsChainSpec)

/-- ITS FALSE NEIGHBOUR: 'it returns false'. Refute it at one input. -/
def editsChainWrong : ChangeSpec := { name := "editsChain", fn := fun _ => fun
  | [d1, d2, d3, d4] => { results := [.lit (.bool false)], args := [d1, d2, d3, d4] }
  | _ => none }
def EditsChainWrongFalsely : Prop := editsChainRow.holds Try.pinned (OpenSpec.ofChange editsChainWrong)

/-- 'monikerlaw1.EditsBack': WHATEVER THE INPUT: true; the input reads as it did. -/
def editsBackSpec : ChangeSpec := { name := "editsBack", fn := fun _ => fun
  | [d1, d2] => { results := [.lit (.bool true)], args := [d1, d2] }
  | _ => none }
def editsBackRow : OpenClaim := { program := "ytaihajmdngoeiaa", sum := "8273c44be5fe92933bab584ee16fe34d7e5a28285d71d39f57b5e04e2a65ba71", func := "moniker/monikerlaw1.EditsBack", spec := "editsBack", unfollowed := true, recurses := true, apart := false }
def EditsBackSaid : Prop := editsBackRow.holds Try.pinned (OpenSpec.ofChange editsBackSpec)

/-- ITS FALSE NEIGHBOUR: 'it returns false'. Refute it at one input. -/
def editsBackWrong : ChangeSpec := { name := "editsBack", fn := fun _ => fun
  | [d1, d2] => { results := [.lit (.bool false)], args := [d1, d2] }
  | _ => none }
def EditsBackWrongFalsely : Prop := editsBackRow.holds Try.pinned (OpenSpec.ofChange editsBackWrong)

/- THE SECOND FORM. 'bulk': how many values and letters a reading holds, each counted each time it is reached (what is shared counts as often as it is met; a slice's spare places count too). A statement '..UptoSaid' is the law's where the arguments, and the package variables that the reading takes, are together of bulk at most 1048576: NARROWER than '..Said'. Prove '..Said' where nothing that the law and all that it calls make is longer than what came in: it says more and counts as full. Else prove '..UptoSaid'. A law counts once. -/
mutual
def uptoBulk {H : Type} : DataW H → Nat
  | .lit (.string bytes) => bytes.length + 1
  | .lit _ => 1
  | .nil => 1
  | .ptr d => uptoBulk d + 1
  | .slice elems spare => uptoBulkAll elems + uptoBulkAll spare + 1
  | .agg parts => uptoBulkAll parts + 1
  | .iface _ d => uptoBulk d + 1
  | .map entries => uptoBulkEntries entries + 1
  | .held _ => 1
def uptoBulkAll {H : Type} : List (DataW H) → Nat
  | [] => 0
  | d :: r => uptoBulk d + uptoBulkAll r
def uptoBulkEntries {H : Type} : List (Lit × DataW H) → Nat
  | [] => 0
  | x :: r => uptoBulkEntry x + uptoBulkEntries r
def uptoBulkEntry {H : Type} : Lit × DataW H → Nat
  | (.string bytes, d) => bytes.length + uptoBulk d + 1
  | (_, d) => uptoBulk d + 1
 end
def uptoSmall : (H : Type) → List (DataW H) → Bool := fun _ ds => decide (uptoBulkAll ds ≤ 1048576)
def OpenSpec.upto (s : _root_.Go.ChangeSpec) : _root_.Go.OpenSpec := { _root_.Go.OpenSpec.ofChange s with cond := some uptoSmall }

/-- 'monikerlaw1.EditsValids', WHERE WHAT IT READS IS OF BULK AT MOST 1048576: true; the input reads as it did. -/
def editsValidsUptoRow : OpenClaim := { program := "ytaihajmdngoeiaa", sum := "8273c44be5fe92933bab584ee16fe34d7e5a28285d71d39f57b5e04e2a65ba71", func := "moniker/monikerlaw1.EditsValids", spec := "editsValids", apart := false, narrowed := true }
def EditsValidsUptoSaid : Prop := editsValidsUptoRow.holds Try.pinned (OpenSpec.upto editsValidsSpec)

/-- 'monikerlaw1.EditsInverts', WHERE WHAT IT READS IS OF BULK AT MOST 1048576: true; the input reads as it did. -/
def editsInvertsUptoRow : OpenClaim := { program := "ytaihajmdngoeiaa", sum := "8273c44be5fe92933bab584ee16fe34d7e5a28285d71d39f57b5e04e2a65ba71", func := "moniker/monikerlaw1.EditsInverts", spec := "editsInverts", apart := false, narrowed := true }
def EditsInvertsUptoSaid : Prop := editsInvertsUptoRow.holds Try.pinned (OpenSpec.upto editsInvertsSpec)

/-- 'monikerlaw1.EditsShifts', WHERE WHAT IT READS IS OF BULK AT MOST 1048576: true; the input reads as it did. -/
def editsShiftsUptoRow : OpenClaim := { program := "ytaihajmdngoeiaa", sum := "8273c44be5fe92933bab584ee16fe34d7e5a28285d71d39f57b5e04e2a65ba71", func := "moniker/monikerlaw1.EditsShifts", spec := "editsShifts", apart := false, narrowed := true }
def EditsShiftsUptoSaid : Prop := editsShiftsUptoRow.holds Try.pinned (OpenSpec.upto editsShiftsSpec)

/-- 'monikerlaw1.EditsApplies', WHERE WHAT IT READS IS OF BULK AT MOST 1048576: true; the input reads as it did. -/
def editsAppliesUptoRow : OpenClaim := { program := "ytaihajmdngoeiaa", sum := "8273c44be5fe92933bab584ee16fe34d7e5a28285d71d39f57b5e04e2a65ba71", func := "moniker/monikerlaw1.EditsApplies", spec := "editsApplies", apart := false, narrowed := true }
def EditsAppliesUptoSaid : Prop := editsAppliesUptoRow.holds Try.pinned (OpenSpec.upto editsAppliesSpec)

/-- 'monikerlaw1.EditsNormals', WHERE WHAT IT READS IS OF BULK AT MOST 1048576: true; the input reads as it did. -/
def editsNormalsUptoRow : OpenClaim := { program := "ytaihajmdngoeiaa", sum := "8273c44be5fe92933bab584ee16fe34d7e5a28285d71d39f57b5e04e2a65ba71", func := "moniker/monikerlaw1.EditsNormals", spec := "editsNormals", apart := false, narrowed := true }
def EditsNormalsUptoSaid : Prop := editsNormalsUptoRow.holds Try.pinned (OpenSpec.upto editsNormalsSpec)

/-- 'monikerlaw1.EditsKept', WHERE WHAT IT READS IS OF BULK AT MOST 1048576: true; the input reads as it did. -/
def editsKeptUptoRow : OpenClaim := { program := "ytaihajmdngoeiaa", sum := "8273c44be5fe92933bab584ee16fe34d7e5a28285d71d39f57b5e04e2a65ba71", func := "moniker/monikerlaw1.EditsKept", spec := "editsKept", apart := false, narrowed := true }
def EditsKeptUptoSaid : Prop := editsKeptUptoRow.holds Try.pinned (OpenSpec.upto editsKeptSpec)

/-- 'monikerlaw1.EditsMerges', WHERE WHAT IT READS IS OF BULK AT MOST 1048576: true; the input reads as it did. -/
def editsMergesUptoRow : OpenClaim := { program := "ytaihajmdngoeiaa", sum := "8273c44be5fe92933bab584ee16fe34d7e5a28285d71d39f57b5e04e2a65ba71", func := "moniker/monikerlaw1.EditsMerges", spec := "editsMerges", apart := false, narrowed := true }
def EditsMergesUptoSaid : Prop := editsMergesUptoRow.holds Try.pinned (OpenSpec.upto editsMergesSpec)

/-- 'monikerlaw1.EditsLeast', WHERE WHAT IT READS IS OF BULK AT MOST 1048576: true; the input reads as it did. -/
def editsLeastUptoRow : OpenClaim := { program := "ytaihajmdngoeiaa", sum := "8273c44be5fe92933bab584ee16fe34d7e5a28285d71d39f57b5e04e2a65ba71", func := "moniker/monikerlaw1.EditsLeast", spec := "editsLeast", apart := false, narrowed := true }
def EditsLeastUptoSaid : Prop := editsLeastUptoRow.holds Try.pinned (OpenSpec.upto editsLeastSpec)

/-- 'monikerlaw1.EditsBoth', WHERE WHAT IT READS IS OF BULK AT MOST 1048576: true; the input reads as it did. -/
def editsBothUptoRow : OpenClaim := { program := "ytaihajmdngoeiaa", sum := "8273c44be5fe92933bab584ee16fe34d7e5a28285d71d39f57b5e04e2a65ba71", func := "moniker/monikerlaw1.EditsBoth", spec := "editsBoth", apart := false, narrowed := true }
def EditsBothUptoSaid : Prop := editsBothUptoRow.holds Try.pinned (OpenSpec.upto editsBothSpec)

/-- 'monikerlaw1.EditsComposes', WHERE WHAT IT READS IS OF BULK AT MOST 1048576: true; the input reads as it did. -/
def editsComposesUptoRow : OpenClaim := { program := "ytaihajmdngoeiaa", sum := "8273c44be5fe92933bab584ee16fe34d7e5a28285d71d39f57b5e04e2a65ba71", func := "moniker/monikerlaw1.EditsComposes", spec := "editsComposes", unfollowed := true, recurses := true, apart := false, narrowed := true }
def EditsComposesUptoSaid : Prop := editsComposesUptoRow.holds Try.pinned (OpenSpec.upto editsComposesSpec)

/-- 'monikerlaw1.EditsChain', WHERE WHAT IT READS IS OF BULK AT MOST 1048576: true; the input reads as it did. -/
def editsChainUptoRow : OpenClaim := { program := "ytaihajmdngoeiaa", sum := "8273c44be5fe92933bab584ee16fe34d7e5a28285d71d39f57b5e04e2a65ba71", func := "moniker/monikerlaw1.EditsChain", spec := "editsChain", unfollowed := true, recurses := true, apart := false, narrowed := true }
def EditsChainUptoSaid : Prop := editsChainUptoRow.holds Try.pinned (OpenSpec.upto editsChainSpec)

/-- 'monikerlaw1.EditsBack', WHERE WHAT IT READS IS OF BULK AT MOST 1048576: true; the input reads as it did. -/
def editsBackUptoRow : OpenClaim := { program := "ytaihajmdngoeiaa", sum := "8273c44be5fe92933bab584ee16fe34d7e5a28285d71d39f57b5e04e2a65ba71", func := "moniker/monikerlaw1.EditsBack", spec := "editsBack", unfollowed := true, recurses := true, apart := false, narrowed := true }
def EditsBackUptoSaid : Prop := editsBackUptoRow.holds Try.pinned (OpenSpec.upto editsBackSpec)

end Rows
end Go.Proofs.Ytaihajmdngoeiaa
