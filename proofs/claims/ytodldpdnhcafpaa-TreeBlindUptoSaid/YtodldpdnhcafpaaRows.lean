/-
  No cell of these rows narrows 'for every input' (looked for: loops, veiled, ifaces, maps, wideKeys, modest, calm, conditions, laid).
  DERIVED. THE GIVEN ROWS OF THIS SEAT. 15 by the template 'for every input the law returns true; each argument reads behind the call as it read before'; 0 by the template 'total and deterministic' (their statements: YtodldpdnhcafpaaTotals.lean).
  GIVEN WITH THE SEED: the statements are not yours to turn. If you find one false, say at which input.
  Laid BY PROGRAM, IN A SANDBOX (cutbox-rows.mjs): the forced cells as the released guide's own fill.sh prints them over the translation 7aedd21ff0046180… (all of the seat's roots in one cut). By AI agents, Wed Nov 11 2026. No macro, syntax, notation, axiom, sorry.
-/
import Derived.Test.YtodldpdnhcafpaaChecked
import GoSem.Claim
import GoSem.ClaimJoined
import GoSem.ClaimMapViews
import Derived.JoinedTies
import Derived.KernelRfl
namespace Go.Proofs.Ytodldpdnhcafpaa
/- THE CELL 'sum', in the pinned program and in every row, IS THE sha256 OF THE DUMP (.gsa) THAT YtodldpdnhcafpaaProg.lean LOADS. Nothing in Lean hashes anything: it is a label: what it is worth is what the hold of that sum in a sandbox is worth. -/
noncomputable def Try.pinned : Pinned := { name := "ytodldpdnhcafpaa", sum := "7aedd21ff00461805ebdbc4b3a9141d37ae189c17a0cc9bed5714264eaa6e5f3", checked := Try.checked }
namespace Rows
def none {H : Type} : Left H := { results := [], args := [] }

/-- 'monikerlaw4.TreeAts': WHATEVER THE INPUT: true; the input reads as it did. -/
def treeAtsSpec : ChangeSpec := { name := "treeAts", fn := fun _ => fun
  | [d1, d2] => { results := [.lit (.bool true)], args := [d1, d2] }
  | _ => none }
def treeAtsRow : OpenClaim := { program := "ytodldpdnhcafpaa", sum := "7aedd21ff00461805ebdbc4b3a9141d37ae189c17a0cc9bed5714264eaa6e5f3", func := "moniker/monikerlaw4.TreeAts", spec := "treeAts", apart := false }
def TreeAtsSaid : Prop := treeAtsRow.holds Try.pinned (OpenSpec.ofChange treeAtsSpec)

/-- ITS FALSE NEIGHBOUR: 'it returns false'. Refute it at one input. -/
def treeAtsWrong : ChangeSpec := { name := "treeAts", fn := fun _ => fun
  | [d1, d2] => { results := [.lit (.bool false)], args := [d1, d2] }
  | _ => none }
def TreeAtsWrongFalsely : Prop := treeAtsRow.holds Try.pinned (OpenSpec.ofChange treeAtsWrong)

/-- 'monikerlaw4.TreeNames': WHATEVER THE INPUT: true; the input reads as it did. -/
def treeNamesSpec : ChangeSpec := { name := "treeNames", fn := fun _ => fun
  | [d] => { results := [.lit (.bool true)], args := [d] }
  | _ => none }
def treeNamesRow : OpenClaim := { program := "ytodldpdnhcafpaa", sum := "7aedd21ff00461805ebdbc4b3a9141d37ae189c17a0cc9bed5714264eaa6e5f3", func := "moniker/monikerlaw4.TreeNames", spec := "treeNames", apart := false }
def TreeNamesSaid : Prop := treeNamesRow.holds Try.pinned (OpenSpec.ofChange treeNamesSpec)

/-- ITS FALSE NEIGHBOUR: 'it returns false'. Refute it at one input. -/
def treeNamesWrong : ChangeSpec := { name := "treeNames", fn := fun _ => fun
  | [d] => { results := [.lit (.bool false)], args := [d] }
  | _ => none }
def TreeNamesWrongFalsely : Prop := treeNamesRow.holds Try.pinned (OpenSpec.ofChange treeNamesWrong)

/-- 'monikerlaw4.TreeWalks': WHATEVER THE INPUT: true; the input reads as it did. -/
def treeWalksSpec : ChangeSpec := { name := "treeWalks", fn := fun _ => fun
  | [d1, d2, d3, d4] => { results := [.lit (.bool true)], args := [d1, d2, d3, d4] }
  | _ => none }
def treeWalksRow : OpenClaim := { program := "ytodldpdnhcafpaa", sum := "7aedd21ff00461805ebdbc4b3a9141d37ae189c17a0cc9bed5714264eaa6e5f3", func := "moniker/monikerlaw4.TreeWalks", spec := "treeWalks", unfollowed := true, recurses := true, apart := false }
def TreeWalksSaid : Prop := treeWalksRow.holds Try.pinned (OpenSpec.ofChange treeWalksSpec)

/-- ITS FALSE NEIGHBOUR: 'it returns false'. Refute it at one input. -/
def treeWalksWrong : ChangeSpec := { name := "treeWalks", fn := fun _ => fun
  | [d1, d2, d3, d4] => { results := [.lit (.bool false)], args := [d1, d2, d3, d4] }
  | _ => none }
def TreeWalksWrongFalsely : Prop := treeWalksRow.holds Try.pinned (OpenSpec.ofChange treeWalksWrong)

/-- 'monikerlaw4.TreeAsked': WHATEVER THE INPUT: true; the input reads as it did. -/
def treeAskedSpec : ChangeSpec := { name := "treeAsked", fn := fun _ => fun
  | [d1, d2, d3] => { results := [.lit (.bool true)], args := [d1, d2, d3] }
  | _ => none }
def treeAskedRow : OpenClaim := { program := "ytodldpdnhcafpaa", sum := "7aedd21ff00461805ebdbc4b3a9141d37ae189c17a0cc9bed5714264eaa6e5f3", func := "moniker/monikerlaw4.TreeAsked", spec := "treeAsked", unfollowed := true, recurses := true, apart := false }
def TreeAskedSaid : Prop := treeAskedRow.holds Try.pinned (OpenSpec.ofChange treeAskedSpec)

/-- ITS FALSE NEIGHBOUR: 'it returns false'. Refute it at one input. -/
def treeAskedWrong : ChangeSpec := { name := "treeAsked", fn := fun _ => fun
  | [d1, d2, d3] => { results := [.lit (.bool false)], args := [d1, d2, d3] }
  | _ => none }
def TreeAskedWrongFalsely : Prop := treeAskedRow.holds Try.pinned (OpenSpec.ofChange treeAskedWrong)

/-- 'monikerlaw4.TreeLater': WHATEVER THE INPUT: true; the input reads as it did. -/
def treeLaterSpec : ChangeSpec := { name := "treeLater", fn := fun _ => fun
  | [d1, d2, d3] => { results := [.lit (.bool true)], args := [d1, d2, d3] }
  | _ => none }
def treeLaterRow : OpenClaim := { program := "ytodldpdnhcafpaa", sum := "7aedd21ff00461805ebdbc4b3a9141d37ae189c17a0cc9bed5714264eaa6e5f3", func := "moniker/monikerlaw4.TreeLater", spec := "treeLater", unfollowed := true, recurses := true, apart := false }
def TreeLaterSaid : Prop := treeLaterRow.holds Try.pinned (OpenSpec.ofChange treeLaterSpec)

/-- ITS FALSE NEIGHBOUR: 'it returns false'. Refute it at one input. -/
def treeLaterWrong : ChangeSpec := { name := "treeLater", fn := fun _ => fun
  | [d1, d2, d3] => { results := [.lit (.bool false)], args := [d1, d2, d3] }
  | _ => none }
def TreeLaterWrongFalsely : Prop := treeLaterRow.holds Try.pinned (OpenSpec.ofChange treeLaterWrong)

/-- 'monikerlaw4.TreeTexts': WHATEVER THE INPUT: true; the input reads as it did. -/
def treeTextsSpec : ChangeSpec := { name := "treeTexts", fn := fun _ => fun
  | [d1, d2] => { results := [.lit (.bool true)], args := [d1, d2] }
  | _ => none }
def treeTextsRow : OpenClaim := { program := "ytodldpdnhcafpaa", sum := "7aedd21ff00461805ebdbc4b3a9141d37ae189c17a0cc9bed5714264eaa6e5f3", func := "moniker/monikerlaw4.TreeTexts", spec := "treeTexts", unfollowed := true, recurses := true, apart := false }
def TreeTextsSaid : Prop := treeTextsRow.holds Try.pinned (OpenSpec.ofChange treeTextsSpec)

/-- ITS FALSE NEIGHBOUR: 'it returns false'. Refute it at one input. -/
def treeTextsWrong : ChangeSpec := { name := "treeTexts", fn := fun _ => fun
  | [d1, d2] => { results := [.lit (.bool false)], args := [d1, d2] }
  | _ => none }
def TreeTextsWrongFalsely : Prop := treeTextsRow.holds Try.pinned (OpenSpec.ofChange treeTextsWrong)

/-- 'monikerlaw4.TreeUps': WHATEVER THE INPUT: true; the input reads as it did. -/
def treeUpsSpec : ChangeSpec := { name := "treeUps", fn := fun _ => fun
  | [d1, d2] => { results := [.lit (.bool true)], args := [d1, d2] }
  | _ => none }
def treeUpsRow : OpenClaim := { program := "ytodldpdnhcafpaa", sum := "7aedd21ff00461805ebdbc4b3a9141d37ae189c17a0cc9bed5714264eaa6e5f3", func := "moniker/monikerlaw4.TreeUps", spec := "treeUps", unfollowed := true, recurses := true, apart := false }
def TreeUpsSaid : Prop := treeUpsRow.holds Try.pinned (OpenSpec.ofChange treeUpsSpec)

/-- ITS FALSE NEIGHBOUR: 'it returns false'. Refute it at one input. -/
def treeUpsWrong : ChangeSpec := { name := "treeUps", fn := fun _ => fun
  | [d1, d2] => { results := [.lit (.bool false)], args := [d1, d2] }
  | _ => none }
def TreeUpsWrongFalsely : Prop := treeUpsRow.holds Try.pinned (OpenSpec.ofChange treeUpsWrong)

/-- 'monikerlaw4.TreeSames': WHATEVER THE INPUT: true; the input reads as it did. -/
def treeSamesSpec : ChangeSpec := { name := "treeSames", fn := fun _ => fun
  | [d1, d2] => { results := [.lit (.bool true)], args := [d1, d2] }
  | _ => none }
def treeSamesRow : OpenClaim := { program := "ytodldpdnhcafpaa", sum := "7aedd21ff00461805ebdbc4b3a9141d37ae189c17a0cc9bed5714264eaa6e5f3", func := "moniker/monikerlaw4.TreeSames", spec := "treeSames", unfollowed := true, recurses := true, apart := false }
def TreeSamesSaid : Prop := treeSamesRow.holds Try.pinned (OpenSpec.ofChange treeSamesSpec)

/-- ITS FALSE NEIGHBOUR: 'it returns false'. Refute it at one input. -/
def treeSamesWrong : ChangeSpec := { name := "treeSames", fn := fun _ => fun
  | [d1, d2] => { results := [.lit (.bool false)], args := [d1, d2] }
  | _ => none }
def TreeSamesWrongFalsely : Prop := treeSamesRow.holds Try.pinned (OpenSpec.ofChange treeSamesWrong)

/-- 'monikerlaw4.TreeKids': WHATEVER THE INPUT: true; the input reads as it did. -/
def treeKidsSpec : ChangeSpec := { name := "treeKids", fn := fun _ => fun
  | [d1, d2, d3] => { results := [.lit (.bool true)], args := [d1, d2, d3] }
  | _ => none }
def treeKidsRow : OpenClaim := { program := "ytodldpdnhcafpaa", sum := "7aedd21ff00461805ebdbc4b3a9141d37ae189c17a0cc9bed5714264eaa6e5f3", func := "moniker/monikerlaw4.TreeKids", spec := "treeKids", unfollowed := true, recurses := true, apart := false }
def TreeKidsSaid : Prop := treeKidsRow.holds Try.pinned (OpenSpec.ofChange treeKidsSpec)

/-- ITS FALSE NEIGHBOUR: 'it returns false'. Refute it at one input. -/
def treeKidsWrong : ChangeSpec := { name := "treeKids", fn := fun _ => fun
  | [d1, d2, d3] => { results := [.lit (.bool false)], args := [d1, d2, d3] }
  | _ => none }
def TreeKidsWrongFalsely : Prop := treeKidsRow.holds Try.pinned (OpenSpec.ofChange treeKidsWrong)

/-- 'monikerlaw4.TreeOwns': WHATEVER THE INPUT: true; the input reads as it did. -/
def treeOwnsSpec : ChangeSpec := { name := "treeOwns", fn := fun _ => fun
  | [d1, d2] => { results := [.lit (.bool true)], args := [d1, d2] }
  | _ => none }
def treeOwnsRow : OpenClaim := { program := "ytodldpdnhcafpaa", sum := "7aedd21ff00461805ebdbc4b3a9141d37ae189c17a0cc9bed5714264eaa6e5f3", func := "moniker/monikerlaw4.TreeOwns", spec := "treeOwns", unfollowed := true, recurses := true, apart := false }
def TreeOwnsSaid : Prop := treeOwnsRow.holds Try.pinned (OpenSpec.ofChange treeOwnsSpec)

/-- ITS FALSE NEIGHBOUR: 'it returns false'. Refute it at one input. -/
def treeOwnsWrong : ChangeSpec := { name := "treeOwns", fn := fun _ => fun
  | [d1, d2] => { results := [.lit (.bool false)], args := [d1, d2] }
  | _ => none }
def TreeOwnsWrongFalsely : Prop := treeOwnsRow.holds Try.pinned (OpenSpec.ofChange treeOwnsWrong)

/-- 'monikerlaw4.TreeBytes': WHATEVER THE INPUT: true; the input reads as it did. -/
def treeBytesSpec : ChangeSpec := { name := "treeBytes", fn := fun _ => fun
  | [d] => { results := [.lit (.bool true)], args := [d] }
  | _ => none }
def treeBytesRow : OpenClaim := { program := "ytodldpdnhcafpaa", sum := "7aedd21ff00461805ebdbc4b3a9141d37ae189c17a0cc9bed5714264eaa6e5f3", func := "moniker/monikerlaw4.TreeBytes", spec := "treeBytes", unfollowed := true, recurses := true, apart := false }
def TreeBytesSaid : Prop := treeBytesRow.holds Try.pinned (OpenSpec.ofChange treeBytesSpec)

/-- ITS FALSE NEIGHBOUR: 'it returns false'. Refute it at one input. -/
def treeBytesWrong : ChangeSpec := { name := "treeBytes", fn := fun _ => fun
  | [d] => { results := [.lit (.bool false)], args := [d] }
  | _ => none }
def TreeBytesWrongFalsely : Prop := treeBytesRow.holds Try.pinned (OpenSpec.ofChange treeBytesWrong)

/-- 'monikerlaw4.TreeValids': WHATEVER THE INPUT: true; the input reads as it did. -/
def treeValidsSpec : ChangeSpec := { name := "treeValids", fn := fun _ => fun
  | [d1, d2] => { results := [.lit (.bool true)], args := [d1, d2] }
  | _ => none }
def treeValidsRow : OpenClaim := { program := "ytodldpdnhcafpaa", sum := "7aedd21ff00461805ebdbc4b3a9141d37ae189c17a0cc9bed5714264eaa6e5f3", func := "moniker/monikerlaw4.TreeValids", spec := "treeValids", unfollowed := true, recurses := true, apart := false }
def TreeValidsSaid : Prop := treeValidsRow.holds Try.pinned (OpenSpec.ofChange treeValidsSpec)

/-- ITS FALSE NEIGHBOUR: 'it returns false'. Refute it at one input. -/
def treeValidsWrong : ChangeSpec := { name := "treeValids", fn := fun _ => fun
  | [d1, d2] => { results := [.lit (.bool false)], args := [d1, d2] }
  | _ => none }
def TreeValidsWrongFalsely : Prop := treeValidsRow.holds Try.pinned (OpenSpec.ofChange treeValidsWrong)

/-- 'monikerlaw4.TreeTokens': WHATEVER THE INPUT: true; the input reads as it did. -/
def treeTokensSpec : ChangeSpec := { name := "treeTokens", fn := fun _ => fun
  | [d] => { results := [.lit (.bool true)], args := [d] }
  | _ => none }
def treeTokensRow : OpenClaim := { program := "ytodldpdnhcafpaa", sum := "7aedd21ff00461805ebdbc4b3a9141d37ae189c17a0cc9bed5714264eaa6e5f3", func := "moniker/monikerlaw4.TreeTokens", spec := "treeTokens", unfollowed := true, recurses := true, apart := false }
def TreeTokensSaid : Prop := treeTokensRow.holds Try.pinned (OpenSpec.ofChange treeTokensSpec)

/-- ITS FALSE NEIGHBOUR: 'it returns false'. Refute it at one input. -/
def treeTokensWrong : ChangeSpec := { name := "treeTokens", fn := fun _ => fun
  | [d] => { results := [.lit (.bool false)], args := [d] }
  | _ => none }
def TreeTokensWrongFalsely : Prop := treeTokensRow.holds Try.pinned (OpenSpec.ofChange treeTokensWrong)

/-- 'monikerlaw4.TreeBlind': WHATEVER THE INPUT: true; the input reads as it did. -/
def treeBlindSpec : ChangeSpec := { name := "treeBlind", fn := fun _ => fun
  | [d1, d2] => { results := [.lit (.bool true)], args := [d1, d2] }
  | _ => none }
def treeBlindRow : OpenClaim := { program := "ytodldpdnhcafpaa", sum := "7aedd21ff00461805ebdbc4b3a9141d37ae189c17a0cc9bed5714264eaa6e5f3", func := "moniker/monikerlaw4.TreeBlind", spec := "treeBlind", unfollowed := true, recurses := true, apart := false }
def TreeBlindSaid : Prop := treeBlindRow.holds Try.pinned (OpenSpec.ofChange treeBlindSpec)

/-- ITS FALSE NEIGHBOUR: 'it returns false'. Refute it at one input. -/
def treeBlindWrong : ChangeSpec := { name := "treeBlind", fn := fun _ => fun
  | [d1, d2] => { results := [.lit (.bool false)], args := [d1, d2] }
  | _ => none }
def TreeBlindWrongFalsely : Prop := treeBlindRow.holds Try.pinned (OpenSpec.ofChange treeBlindWrong)

/-- 'monikerlaw4.TreeFamily': WHATEVER THE INPUT: true; the input reads as it did. -/
def treeFamilySpec : ChangeSpec := { name := "treeFamily", fn := fun _ => fun
  | [d1, d2] => { results := [.lit (.bool true)], args := [d1, d2] }
  | _ => none }
def treeFamilyRow : OpenClaim := { program := "ytodldpdnhcafpaa", sum := "7aedd21ff00461805ebdbc4b3a9141d37ae189c17a0cc9bed5714264eaa6e5f3", func := "moniker/monikerlaw4.TreeFamily", spec := "treeFamily", unfollowed := true, recurses := true, apart := false }
def TreeFamilySaid : Prop := treeFamilyRow.holds Try.pinned (OpenSpec.ofChange treeFamilySpec)

/-- ITS FALSE NEIGHBOUR: 'it returns false'. Refute it at one input. -/
def treeFamilyWrong : ChangeSpec := { name := "treeFamily", fn := fun _ => fun
  | [d1, d2] => { results := [.lit (.bool false)], args := [d1, d2] }
  | _ => none }
def TreeFamilyWrongFalsely : Prop := treeFamilyRow.holds Try.pinned (OpenSpec.ofChange treeFamilyWrong)

/- THE SECOND FORM. 'bulk': how many values and letters a reading holds, each counted each time it is reached (what is shared counts as often as it is met; a slice's spare places count too). A statement '..UptoSaid' is the law's where the arguments, and the package variables that the reading takes, are together of bulk at most 1048576: NARROWER than '..Said'. Prove '..Said' where nothing that the law and all that it calls make is longer than what came in: it says more and counts as full. Else prove '..UptoSaid'. A law counts once. -/
mutual
def uptoBulk {H : Type} : DataW H → Nat
  | .lit (.string bytes) => bytes.length + 1
  | .lit _ => 1
  | .nil => 1
  | .ptr d => uptoBulk d + 1
  | .slice elems spare => uptoBulkAll elems + uptoBulkAll spare + 1
  | .agg parts => uptoBulkAll parts + 1
  | .iface _ d => uptoBulk d + 1
  | .map entries => uptoBulkEntries entries + 1
  | .held _ => 1
def uptoBulkAll {H : Type} : List (DataW H) → Nat
  | [] => 0
  | d :: r => uptoBulk d + uptoBulkAll r
def uptoBulkEntries {H : Type} : List (Lit × DataW H) → Nat
  | [] => 0
  | x :: r => uptoBulkEntry x + uptoBulkEntries r
def uptoBulkEntry {H : Type} : Lit × DataW H → Nat
  | (.string bytes, d) => bytes.length + uptoBulk d + 1
  | (_, d) => uptoBulk d + 1
 end
def uptoSmall : (H : Type) → List (DataW H) → Bool := fun _ ds => decide (uptoBulkAll ds ≤ 1048576)
def OpenSpec.upto (s : _root_.Go.ChangeSpec) : _root_.Go.OpenSpec := { _root_.Go.OpenSpec.ofChange s with cond := some uptoSmall }

/-- 'monikerlaw4.TreeAts', WHERE WHAT IT READS IS OF BULK AT MOST 1048576: true; the input reads as it did. -/
def treeAtsUptoRow : OpenClaim := { program := "ytodldpdnhcafpaa", sum := "7aedd21ff00461805ebdbc4b3a9141d37ae189c17a0cc9bed5714264eaa6e5f3", func := "moniker/monikerlaw4.TreeAts", spec := "treeAts", apart := false, narrowed := true }
def TreeAtsUptoSaid : Prop := treeAtsUptoRow.holds Try.pinned (OpenSpec.upto treeAtsSpec)

/-- 'monikerlaw4.TreeNames', WHERE WHAT IT READS IS OF BULK AT MOST 1048576: true; the input reads as it did. -/
def treeNamesUptoRow : OpenClaim := { program := "ytodldpdnhcafpaa", sum := "7aedd21ff00461805ebdbc4b3a9141d37ae189c17a0cc9bed5714264eaa6e5f3", func := "moniker/monikerlaw4.TreeNames", spec := "treeNames", apart := false, narrowed := true }
def TreeNamesUptoSaid : Prop := treeNamesUptoRow.holds Try.pinned (OpenSpec.upto treeNamesSpec)

/-- 'monikerlaw4.TreeWalks', WHERE WHAT IT READS IS OF BULK AT MOST 1048576: true; the input reads as it did. -/
def treeWalksUptoRow : OpenClaim := { program := "ytodldpdnhcafpaa", sum := "7aedd21ff00461805ebdbc4b3a9141d37ae189c17a0cc9bed5714264eaa6e5f3", func := "moniker/monikerlaw4.TreeWalks", spec := "treeWalks", unfollowed := true, recurses := true, apart := false, narrowed := true }
def TreeWalksUptoSaid : Prop := treeWalksUptoRow.holds Try.pinned (OpenSpec.upto treeWalksSpec)

/-- 'monikerlaw4.TreeAsked', WHERE WHAT IT READS IS OF BULK AT MOST 1048576: true; the input reads as it did. -/
def treeAskedUptoRow : OpenClaim := { program := "ytodldpdnhcafpaa", sum := "7aedd21ff00461805ebdbc4b3a9141d37ae189c17a0cc9bed5714264eaa6e5f3", func := "moniker/monikerlaw4.TreeAsked", spec := "treeAsked", unfollowed := true, recurses := true, apart := false, narrowed := true }
def TreeAskedUptoSaid : Prop := treeAskedUptoRow.holds Try.pinned (OpenSpec.upto treeAskedSpec)

/-- 'monikerlaw4.TreeLater', WHERE WHAT IT READS IS OF BULK AT MOST 1048576: true; the input reads as it did. -/
def treeLaterUptoRow : OpenClaim := { program := "ytodldpdnhcafpaa", sum := "7aedd21ff00461805ebdbc4b3a9141d37ae189c17a0cc9bed5714264eaa6e5f3", func := "moniker/monikerlaw4.TreeLater", spec := "treeLater", unfollowed := true, recurses := true, apart := false, narrowed := true }
def TreeLaterUptoSaid : Prop := treeLaterUptoRow.holds Try.pinned (OpenSpec.upto treeLaterSpec)

/-- 'monikerlaw4.TreeTexts', WHERE WHAT IT READS IS OF BULK AT MOST 1048576: true; the input reads as it did. -/
def treeTextsUptoRow : OpenClaim := { program := "ytodldpdnhcafpaa", sum := "7aedd21ff00461805ebdbc4b3a9141d37ae189c17a0cc9bed5714264eaa6e5f3", func := "moniker/monikerlaw4.TreeTexts", spec := "treeTexts", unfollowed := true, recurses := true, apart := false, narrowed := true }
def TreeTextsUptoSaid : Prop := treeTextsUptoRow.holds Try.pinned (OpenSpec.upto treeTextsSpec)

/-- 'monikerlaw4.TreeUps', WHERE WHAT IT READS IS OF BULK AT MOST 1048576: true; the input reads as it did. -/
def treeUpsUptoRow : OpenClaim := { program := "ytodldpdnhcafpaa", sum := "7aedd21ff00461805ebdbc4b3a9141d37ae189c17a0cc9bed5714264eaa6e5f3", func := "moniker/monikerlaw4.TreeUps", spec := "treeUps", unfollowed := true, recurses := true, apart := false, narrowed := true }
def TreeUpsUptoSaid : Prop := treeUpsUptoRow.holds Try.pinned (OpenSpec.upto treeUpsSpec)

/-- 'monikerlaw4.TreeSames', WHERE WHAT IT READS IS OF BULK AT MOST 1048576: true; the input reads as it did. -/
def treeSamesUptoRow : OpenClaim := { program := "ytodldpdnhcafpaa", sum := "7aedd21ff00461805ebdbc4b3a9141d37ae189c17a0cc9bed5714264eaa6e5f3", func := "moniker/monikerlaw4.TreeSames", spec := "treeSames", unfollowed := true, recurses := true, apart := false, narrowed := true }
def TreeSamesUptoSaid : Prop := treeSamesUptoRow.holds Try.pinned (OpenSpec.upto treeSamesSpec)

/-- 'monikerlaw4.TreeKids', WHERE WHAT IT READS IS OF BULK AT MOST 1048576: true; the input reads as it did. -/
def treeKidsUptoRow : OpenClaim := { program := "ytodldpdnhcafpaa", sum := "7aedd21ff00461805ebdbc4b3a9141d37ae189c17a0cc9bed5714264eaa6e5f3", func := "moniker/monikerlaw4.TreeKids", spec := "treeKids", unfollowed := true, recurses := true, apart := false, narrowed := true }
def TreeKidsUptoSaid : Prop := treeKidsUptoRow.holds Try.pinned (OpenSpec.upto treeKidsSpec)

/-- 'monikerlaw4.TreeOwns', WHERE WHAT IT READS IS OF BULK AT MOST 1048576: true; the input reads as it did. -/
def treeOwnsUptoRow : OpenClaim := { program := "ytodldpdnhcafpaa", sum := "7aedd21ff00461805ebdbc4b3a9141d37ae189c17a0cc9bed5714264eaa6e5f3", func := "moniker/monikerlaw4.TreeOwns", spec := "treeOwns", unfollowed := true, recurses := true, apart := false, narrowed := true }
def TreeOwnsUptoSaid : Prop := treeOwnsUptoRow.holds Try.pinned (OpenSpec.upto treeOwnsSpec)

/-- 'monikerlaw4.TreeBytes', WHERE WHAT IT READS IS OF BULK AT MOST 1048576: true; the input reads as it did. -/
def treeBytesUptoRow : OpenClaim := { program := "ytodldpdnhcafpaa", sum := "7aedd21ff00461805ebdbc4b3a9141d37ae189c17a0cc9bed5714264eaa6e5f3", func := "moniker/monikerlaw4.TreeBytes", spec := "treeBytes", unfollowed := true, recurses := true, apart := false, narrowed := true }
def TreeBytesUptoSaid : Prop := treeBytesUptoRow.holds Try.pinned (OpenSpec.upto treeBytesSpec)

/-- 'monikerlaw4.TreeValids', WHERE WHAT IT READS IS OF BULK AT MOST 1048576: true; the input reads as it did. -/
def treeValidsUptoRow : OpenClaim := { program := "ytodldpdnhcafpaa", sum := "7aedd21ff00461805ebdbc4b3a9141d37ae189c17a0cc9bed5714264eaa6e5f3", func := "moniker/monikerlaw4.TreeValids", spec := "treeValids", unfollowed := true, recurses := true, apart := false, narrowed := true }
def TreeValidsUptoSaid : Prop := treeValidsUptoRow.holds Try.pinned (OpenSpec.upto treeValidsSpec)

/-- 'monikerlaw4.TreeTokens', WHERE WHAT IT READS IS OF BULK AT MOST 1048576: true; the input reads as it did. -/
def treeTokensUptoRow : OpenClaim := { program := "ytodldpdnhcafpaa", sum := "7aedd21ff00461805ebdbc4b3a9141d37ae189c17a0cc9bed5714264eaa6e5f3", func := "moniker/monikerlaw4.TreeTokens", spec := "treeTokens", unfollowed := true, recurses := true, apart := false, narrowed := true }
def TreeTokensUptoSaid : Prop := treeTokensUptoRow.holds Try.pinned (OpenSpec.upto treeTokensSpec)

/-- 'monikerlaw4.TreeBlind', WHERE WHAT IT READS IS OF BULK AT MOST 1048576: true; the input reads as it did. -/
def treeBlindUptoRow : OpenClaim := { program := "ytodldpdnhcafpaa", sum := "7aedd21ff00461805ebdbc4b3a9141d37ae189c17a0cc9bed5714264eaa6e5f3", func := "moniker/monikerlaw4.TreeBlind", spec := "treeBlind", unfollowed := true, recurses := true, apart := false, narrowed := true }
def TreeBlindUptoSaid : Prop := treeBlindUptoRow.holds Try.pinned (OpenSpec.upto treeBlindSpec)

/-- 'monikerlaw4.TreeFamily', WHERE WHAT IT READS IS OF BULK AT MOST 1048576: true; the input reads as it did. -/
def treeFamilyUptoRow : OpenClaim := { program := "ytodldpdnhcafpaa", sum := "7aedd21ff00461805ebdbc4b3a9141d37ae189c17a0cc9bed5714264eaa6e5f3", func := "moniker/monikerlaw4.TreeFamily", spec := "treeFamily", unfollowed := true, recurses := true, apart := false, narrowed := true }
def TreeFamilyUptoSaid : Prop := treeFamilyUptoRow.holds Try.pinned (OpenSpec.upto treeFamilySpec)

end Rows
end Go.Proofs.Ytodldpdnhcafpaa
