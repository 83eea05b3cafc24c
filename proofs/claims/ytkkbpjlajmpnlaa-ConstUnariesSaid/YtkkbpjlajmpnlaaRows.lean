/-
  No cell of these rows narrows 'for every input' (looked for: loops, veiled, ifaces, maps, wideKeys, modest, calm, conditions, laid).
  DERIVED. THE GIVEN ROWS OF THIS SEAT. 2 by the template 'for every input the law returns true; each argument reads behind the call as it read before'; 0 by the template 'total and deterministic' (their statements: YtkkbpjlajmpnlaaTotals.lean).
  GIVEN WITH THE SEED: the statements are not yours to turn. If you find one false, say at which input.
  Laid BY PROGRAM, IN A SANDBOX (cutbox-rows.mjs): the forced cells as the released guide's own fill.sh prints them over the translation 78fc2512fc285e93… (all of the seat's roots in one cut). By AI agents, Wed Nov 11 2026. No macro, syntax, notation, axiom, sorry.
-/
import Derived.Test.YtkkbpjlajmpnlaaChecked
import GoSem.Claim
import GoSem.ClaimJoined
import GoSem.ClaimMapViews
import Derived.JoinedTies
import Derived.KernelRfl
namespace Go.Proofs.Ytkkbpjlajmpnlaa
/- THE CELL 'sum', in the pinned program and in every row, IS THE sha256 OF THE DUMP (.gsa) THAT YtkkbpjlajmpnlaaProg.lean LOADS. Nothing in Lean hashes anything: it is a label: what it is worth is what the hold of that sum in a sandbox is worth. -/
noncomputable def Try.pinned : Pinned := { name := "ytkkbpjlajmpnlaa", sum := "78fc2512fc285e9394679bf0636905aa84095c1245d60e8605406f3182e330a1", checked := Try.checked }
namespace Rows
def none {H : Type} : Left H := { results := [], args := [] }

/-- 'monikerlaw8.ConstLesses': WHATEVER THE INPUT: true; the input reads as it did. -/
def constLessesSpec : ChangeSpec := { name := "constLesses", fn := fun _ => fun
  | [d1, d2] => { results := [.lit (.bool true)], args := [d1, d2] }
  | _ => none }
def constLessesRow : OpenClaim := { program := "ytkkbpjlajmpnlaa", sum := "78fc2512fc285e9394679bf0636905aa84095c1245d60e8605406f3182e330a1", func := "moniker/monikerlaw8.ConstLesses", spec := "constLesses", apart := false }
def ConstLessesSaid : Prop := constLessesRow.holds Try.pinned (OpenSpec.ofChange constLessesSpec)

/-- ITS FALSE NEIGHBOUR: 'it returns false'. Refute it at one input. -/
def constLessesWrong : ChangeSpec := { name := "constLesses", fn := fun _ => fun
  | [d1, d2] => { results := [.lit (.bool false)], args := [d1, d2] }
  | _ => none }
def ConstLessesWrongFalsely : Prop := constLessesRow.holds Try.pinned (OpenSpec.ofChange constLessesWrong)

/-- 'monikerlaw8.ConstUnaries': WHATEVER THE INPUT: true; the input reads as it did. -/
def constUnariesSpec : ChangeSpec := { name := "constUnaries", fn := fun _ => fun
  | [d1, d2] => { results := [.lit (.bool true)], args := [d1, d2] }
  | _ => none }
def constUnariesRow : OpenClaim := { program := "ytkkbpjlajmpnlaa", sum := "78fc2512fc285e9394679bf0636905aa84095c1245d60e8605406f3182e330a1", func := "moniker/monikerlaw8.ConstUnaries", spec := "constUnaries", apart := false }
def ConstUnariesSaid : Prop := constUnariesRow.holds Try.pinned (OpenSpec.ofChange constUnariesSpec)

/-- ITS FALSE NEIGHBOUR: 'it returns false'. Refute it at one input. -/
def constUnariesWrong : ChangeSpec := { name := "constUnaries", fn := fun _ => fun
  | [d1, d2] => { results := [.lit (.bool false)], args := [d1, d2] }
  | _ => none }
def ConstUnariesWrongFalsely : Prop := constUnariesRow.holds Try.pinned (OpenSpec.ofChange constUnariesWrong)

/- THE SECOND FORM. 'bulk': how many values and letters a reading holds, each counted each time it is reached (what is shared counts as often as it is met; a slice's spare places count too). A statement '..UptoSaid' is the law's where the arguments, and the package variables that the reading takes, are together of bulk at most 1048576: NARROWER than '..Said'. Prove '..Said' where nothing that the law and all that it calls make is longer than what came in: it says more and counts as full. Else prove '..UptoSaid'. A law counts once. -/
mutual
def uptoBulk {H : Type} : DataW H → Nat
  | .lit (.string bytes) => bytes.length + 1
  | .lit _ => 1
  | .nil => 1
  | .ptr d => uptoBulk d + 1
  | .slice elems spare => uptoBulkAll elems + uptoBulkAll spare + 1
  | .agg parts => uptoBulkAll parts + 1
  | .iface _ d => uptoBulk d + 1
  | .map entries => uptoBulkEntries entries + 1
  | .held _ => 1
def uptoBulkAll {H : Type} : List (DataW H) → Nat
  | [] => 0
  | d :: r => uptoBulk d + uptoBulkAll r
def uptoBulkEntries {H : Type} : List (Lit × DataW H) → Nat
  | [] => 0
  | x :: r => uptoBulkEntry x + uptoBulkEntries r
def uptoBulkEntry {H : Type} : Lit × DataW H → Nat
  | (.string bytes, d) => bytes.length + uptoBulk d + 1
  | (_, d) => uptoBulk d + 1
 end
def uptoSmall : (H : Type) → List (DataW H) → Bool := fun _ ds => decide (uptoBulkAll ds ≤ 1048576)
def OpenSpec.upto (s : _root_.Go.ChangeSpec) : _root_.Go.OpenSpec := { _root_.Go.OpenSpec.ofChange s with cond := some uptoSmall }

/-- 'monikerlaw8.ConstLesses', WHERE WHAT IT READS IS OF BULK AT MOST 1048576: true; the input reads as it did. -/
def constLessesUptoRow : OpenClaim := { program := "ytkkbpjlajmpnlaa", sum := "78fc2512fc285e9394679bf0636905aa84095c1245d60e8605406f3182e330a1", func := "moniker/monikerlaw8.ConstLesses", spec := "constLesses", apart := false, narrowed := true }
def ConstLessesUptoSaid : Prop := constLessesUptoRow.holds Try.pinned (OpenSpec.upto constLessesSpec)

/-- 'monikerlaw8.ConstUnaries', WHERE WHAT IT READS IS OF BULK AT MOST 1048576: true; the input reads as it did. -/
def constUnariesUptoRow : OpenClaim := { program := "ytkkbpjlajmpnlaa", sum := "78fc2512fc285e9394679bf0636905aa84095c1245d60e8605406f3182e330a1", func := "moniker/monikerlaw8.ConstUnaries", spec := "constUnaries", apart := false, narrowed := true }
def ConstUnariesUptoSaid : Prop := constUnariesUptoRow.holds Try.pinned (OpenSpec.upto constUnariesSpec)

end Rows
end Go.Proofs.Ytkkbpjlajmpnlaa
