import Derived.Test.YtkkbpjlajmpnlaaQUnary
import Derived.Test.YtkkbpjlajmpnlaaHArgs
import Derived.OpenShut
namespace Go.Proofs.Ytkkbpjlajmpnlaa.L
open Go.RowKit Go.Proofs.Ytkkbpjlajmpnlaa.F Go.Proofs.YtkkbpjlajmpnlaaW.PrintWords
theorem unaries_walk (op : Int) (s : Int) (b : Bool) (n : Int) (t : ByteArray) (w : World) (hop : (Lit.int .u8 op).wf = true) (_ : (Lit.int .u8 s).wf = true) (_ : (Lit.int .i64 n).wf = true) (_ : t.size ≤ 140737488351232) :
    Calls Try.prog 4 #[.int .u8 op, .agg #[.int .u8 s, .bool b, .int .i64 n, .string t]] w fun e w' => e = .returned (.bool true) ∧ Below w.heap.size w w' := by
  have h2 := bounds_u8 hop
  obtain ⟨k, h⟩ := Q.ConstUnaries op s b n t h2.1 h2.2
  exact monikerlaw8_ConstUnaries.calls k op s b n t true w h
end Go.Proofs.Ytkkbpjlajmpnlaa.L
