import Derived.Test.YtkkbpjlajmpnlaaQLess
import Derived.Test.YtkkbpjlajmpnlaaHArgs
namespace Go.Proofs.Ytkkbpjlajmpnlaa.L
open Go.RowKit Go.Proofs.Ytkkbpjlajmpnlaa.F Go.Proofs.YtkkbpjlajmpnlaaW.PrintWords
theorem lesses_walk (s : Int) (b : Bool) (n : Int) (t : ByteArray) (s' : Int) (b' : Bool) (n' : Int) (t' : ByteArray) (w : World) (_ : (Lit.int .u8 s).wf = true) (_ : (Lit.int .i64 n).wf = true) (ht : t.size ≤ 140737488351232) (_ : (Lit.int .u8 s').wf = true) (_ : (Lit.int .i64 n').wf = true) (_ : t'.size ≤ 140737488351232) :
    Calls Try.prog 3 #[.agg #[.int .u8 s, .bool b, .int .i64 n, .string t], .agg #[.int .u8 s', .bool b', .int .i64 n', .string t']] w fun e w' => e = .returned (.bool true) ∧ Below w.heap.size w w' := by
  obtain ⟨k, h⟩ := Q.ConstLesses s b n t s' b' n' t' (by omega)
  exact monikerlaw8_ConstLesses.calls k s b n t s' b' n' t' true w h
end Go.Proofs.Ytkkbpjlajmpnlaa.L
