import Derived.Test.YtkkbpjlajmpnlaaHOpen
import Derived.Test.YtkkbpjlajmpnlaaF0
import Derived.ChangeArms
namespace Go.Proofs.Ytkkbpjlajmpnlaa.H
open Go.ChangeShapes Go.WideShapes Go.Deep Go.Proofs.YtkkbpjlajmpnlaaW.PrintWords Go.Proofs.Ytkkbpjlajmpnlaa.F

theorem cells2 : Try.prog.cellsOf 2 = 1 := by kernel_rfl
theorem cells4 : Try.prog.cellsOf 4 = 1 := by kernel_rfl
theorem cells9 : Try.prog.cellsOf 9 = 1 := by kernel_rfl
theorem cells22 : Try.prog.cellsOf 22 = 1 := by kernel_rfl
theorem cells24 : Try.prog.cellsOf 24 = 4 := by kernel_rfl
theorem open24 {H : Type} {enc : TypeId × Value → H} {W : World} {base b0 : Nat} {r : Reach} {spare : Nat → Bool} {held : Bool} {v : Value} {d : DataW H} {p : List MemPlace} (hv : Value.okWide Try.prog W r b0 24 v) (h : DataW.Trod enc Try.prog W base spare held 24 v d p) (hw : ∀ n ∈ d.weights Try.prog 24, n ≤ reachBytes) :
    ∃ (a0 : Int) (a1 : Bool) (a2 : Int) (a3 : ByteArray), v = .agg #[.int .u8 a0, .bool a1, .int .i64 a2, .string a3] ∧ (Lit.int .u8 a0).wf = true ∧ True ∧ (Lit.int .i64 a2).wf = true ∧ a3.size ≤ 140737488351232 := by
  obtain ⟨cs, rfl, hsz⟩ := okWide_struct Try.underlying24 hv
  rw [cells24] at hsz
  obtain ⟨l⟩ := cs
  obtain ⟨c0, c1, c2, c3, rfl⟩ : ∃ c0 c1 c2 c3, l = [c0, c1, c2, c3] := by
    match l, hsz with
    | [c0, c1, c2, c3], _ => exact ⟨c0, c1, c2, c3, rfl⟩
  obtain ⟨fuel, hf⟩ := h
  obtain ⟨ys, n, _, hd, _, hyl, hg⟩ := DataW.trod_struct Try.underlying24 hf
  obtain ⟨y0, y1, y2, y3, rfl⟩ : ∃ y0 y1 y2 y3, ys = [y0, y1, y2, y3] := by
    match ys, hyl with
    | [y0, y1, y2, y3], _ => exact ⟨y0, y1, y2, y3, rfl⟩
  obtain ⟨rfl, rfl⟩ := Prod.mk.inj hd
  have f0 := hg 0 { name := "Sort", type := 22, offset := 0, embedded := false, tag := "", pkgPath := "", byteOffset := 0 } rfl
  have f1 := hg 1 { name := "Bool", type := 4, offset := 1, embedded := false, tag := "", pkgPath := "", byteOffset := 1 } rfl
  have f2 := hg 2 { name := "Int", type := 2, offset := 2, embedded := false, tag := "", pkgPath := "", byteOffset := 8 } rfl
  have f3 := hg 3 { name := "Text", type := 9, offset := 3, embedded := false, tag := "", pkgPath := "", byteOffset := 16 } rfl
  simp only [Value.cells, cells2, cells4, cells9, cells22, List.drop_zero, List.drop_succ_cons, List.take_succ_cons, List.take_zero, List.getElem?_cons_zero, List.getElem?_cons_succ] at f0 f1 f2 f3
  have hq : ∀ (j : Nat) (t : TypeId) (d : DataW H), [22, 4, 2, 9][j]? = some t → [y0.1, y1.1, y2.1, y3.1][j]? = some d → ∀ n ∈ d.weights Try.prog t, n ≤ reachBytes := by
    intro j t d h1 h2 q hq
    refine hw q ?_
    simp only [DataW.weights, Try.underlying24]
    exact DataW.weights_mem_each (j := j) h1 h2 q hq
  obtain ⟨a0, e0, w0⟩ := O.opens_int Try.underlying22 f0 (hq 0 _ _ rfl rfl)
  obtain rfl : c0 = .int .u8 a0 := (List.cons.inj e0).1
  obtain ⟨a1, e1, w1⟩ := O.opens_bool Try.underlying4 f1 (hq 1 _ _ rfl rfl)
  obtain rfl : c1 = .bool a1 := (List.cons.inj e1).1
  obtain ⟨a2, e2, w2⟩ := O.opens_int Try.underlying2 f2 (hq 2 _ _ rfl rfl)
  obtain rfl : c2 = .int .i64 a2 := (List.cons.inj e2).1
  obtain ⟨a3, e3, w3⟩ := O.opens_string Try.underlying9 f3 (hq 3 _ _ rfl rfl)
  obtain rfl : c3 = .string a3 := (List.cons.inj e3).1
  exact ⟨a0, a1, a2, a3, rfl, w0, w1, w2, w3⟩
end Go.Proofs.Ytkkbpjlajmpnlaa.H
