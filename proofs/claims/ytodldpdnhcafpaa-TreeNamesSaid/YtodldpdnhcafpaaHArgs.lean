import Derived.Test.YtodldpdnhcafpaaHOpen
import Derived.Test.YtodldpdnhcafpaaF0
import Derived.ChangeArms
namespace Go.Proofs.Ytodldpdnhcafpaa.H
open Go.ChangeShapes Go.WideShapes Go.Deep Go.Proofs.YtodldpdnhcafpaaW.PrintWords Go.Proofs.Ytodldpdnhcafpaa.F

theorem cells3 : Try.prog.cellsOf 3 = 1 := by kernel_rfl
theorem cells9 : Try.prog.cellsOf 9 = 1 := by kernel_rfl
theorem cells22 : Try.prog.cellsOf 22 = 1 := by kernel_rfl
theorem cells23 : Try.prog.cellsOf 23 = 1 := by kernel_rfl
theorem cells25 : Try.prog.cellsOf 25 = 1 := by kernel_rfl
theorem cells27 : Try.prog.cellsOf 27 = 3 := by kernel_rfl
theorem cells45 : Try.prog.cellsOf 45 = 1 := by kernel_rfl
theorem cells59 : Try.prog.cellsOf 59 = 1 := by kernel_rfl
theorem bytes61 : Try.prog.bytesOf 61 = 24 := by kernel_rfl
theorem bytes47 : Try.prog.bytesOf 47 = 32 := by kernel_rfl
def B61 (x : S61) : Prop := (Lit.int .u8 x.f0).wf = true ∧ (Lit.int .i64 x.f1).wf = true ∧ (Lit.int .i64 x.f2).wf = true
theorem cells61 : Try.prog.cellsOf 61 = 3 := by kernel_rfl
theorem opens61 : O.Opens Try.prog 61 k61 B61 := by
  intro H enc w base spare held fuel cs x h hw
  obtain ⟨ys, n, rfl, rfl, hlen, hyl, hf⟩ := DataW.trod_struct Try.underlying61 h
  rw [cells61] at hlen
  obtain ⟨c0, c1, c2, rfl⟩ : ∃ c0 c1 c2, cs = [c0, c1, c2] := by
    match cs, hlen with
    | [c0, c1, c2], _ => exact ⟨c0, c1, c2, rfl⟩
  obtain ⟨y0, y1, y2, rfl⟩ : ∃ y0 y1 y2, ys = [y0, y1, y2] := by
    match ys, hyl with
    | [y0, y1, y2], _ => exact ⟨y0, y1, y2, rfl⟩
  have f0 := hf 0 { name := "Kind", type := 59, offset := 0, embedded := false, tag := "", pkgPath := "", byteOffset := 0 } rfl
  have f1 := hf 1 { name := "From", type := 3, offset := 1, embedded := false, tag := "", pkgPath := "", byteOffset := 8 } rfl
  have f2 := hf 2 { name := "To", type := 3, offset := 2, embedded := false, tag := "", pkgPath := "", byteOffset := 16 } rfl
  simp only [cells3, cells59, List.drop_zero, List.drop_succ_cons, List.take_succ_cons, List.take_zero, List.getElem?_cons_zero, List.getElem?_cons_succ] at f0 f1 f2
  have hq : ∀ (j : Nat) (t : TypeId) (d : DataW H), [59, 3, 3][j]? = some t → [y0.1, y1.1, y2.1][j]? = some d → ∀ n ∈ d.weights Try.prog t, n ≤ reachBytes := by
    intro j t d h1 h2 q hq
    refine hw q ?_
    simp only [DataW.weights, Try.underlying61]
    exact DataW.weights_mem_each (j := j) h1 h2 q hq
  obtain ⟨a0, e0, w0⟩ := O.opens_int Try.underlying59 f0 (hq 0 _ _ rfl rfl)
  obtain rfl : c0 = .int .u8 a0 := (List.cons.inj e0).1
  obtain ⟨a1, e1, w1⟩ := O.opens_int Try.underlying3 f1 (hq 1 _ _ rfl rfl)
  obtain rfl : c1 = .int .i64 a1 := (List.cons.inj e1).1
  obtain ⟨a2, e2, w2⟩ := O.opens_int Try.underlying3 f2 (hq 2 _ _ rfl rfl)
  obtain rfl : c2 = .int .i64 a2 := (List.cons.inj e2).1
  exact ⟨⟨a0, a1, a2⟩, k61_mk w _, w0, w1, w2⟩
def B47 (x : S47) : Prop := (Lit.int .u8 x.f0).wf = true ∧ (Lit.int .i64 x.f1).wf = true ∧ (Lit.int .i64 x.f2).wf = true ∧ (Lit.int .i64 x.f3).wf = true
theorem cells47 : Try.prog.cellsOf 47 = 4 := by kernel_rfl
theorem opens47 : O.Opens Try.prog 47 k47 B47 := by
  intro H enc w base spare held fuel cs x h hw
  obtain ⟨ys, n, rfl, rfl, hlen, hyl, hf⟩ := DataW.trod_struct Try.underlying47 h
  rw [cells47] at hlen
  obtain ⟨c0, c1, c2, c3, rfl⟩ : ∃ c0 c1 c2 c3, cs = [c0, c1, c2, c3] := by
    match cs, hlen with
    | [c0, c1, c2, c3], _ => exact ⟨c0, c1, c2, c3, rfl⟩
  obtain ⟨y0, y1, y2, y3, rfl⟩ : ∃ y0 y1 y2 y3, ys = [y0, y1, y2, y3] := by
    match ys, hyl with
    | [y0, y1, y2, y3], _ => exact ⟨y0, y1, y2, y3, rfl⟩
  have f0 := hf 0 { name := "Kind", type := 45, offset := 0, embedded := false, tag := "", pkgPath := "", byteOffset := 0 } rfl
  have f1 := hf 1 { name := "First", type := 3, offset := 1, embedded := false, tag := "", pkgPath := "", byteOffset := 8 } rfl
  have f2 := hf 2 { name := "End", type := 3, offset := 2, embedded := false, tag := "", pkgPath := "", byteOffset := 16 } rfl
  have f3 := hf 3 { name := "Size", type := 3, offset := 3, embedded := false, tag := "", pkgPath := "", byteOffset := 24 } rfl
  simp only [cells3, cells45, List.drop_zero, List.drop_succ_cons, List.take_succ_cons, List.take_zero, List.getElem?_cons_zero, List.getElem?_cons_succ] at f0 f1 f2 f3
  have hq : ∀ (j : Nat) (t : TypeId) (d : DataW H), [45, 3, 3, 3][j]? = some t → [y0.1, y1.1, y2.1, y3.1][j]? = some d → ∀ n ∈ d.weights Try.prog t, n ≤ reachBytes := by
    intro j t d h1 h2 q hq
    refine hw q ?_
    simp only [DataW.weights, Try.underlying47]
    exact DataW.weights_mem_each (j := j) h1 h2 q hq
  obtain ⟨a0, e0, w0⟩ := O.opens_int Try.underlying45 f0 (hq 0 _ _ rfl rfl)
  obtain rfl : c0 = .int .u8 a0 := (List.cons.inj e0).1
  obtain ⟨a1, e1, w1⟩ := O.opens_int Try.underlying3 f1 (hq 1 _ _ rfl rfl)
  obtain rfl : c1 = .int .i64 a1 := (List.cons.inj e1).1
  obtain ⟨a2, e2, w2⟩ := O.opens_int Try.underlying3 f2 (hq 2 _ _ rfl rfl)
  obtain rfl : c2 = .int .i64 a2 := (List.cons.inj e2).1
  obtain ⟨a3, e3, w3⟩ := O.opens_int Try.underlying3 f3 (hq 3 _ _ rfl rfl)
  obtain rfl : c3 = .int .i64 a3 := (List.cons.inj e3).1
  exact ⟨⟨a0, a1, a2, a3⟩, k47_mk w _, w0, w1, w2, w3⟩

theorem slice_cells {P : Program} {t e : TypeId} (hu : P.underlying t = some (.slice e)) {H : Type} {enc : TypeId × Value → H} {w : World} {base : Nat} {spare : Nat → Bool} {held : Bool} {fuel : Nat} {cs : List Value} {x : DataW H × List MemPlace}
    (h : DataW.trod enc P w base spare held fuel t cs = some x) : ∃ A n c, cs = [.slice A n c] := by
  rcases open_slice hu h with ⟨hcs, _⟩ | ⟨a, len, cap, m, fu, D, Pl, hcs, _⟩
  · exact ⟨_, _, _, hcs⟩
  · exact ⟨_, _, _, hcs⟩

/-- A Forest that came in. -/
theorem open27 {H : Type} {enc : TypeId × Value → H} {W : World} {base b0 : Nat} {r : Reach} {spare : Nat → Bool} {held : Bool} {v : Value} {d : DataW H} {p : List MemPlace} (hv : Value.okWide Try.prog W r b0 27 v) (h : DataW.Trod enc Try.prog W base spare held 27 v d p) (hw : ∀ n ∈ d.weights Try.prog 27, n ≤ reachBytes) :
    ∃ (t : ByteArray) (A1 : Option Addr) (c1 : Nat) (ps : List S61) (A2 : Option Addr) (c2 : Nat) (ns : List S47), v = .agg #[.string t, .slice A1 ps.length c1, .slice A2 ns.length c2] ∧ t.size ≤ 140737488351232 ∧
      Kd.C k61 W A1 ps.length ps ∧ ps.length ≤ c1 ∧ (A1 = none → c1 = 0) ∧ (∀ x ∈ ps, B61 x) ∧ ps.length * 24 ≤ 140737488351232 ∧ Kd.C k47 W A2 ns.length ns ∧ ns.length ≤ c2 ∧ (A2 = none → c2 = 0) ∧ (∀ x ∈ ns, B47 x) ∧ ns.length * 32 ≤ 140737488351232 := by
  obtain ⟨cs, rfl, hsz⟩ := okWide_struct Try.underlying27 hv
  rw [cells27] at hsz
  obtain ⟨l⟩ := cs
  obtain ⟨c0, c1, c2, rfl⟩ : ∃ a b c, l = [a, b, c] := by
    match l, hsz with
    | [a, b, c], _ => exact ⟨a, b, c, rfl⟩
  obtain ⟨fuel, hf⟩ := h
  obtain ⟨ys, n, _, hd, _, hyl, hg⟩ := DataW.trod_struct Try.underlying27 hf
  obtain ⟨y0, y1, y2, rfl⟩ : ∃ a b c, ys = [a, b, c] := by
    match ys, hyl with
    | [a, b, c], _ => exact ⟨a, b, c, rfl⟩
  obtain ⟨rfl, rfl⟩ := Prod.mk.inj hd
  have f0 := hg 0 { name := "Text", type := 9, offset := 0, embedded := false, tag := "", pkgPath := "", byteOffset := 0 } rfl
  have f1 := hg 1 { name := "Pieces", type := 22, offset := 1, embedded := false, tag := "", pkgPath := "", byteOffset := 16 } rfl
  have f2 := hg 2 { name := "Tree", type := 25, offset := 2, embedded := false, tag := "", pkgPath := "", byteOffset := 40 } rfl
  simp only [Value.cells, cells9, cells22, cells25, List.drop_zero, List.drop_succ_cons, List.take_succ_cons, List.take_zero, List.getElem?_cons_zero, List.getElem?_cons_succ] at f0 f1 f2
  have hq : ∀ (j : Nat) (t : TypeId) (d : DataW H), [9, 22, 25][j]? = some t → [y0.1, y1.1, y2.1][j]? = some d → ∀ n ∈ d.weights Try.prog t, n ≤ reachBytes := by
    intro j t d h1 h2 q hq
    refine hw q ?_
    simp only [DataW.weights, Try.underlying27]
    exact DataW.weights_mem_each (j := j) h1 h2 q hq
  obtain ⟨t, e0, ht⟩ := O.opens_string Try.underlying9 f0 (hq 0 _ _ rfl rfl)
  obtain rfl : c0 = .string t := (List.cons.inj e0).1
  obtain ⟨A1, n1, k1, e1⟩ := slice_cells Try.underlying22 f1
  obtain rfl : c1 = .slice A1 n1 k1 := (List.cons.inj e1).1
  obtain ⟨ps, rfl, p1, p2, p3, p4, p5⟩ := O.open_row Try.underlying22 opens61 cells61 f1 (hq 1 _ _ rfl rfl)
  obtain ⟨zs, n', _, hz, _, hzl, hg2⟩ := DataW.trod_struct Try.underlying25 f2
  obtain ⟨z0, rfl⟩ : ∃ a, zs = [a] := by
    match zs, hzl with
    | [a], _ => exact ⟨a, rfl⟩
  have f3 := hg2 0 { name := "Nodes", type := 23, offset := 0, embedded := false, tag := "", pkgPath := "", byteOffset := 0 } rfl
  simp only [cells23, List.drop_zero, List.take_succ_cons, List.take_zero, List.getElem?_cons_zero] at f3
  obtain ⟨A2, n2, k2, e2⟩ := slice_cells Try.underlying23 f3
  obtain rfl : c2 = .slice A2 n2 k2 := (List.cons.inj e2).1
  have hq3 : ∀ n ∈ z0.1.weights Try.prog 23, n ≤ reachBytes := by
    intro q hq1
    refine hq 2 _ _ rfl rfl q ?_
    rw [hz]
    simp only [List.map_cons, List.map_nil, DataW.weights, Try.underlying25]
    exact DataW.weights_mem_each (j := 0) (ts := [23]) (ds := [z0.1]) rfl rfl q hq1
  obtain ⟨ns, rfl, q1, q2, q3, q4, q5⟩ := O.open_row Try.underlying23 opens47 cells47 f3 hq3
  rw [bytes61] at p5
  rw [bytes47] at q5
  exact ⟨t, A1, k1, ps, A2, k2, ns, rfl, ht, p1, p2, p3, p4, p5, q1, q2, q3, q4, q5⟩
end Go.Proofs.Ytodldpdnhcafpaa.H
