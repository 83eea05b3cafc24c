/- The law ConstTurned of package monikerlaw holds of the given program: called with any arguments that can be read as data it returns true, and its arguments read behind the call as before. Conditions: those of the given row, no others. -/
import Derived.Test.YteklmgmhkmdddaaDoorZTurned2
import Derived.Test.YteklmgmhkmdddaaDoorWMore
import Derived.SizedLaws
import Derived.ChangeSlices
import Derived.Deep.Slices
import Derived.ChangeArms
import Derived.Test.YteklmgmhkmdddaaDoorRows
import Derived.ProofKit
import Derived.LaidMore
import Derived.LaidLaws
import Derived.OpenShut
import Derived.Stop.Joined
import Derived.Test.YteklmgmhkmdddaaDoorCards
import Derived.Test.YteklmgmhkmdddaaDoorTie
import Derived.WalkKit
import Derived.ShutString
import Derived.ChangeOld
import Derived.Below
import Derived.SevenTiedAt
-- ConstTurned, plainly
namespace Go.Proofs.YteklmgmhkmdddaaDoor.Q
open Go.RowKit Go.Proofs.YteklmgmhkmdddaaDoor.S Go.Proofs.YteklmgmhkmdddaaDoorW.PrintWords Go.Proofs.YteklmgmhkmdddaaDoorW.PrintLast Go.Proofs.YteklmgmhkmdddaaDoorW.PrintMore
set_option linter.unusedSimpArgs false
set_option linter.unusedVariables false

theorem num1 (n : Int) : monikerlaw8_num.f n = some (2, false, n, ⟨#[]⟩) := rfl
theorem rightN (n : Int) : rightB 2 false n ⟨#[]⟩ = true := by
  unfold rightB
  rw [if_neg (by decide), if_pos rfl, nil_list]
  rfl
theorem binV_num (op a b : Int) (h : isBin op = true) : binV op 2 false a ⟨#[]⟩ 2 false b ⟨#[]⟩ = numV op a b := by
  unfold binV
  rw [rightN, rightN, h, if_pos (by decide), if_pos rfl, if_pos rfl]
theorem one_one : binV 32 2 false 1 ⟨#[]⟩ 2 false 1 ⟨#[]⟩ = okN 2 := by
  rw [binV_num 32 1 1 rfl]
  rfl
theorem j2_turned (k : Nat) : monikerlaw8_ConstTurned.j2 (k + 6) false = some true := by
  simp only [monikerlaw8_ConstTurned.j2]
  rw [if_neg (by simp)]
  simp only [num1, Option.bind_some]
  rw [bin_is k 32 2 false 1 ⟨#[]⟩ 2 false 1 ⟨#[]⟩ (by decide) (by decide) (by decide) (by decide), one_one]
  simp only [Option.bind_some, okN]
  rw [if_pos trivial]
  simp
theorem j1_true (op s : Int) (b : Bool) (n : Int) (t : ByteArray) (s' : Int) (b' : Bool) (n' : Int) (t' : ByteArray) (h0 : 0 ≤ op) (hn : In64 n) (hn' : In64 n') (ht : t.size + t'.size ≤ 1000000000000000000) (k : Nat) (V : V5) (hV : binV op s b n t s' b' n' t' = V) (x10 u1 : Int) (u2 : Bool) (u3 : Int) (u4 : ByteArray) :
    monikerlaw8_ConstTurned.j1 (k + 6) op V.2.2.2.2 x10 true s b n t s' b' n' t' V.1 V.2.1 V.2.2.1 V.2.2.2.1 u1 u2 u3 u4 = some true := by
  simp only [monikerlaw8_ConstTurned.j1]
  rw [if_pos trivial, bin_is k op s b n t s' b' n' t' h0 hn hn' ht, hV]
  simp only [Option.bind_some]
  rw [if_pos (by simp)]
  simp
theorem j1_false (op s : Int) (b : Bool) (n : Int) (t : ByteArray) (s' : Int) (b' : Bool) (n' : Int) (t' : ByteArray) (h0 : 0 ≤ op) (hn : In64 n) (hn' : In64 n') (ht : t.size + t'.size ≤ 1000000000000000000) (k : Nat) (V : V5) : monikerlaw8_ConstTurned.j1 (k + 7) op V.2.2.2.2 V.2.2.2.2 false s b n t s' b' n' t' V.1 V.2.1 V.2.2.1 V.2.2.2.1 V.1 V.2.1 V.2.2.1 V.2.2.2.1 = some true := by
  simp only [monikerlaw8_ConstTurned.j1]
  rw [if_neg (by simp), if_pos trivial, show (!(V.1 == V.1) || (!(V.2.1 == V.2.1) || (!(V.2.2.1 == V.2.2.1) || (!(V.2.2.2.1.toList == V.2.2.2.1.toList))))) = false by simp]
  exact j2_turned k
theorem turned_loop (op s : Int) (b : Bool) (n : Int) (t : ByteArray) (s' : Int) (b' : Bool) (n' : Int) (t' : ByteArray) (h0 : 0 ≤ op) (hn : In64 n) (hn' : In64 n') (ht : t.size + t'.size ≤ 1000000000000000000) (h1 : op ≤ 255) (V V' : V5) (hV : binV op s b n t s' b' n' t' = V) (hV' : binV op s' b' n' t' s b n t = V') (d : Nat) : ∀ (i : Nat) (k : Nat), i ≤ turnL.length → turnL.length - i = d →
    monikerlaw8_ConstTurned.l0 (k + 8 + d) op V.2.2.2.2 V'.2.2.2.2 ((turnL.take i).any fun w => (spell op).toList == w.toList) turnL (turnL.length : Int) (i : Int) s b n t s' b' n' t' V.1 V.2.1 V.2.2.1 V.2.2.2.1 V'.1 V'.2.1 V'.2.2.1 V'.2.2.2.1 = some true := by
  induction d with
  | zero =>
    intro i k hi hd
    obtain rfl : i = turnL.length := by omega
    rw [List.take_length]
    show monikerlaw8_ConstTurned.l0 (k + 7 + 1) op V.2.2.2.2 V'.2.2.2.2 (turns op) turnL (turnL.length : Int) (turnL.length : Int) s b n t s' b' n' t' V.1 V.2.1 V.2.2.1 V.2.2.2.1 V'.1 V'.2.1 V'.2.2.1 V'.2.2.2.1 = some true
    simp only [monikerlaw8_ConstTurned.l0]
    rw [if_neg (by omega)]
    have hj : ∀ h3 : ¬ (s = 3 ∧ op = 32), monikerlaw8_ConstTurned.j1 (k + 7) op V.2.2.2.2 V'.2.2.2.2 (!turns op) s b n t s' b' n' t' V.1 V.2.1 V.2.2.1 V.2.2.2.1 V'.1 V'.2.1 V'.2.2.1 V'.2.2.2.1 = some true := by
      intro h3
      cases hT : turns op
      · exact j1_true op s b n t s' b' n' t' h0 hn hn' ht (k + 1) V hV _ _ _ _ _
      · have : V' = V := by rw [← hV, ← hV']; exact (binV_turn op s b n t s' b' n' t' (by rw [← turns_is op h0 h1]; exact hT) h3).symm
        subst this
        exact j1_false op s b n t s' b' n' t' h0 hn hn' ht k V'
    by_cases hs : s = 3
    · rw [if_pos hs]
      by_cases ho : op = 32
      · rw [if_pos ho]
        exact j1_true op s b n t s' b' n' t' h0 hn hn' ht (k + 1) V hV _ _ _ _ _
      · rw [if_neg ho]
        exact hj (fun h => ho h.2)
    · rw [if_neg hs]
      exact hj (fun h => hs h.1)
  | succ d ih =>
    intro i k hi hd
    have hil : i < turnL.length := by omega
    show monikerlaw8_ConstTurned.l0 (k + 8 + d + 1) op V.2.2.2.2 V'.2.2.2.2 ((turnL.take i).any fun w => (spell op).toList == w.toList) turnL (turnL.length : Int) (i : Int) s b n t s' b' n' t' V.1 V.2.1 V.2.2.1 V.2.2.2.1 V'.1 V'.2.1 V'.2.2.1 V'.2.2.2.1 = some true
    have hnext := ih (i + 1) k (by omega) (by omega)
    rw [List.take_succ_eq_append_getElem hil, List.any_append] at hnext
    simp only [monikerlaw8_ConstTurned.l0]
    have hl7 : turnL.length = 7 := rfl
    rw [if_pos (by omega), if_pos (by omega), if_pos (by omega), show wrap64 ((i : Int) + 1) = ((i + 1 : Nat) : Int) by unfold wrap64; omega]
    cases ha : ((turnL.take i).any fun w => (spell op).toList == w.toList)
    · rw [if_neg (by simp), w64 (show In64 op from ⟨by omega, by omega⟩), show k + 8 + d = (k + 7 + d) + 1 by omega, Spell_is _ op h0 h1]
      simp only [Option.bind_some]
      have hrd : rdOf ByteArray.empty turnL (i : Int) = turnL[i] := by
        unfold rdOf
        simp [List.getD_eq_getElem?_getD, hil]
      rw [hrd]
      rw [ha] at hnext
      rw [show (k + 7 + d) + 1 = k + 8 + d by omega]
      simpa using hnext
    · rw [if_pos rfl]
      rw [ha, Bool.true_or] at hnext
      exact hnext
theorem turned_is (op s : Int) (b : Bool) (n : Int) (t : ByteArray) (s' : Int) (b' : Bool) (n' : Int) (t' : ByteArray) (h0 : 0 ≤ op) (h1 : op ≤ 255) (hn : In64 n) (hn' : In64 n') (ht : t.size + t'.size ≤ 1000000000000000000) :
    monikerlaw8_ConstTurned.f 15 op s b n t s' b' n' t' = some true := by
  unfold monikerlaw8_ConstTurned.f
  rw [bin_is 10 op s b n t s' b' n' t' h0 hn hn' ht, bin_is 10 op s' b' n' t' s b n t h0 hn' hn (by omega)]
  simp only [Option.bind_some]
  exact turned_loop op s b n t s' b' n' t' h0 hn hn' ht h1 _ _ rfl rfl 7 0 0 (by decide) rfl
end Go.Proofs.YteklmgmhkmdddaaDoor.Q

namespace Go.Proofs.YteklmgmhkmdddaaDoor.O
open Go.ChangeShapes Go.WideShapes Go.Deep Go.Proofs.YteklmgmhkmdddaaDoorW.PrintWords

/-- What a value of type t that came in is, as a Lean value of kind d; and what is known of it. -/
def Opens {α : Type} (P : Program) (t : TypeId) (d : Kd α) (B : α → Prop) : Prop :=
  ∀ {H : Type} {enc : TypeId × Value → H} {w : World} {base : Nat} {spare : Nat → Bool} {held : Bool} {fuel : Nat} {cs : List Value} {x : DataW H × List MemPlace},
    DataW.trod enc P w base spare held fuel t cs = some x → (∀ n ∈ x.1.weights P t, n ≤ reachBytes) → ∃ a, d.K w a cs ∧ B a

theorem opens_int {P : Program} {t : TypeId} {k : IntKind} (hu : P.underlying t = some (.int k)) : Opens P t (Kd.int k) (fun n => (Lit.int k n).wf = true) := fun h _ => by
  obtain ⟨n, rfl, rfl, hw⟩ := DataW.trod_int hu h
  exact ⟨n, rfl, hw⟩
theorem opens_bool {P : Program} {t : TypeId} (hu : P.underlying t = some .bool) : Opens P t Kd.bool (fun _ => True) := fun h _ => by
  obtain ⟨n, rfl, rfl⟩ := DataW.trod_bool hu h
  exact ⟨n, rfl, trivial⟩
theorem opens_string {P : Program} {t : TypeId} (hu : P.underlying t = some .string) : Opens P t Kd.string (fun s => s.size ≤ 140737488351232) := fun h hw => by
  obtain ⟨s, rfl, rfl, _⟩ := DataW.trod_string hu h
  refine ⟨s, rfl, ?_⟩
  have := hw s.data.toList.length (by simp [DataW.weights])
  rw [Array.length_toList] at this
  exact this

end Go.Proofs.YteklmgmhkmdddaaDoor.O

namespace Go.Proofs.YteklmgmhkmdddaaDoor.H
open Go.ChangeShapes Go.WideShapes Go.Deep Go.Proofs.YteklmgmhkmdddaaDoorW.PrintWords Go.Proofs.YteklmgmhkmdddaaDoor.F

theorem cells2 : Tryd.prog.cellsOf 2 = 1 := by kernel_rfl
theorem cells4 : Tryd.prog.cellsOf 4 = 1 := by kernel_rfl
theorem cells9 : Tryd.prog.cellsOf 9 = 1 := by kernel_rfl
theorem cells23 : Tryd.prog.cellsOf 23 = 1 := by kernel_rfl
theorem cells25 : Tryd.prog.cellsOf 25 = 4 := by kernel_rfl
theorem open25 {H : Type} {enc : TypeId × Value → H} {W : World} {base b0 : Nat} {r : Reach} {spare : Nat → Bool} {held : Bool} {v : Value} {d : DataW H} {p : List MemPlace} (hv : Value.okWide Tryd.prog W r b0 25 v) (h : DataW.Trod enc Tryd.prog W base spare held 25 v d p) (hw : ∀ n ∈ d.weights Tryd.prog 25, n ≤ reachBytes) :
    ∃ (a0 : Int) (a1 : Bool) (a2 : Int) (a3 : ByteArray), v = .agg #[.int .u8 a0, .bool a1, .int .i64 a2, .string a3] ∧ (Lit.int .u8 a0).wf = true ∧ True ∧ (Lit.int .i64 a2).wf = true ∧ a3.size ≤ 140737488351232 := by
  obtain ⟨cs, rfl, hsz⟩ := okWide_struct Tryd.underlying25 hv
  rw [cells25] at hsz
  obtain ⟨l⟩ := cs
  obtain ⟨c0, c1, c2, c3, rfl⟩ : ∃ c0 c1 c2 c3, l = [c0, c1, c2, c3] := by
    match l, hsz with
    | [c0, c1, c2, c3], _ => exact ⟨c0, c1, c2, c3, rfl⟩
  obtain ⟨fuel, hf⟩ := h
  obtain ⟨ys, n, _, hd, _, hyl, hg⟩ := DataW.trod_struct Tryd.underlying25 hf
  obtain ⟨y0, y1, y2, y3, rfl⟩ : ∃ y0 y1 y2 y3, ys = [y0, y1, y2, y3] := by
    match ys, hyl with
    | [y0, y1, y2, y3], _ => exact ⟨y0, y1, y2, y3, rfl⟩
  obtain ⟨rfl, rfl⟩ := Prod.mk.inj hd
  have f0 := hg 0 { name := "Sort", type := 23, offset := 0, embedded := false, tag := "", pkgPath := "", byteOffset := 0 } rfl
  have f1 := hg 1 { name := "Bool", type := 4, offset := 1, embedded := false, tag := "", pkgPath := "", byteOffset := 1 } rfl
  have f2 := hg 2 { name := "Int", type := 2, offset := 2, embedded := false, tag := "", pkgPath := "", byteOffset := 8 } rfl
  have f3 := hg 3 { name := "Text", type := 9, offset := 3, embedded := false, tag := "", pkgPath := "", byteOffset := 16 } rfl
  simp only [Value.cells, cells2, cells4, cells9, cells23, List.drop_zero, List.drop_succ_cons, List.take_succ_cons, List.take_zero, List.getElem?_cons_zero, List.getElem?_cons_succ] at f0 f1 f2 f3
  have hq : ∀ (j : Nat) (t : TypeId) (d : DataW H), [23, 4, 2, 9][j]? = some t → [y0.1, y1.1, y2.1, y3.1][j]? = some d → ∀ n ∈ d.weights Tryd.prog t, n ≤ reachBytes := by
    intro j t d h1 h2 q hq
    refine hw q ?_
    simp only [DataW.weights, Tryd.underlying25]
    exact DataW.weights_mem_each (j := j) h1 h2 q hq
  obtain ⟨a0, e0, w0⟩ := O.opens_int Tryd.underlying23 f0 (hq 0 _ _ rfl rfl)
  obtain rfl : c0 = .int .u8 a0 := (List.cons.inj e0).1
  obtain ⟨a1, e1, w1⟩ := O.opens_bool Tryd.underlying4 f1 (hq 1 _ _ rfl rfl)
  obtain rfl : c1 = .bool a1 := (List.cons.inj e1).1
  obtain ⟨a2, e2, w2⟩ := O.opens_int Tryd.underlying2 f2 (hq 2 _ _ rfl rfl)
  obtain rfl : c2 = .int .i64 a2 := (List.cons.inj e2).1
  obtain ⟨a3, e3, w3⟩ := O.opens_string Tryd.underlying9 f3 (hq 3 _ _ rfl rfl)
  obtain rfl : c3 = .string a3 := (List.cons.inj e3).1
  exact ⟨a0, a1, a2, a3, rfl, w0, w1, w2, w3⟩
end Go.Proofs.YteklmgmhkmdddaaDoor.H

-- The table 'signs' as the row's condition lays it
namespace Go.Proofs.YteklmgmhkmdddaaDoor.H
open Go.ChangeShapes Go.WideShapes Go.ChangeAt Go.RowKit Go.Proofs.YteklmgmhkmdddaaDoor.S
set_option linter.unusedVariables false
set_option linter.unusedSimpArgs false

theorem gSigns : Tryd.prog.globalNamed "moniker/consts.signs" = some 0 := by kernel_rfl
theorem tSigns : (Tryd.prog.globals[0]?).map (·.type) = some 60 := by kernel_rfl
def lookB (l : List (DataW Unit)) (j : Nat) : Option Bool := match l[j]? with | some (.lit (.bool b)) => some b | _ => none
def look (d : DataW Unit) (op j : Nat) : Option Bool := match d with | .agg l => (match l[op]? with | some (.agg m) => lookB m j | _ => none) | _ => none
def lookOk : Bool := (List.range 80).all fun op => (List.range 3).all fun j => look Rows.laid_moniker_consts_signs op j == some (sgB (op : Int) (j : Int))
theorem look_ok : lookOk = true := by kernel_rfl
theorem look_at (op j : Nat) (h : op < 80) (hj : j < 3) : look Rows.laid_moniker_consts_signs op j = some (sgB (op : Int) (j : Int)) := by
  have h1 := List.all_eq_true.1 look_ok op (List.mem_range.2 h)
  have h2 := List.all_eq_true.1 h1 j (List.mem_range.2 hj)
  exact beq_iff_eq.1 h2
theorem sgc59 : Tryd.prog.cellsOf 59 = 3 := by kernel_rfl
theorem sgc4 : Tryd.prog.cellsOf 4 = 1 := by kernel_rfl
theorem sg_of_laid {W : World} (h : laidMetH Tryd.prog [("moniker/consts.signs", Rows.laid_moniker_consts_signs)] W) : SG W := by
  rw [MakeChecks.laidMetH_plain _ _ _ (by kernel_rfl)] at h
  obtain ⟨ps, ⟨g0, t0, cs0, f0, p0, q0, hg0, ht0, hv0, hd0, _, _⟩, _, _⟩ := h
  obtain rfl := Option.some.inj (gSigns.symm.trans hg0)
  obtain rfl := Option.some.inj (tSigns.symm.trans ht0)
  obtain ⟨xs, m1, rfl, hx1, hlen, hn, hel⟩ := DataW.trod_array Tryd.underlying60 hd0
  simp only [Prod.mk.injEq] at hx1
  intro op j hop hj
  have e1 := hel op hop
  rw [List.getElem?_eq_getElem (by omega), sgc59] at e1
  obtain ⟨ys, m2, rfl, hy, hlen2, hn2, hel2⟩ := DataW.trod_array Tryd.underlying59 e1
  have e2 := hel2 j hj
  rw [List.getElem?_eq_getElem (by omega), sgc4] at e2
  obtain ⟨b, eb, ey⟩ := DataW.trod_bool Tryd.underlying4 e2
  have hb : look Rows.laid_moniker_consts_signs op j = some b := by
    rw [hx1.1]
    have a1 : (xs.map (·.1))[op]? = some (DataW.agg (ys.map (·.1))) := by
      rw [List.getElem?_map, List.getElem?_eq_getElem (by omega), hy]
      rfl
    have a2 : (ys.map (·.1))[j]? = some (DataW.lit (.bool b)) := by
      rw [List.getElem?_map, List.getElem?_eq_getElem (by omega), ey]
      rfl
    unfold look lookB
    simp only [a1, a2]
  rw [look_at op j hop hj] at hb
  have hcell := World.var?_cell hg0 hv0 (op * 3 + j)
  rw [hcell]
  have hc : cs0.toList[op * 3 + j]? = some (.bool b) := by
    have e3 : ((cs0.toList.drop (op * 3)).take 3).drop (j * 1) = ((cs0.toList.drop (op * 3)).take 3).drop j := by rw [Nat.mul_one]
    rw [e3] at eb
    have e4 : (((cs0.toList.drop (op * 3)).take 3).drop j)[0]? = some (.bool b) := by
      have : ((((cs0.toList.drop (op * 3)).take 3).drop j).take 1)[0]? = some (.bool b) := by rw [eb]; rfl
      rwa [List.getElem?_take_of_lt (by omega)] at this
    rw [List.getElem?_drop, List.getElem?_take_of_lt (by omega), List.getElem?_drop] at e4
    simpa using e4
  rw [← Option.some.inj hb] at hc
  simpa using hc
end Go.Proofs.YteklmgmhkmdddaaDoor.H

-- The law ConstTurned's walk: printed; what it computes is true
namespace Go.Proofs.YteklmgmhkmdddaaDoor.L
open Go.RowKit Go.Proofs.YteklmgmhkmdddaaDoor.S Go.Proofs.YteklmgmhkmdddaaDoorW.PrintWords Go.Proofs.YteklmgmhkmdddaaDoorW.PrintLast
set_option linter.unusedVariables false
theorem in64 {n : Int} (h : (Lit.int .i64 n).wf = true) : Q.In64 n := by
  have := bounds_i64 h
  exact ⟨by omega, by omega⟩
theorem turned_walk (op : Int) (s : Int) (b : Bool) (n : Int) (t : ByteArray) (s' : Int) (b' : Bool) (n' : Int) (t' : ByteArray) (w : World) (hop : (Lit.int .u8 op).wf = true) (_ : (Lit.int .u8 s).wf = true) (hn : (Lit.int .i64 n).wf = true) (ht : t.size ≤ 140737488351232)
    (_ : (Lit.int .u8 s').wf = true) (hn' : (Lit.int .i64 n').wf = true) (ht' : t'.size ≤ 140737488351232) (hs : SG w) :
    Calls Tryd.prog 3 #[.int .u8 op, .agg #[.int .u8 s, .bool b, .int .i64 n, .string t], .agg #[.int .u8 s', .bool b', .int .i64 n', .string t']] w fun e w' => e = .returned (.bool true) ∧ Below w.heap.size w w' := by
  have h2 := bounds_u8 hop
  exact monikerlaw8_ConstTurned.calls 15 op s b n t s' b' n' t' true w (Q.turned_is op s b n t s' b' n' t' (by omega) (by omega) (in64 hn) (in64 hn') (by omega)) hs
end Go.Proofs.YteklmgmhkmdddaaDoor.L


namespace Go.Proofs.YteklmgmhkmdddaaDoor.constTurned
open Go.ChangeShapes Go.WideShapes Go.ChangeAt Go.RowKit Go.Proofs.YteklmgmhkmdddaaDoor
open Go.ChangeMaps (open_string shut_string)
set_option linter.unusedVariables false
theorem own : ownKnob Tryd.prog.godebug = none := by kernel_rfl
theorem laidOut : laidOutB Tryd.prog = true := by kernel_rfl
theorem door_met (os : Os) (args : Array Value) : laidMetH Tryd.prog [("moniker/consts.signs", Rows.laid_moniker_consts_signs)] ((World.doorLaid Tryd.prog 20 os).forCall (fun _ _ => 0) ⟨#[], args, []⟩).memory :=
  laidMetH_of_parts3 (fuel := 8) (laidMet_of_run' 8 (by kernel_rfl) (by kernel_rfl)) (by kernel_rfl) (by kernel_rfl)
set_option maxRecDepth 100000 in
theorem lifted (os : Os) (started : os.Started) (H : Type) (enc : TypeId × Value → H) :
    ReturnsInHanded {} Tryd.checked os 3 .any (fun w args => (Rows.constTurnedSpec.pre enc Tryd.prog Tryd.f3 [] false w args ∧ laidMetH Tryd.prog [("moniker/consts.signs", Rows.laid_moniker_consts_signs)] w) ∧ sizedMet enc Tryd.prog Tryd.f3 (OpenSpec.ofChange Rows.constTurnedSpec) false w args) (Rows.constTurnedSpec.post enc Tryd.prog Tryd.f3 false true false false) := by
  refine returnsInHanded_of_change_and (C := Tryd.checked) (X := fun w _ => laidMetH Tryd.prog [("moniker/consts.signs", Rows.laid_moniker_consts_signs)] w) (fun _ _ _ hh h => h.of_heap hh) own started (by kernel_rfl) Tryd.func3
    (ChangeSpec.witness_shaped (enc := enc) (C := Tryd.checked) (os := os) (X := fun w _ => laidMetH Tryd.prog [("moniker/consts.signs", Rows.laid_moniker_consts_signs)] w) false (World.doorLaid Tryd.prog 20 os) #[.int .u8 0, .agg #[.int .u8 0, .bool false, .int .i64 0, .string ByteArray.empty], .agg #[.int .u8 0, .bool false, .int .i64 0, .string ByteArray.empty]] 8 rfl (World.shaped_of_RefB (by kernel_rfl) (by kernel_rfl)) (by kernel_rfl) (by kernel_rfl) (by kernel_rfl) (door_met os _)) ?_
  intro W base args ds gs before hval0 hW hcnd hsz0 hLaid _
  have hsz : (DataW.weightsEach Tryd.prog (Tryd.f3.params.toList ++ Rows.constTurnedSpec.plain.varTypes Tryd.prog) (ds ++ gs)).all (· ≤ reachBytes) = true := hsz0
  have hval : ∀ (j : Nat) t v, Tryd.f3.params[j]? = some t → args[j]? = some v → Value.okWide Tryd.prog W .any base t v := hval0
  have hW' := hW
  obtain ⟨p, q, hA0, hV, rfl, hfz, hnd⟩ := hW
  have hA : DataW.TrodAll enc Tryd.prog W 0 (fun _ => true) true Tryd.f3.params.toList args.toList ds p := hA0
  rw [Tryd.params3] at hA hval hsz
  obtain ⟨v0, vs0, d0, ds0, p0, q0, hargs, rfl, rfl, h0, r0⟩ := trodAll_cons hA
  obtain ⟨v1, vs1, d1, ds1, p1, q1, rfl, rfl, rfl, h1, r1⟩ := trodAll_cons r0
  obtain ⟨v2, vs2, d2, ds2, p2, q2, rfl, rfl, rfl, h2, r2⟩ := trodAll_cons r1
  obtain ⟨rfl, rfl, rfl⟩ := trodAll_nil r2
  obtain rfl : args = #[v0, v1, v2] := by cases args; simp_all
  obtain ⟨rfl, rfl⟩ := trodVars_none hV
  obtain ⟨a0, rfl, rfl, rfl, w0⟩ := open_int Tryd.underlying22 (hval 0 22 v0 rfl rfl) h0
  have k1 := h1
  have lt1 : ∀ x ∈ p1, x.block < W.heap.size := by obtain ⟨m, hm⟩ := k1; exact DataW.trod_lt m _ _ _ hm
  have hq1 : ∀ n ∈ DataW.weights Tryd.prog 25 d1, n ≤ reachBytes := fun n hn => of_decide_eq_true (List.all_eq_true.1 hsz n (DataW.weights_mem_each (j := 1) rfl rfl n hn))
  obtain ⟨x1_0, x1_1, x1_2, x1_3, rfl, hx1_0, hx1_1, hx1_2, hx1_3⟩ := Go.Proofs.YteklmgmhkmdddaaDoor.H.open25 (hval 1 25 v1 rfl rfl) h1 hq1
  have k2 := h2
  have lt2 : ∀ x ∈ p2, x.block < W.heap.size := by obtain ⟨m, hm⟩ := k2; exact DataW.trod_lt m _ _ _ hm
  have hq2 : ∀ n ∈ DataW.weights Tryd.prog 25 d2, n ≤ reachBytes := fun n hn => of_decide_eq_true (List.all_eq_true.1 hsz n (DataW.weights_mem_each (j := 2) rfl rfl n hn))
  obtain ⟨x2_0, x2_1, x2_2, x2_3, rfl, hx2_0, hx2_1, hx2_2, hx2_3⟩ := Go.Proofs.YteklmgmhkmdddaaDoor.H.open25 (hval 2 25 v2 rfl rfl) h2 hq2
  clear hA0 hval0 hsz0 hsz
  refine (L.turned_walk a0 x1_0 x1_1 x1_2 x1_3 x2_0 x2_1 x2_2 x2_3 W w0 hx1_0 hx1_2 hx1_3 hx2_0 hx2_2 hx2_3 (Go.Proofs.YteklmgmhkmdddaaDoor.H.sg_of_laid hLaid)).mono fun e W' ⟨he, bel⟩ => ?_
  subst he
  exact ⟨_, rfl, _, _, _, [], _, [], hW', trodAll_mk1 (shut_bool Tryd.underlying4 _), (trodAll_cons_mk (shut_int Tryd.underlying22 w0) (trodAll_cons_mk (Below.trod laidOut (by kernel_rfl) (of_decide_eq_true (by kernel_rfl)) k1 bel lt1) (trodAll_cons_mk (Below.trod laidOut (by kernel_rfl) (of_decide_eq_true (by kernel_rfl)) k2 bel lt2) trodAll_mk0))), rfl, bel.frame _, fun h => by cases h⟩
theorem over : Rows.constTurnedRow.holds Tryd.pinned (OpenSpec.ofChange Rows.constTurnedSpec) :=
  OpenClaim.holds_of_wide 3 Tryd.f3 rfl rfl rfl rfl rfl rfl rfl ⟨rfl, rfl, rfl, rfl, rfl⟩ rfl rfl rfl rfl rfl (by kernel_rfl) Tryd.func3 (by kernel_rfl)
    (of_decide_eq_true (by kernel_rfl)) (by unfold Func.isWrapper; first | (rw [if_pos (by decide +kernel)]; kernel_rfl) | (rw [if_neg (by decide +kernel)]; exact ⟨rfl, rfl⟩))
    (fun os started H enc _ => lifted os started H enc)
set_option maxRecDepth 100000 in
theorem proved : Rows.ConstTurnedCardSaid :=
  Claim7.holds_tied_plain_at .later [] [.data] true (true, "084c5a8330fa9b7c319350bbe20c71b9281869b36a6e89ffd28a9c2889556acc") false
    over (fun _ h => by cases h) (by kernel_rfl) (fun _ h => by cases h) constTurned_row_tie rfl ⟨rfl, rfl⟩ (by kernel_rfl) rfl
    (fun f fn hf hfn => by
      obtain rfl : f = 3 := Option.some.inj ((show Tryd.prog.funcNamed "moniker/monikerlaw8.ConstTurned" = some 3 by kernel_rfl).symm.trans hf) |>.symm
      obtain rfl : fn = Tryd.f3 := (Option.some.inj (Tryd.func3.symm.trans hfn)).symm
      exact ⟨by kernel_rfl, fun j t ht => by
        rw [Tryd.params3] at ht
        have hm : t ∈ [22, 25, 25] := by simpa using Array.mem_of_getElem? ht
        have hall : ([22, 25, 25].all fun u => !Tryd.prog.wantsStandIn u) = true := by kernel_rfl
        exact (show Tryd.prog.wantsStandIn t = false by simpa using List.all_eq_true.1 hall t hm)⟩)
    (by kernel_rfl)
#print axioms proved
end Go.Proofs.YteklmgmhkmdddaaDoor.constTurned
namespace Go.Proofs.YteklmgmhkmdddaaDoor
/-- The card, under a short name, for the claim. -/
theorem constTurned_holds : Rows.ConstTurnedCardSaid := constTurned.proved
end Go.Proofs.YteklmgmhkmdddaaDoor
