/- The law TreeBlind of package monikerlaw holds of the given program: called with any arguments that can be read as data, together of bulk at most 1048576, it returns true, and its arguments read behind the call as before. Conditions: those of the given row '..Upto', no others. -/
import Derived.Test.YtodldpdnhcafpaaZBlind3
import Derived.Test.YtodldpdnhcafpaaRows
import Derived.SizedLaws
import Derived.JoinedCond
import Derived.ChangeArms
import Derived.WalkKit
import Derived.ProofKit
import Derived.OpenShut
import Derived.ShutString
import Derived.ChangeOld
import Derived.Below
namespace Go.Proofs.Ytodldpdnhcafpaa.O
open Go.ChangeShapes Go.WideShapes Go.Deep Go.Proofs.YtodldpdnhcafpaaW.PrintWords Go.Proofs.Ytodldpdnhcafpaa
set_option linter.unusedVariables false

section
variable {H : Type} {enc : TypeId × Value → H}
/-- The wrap of a row with a condition of its specification's own, the reach handed on. -/
theorem returns_upto {a : Assume} {C : Checked} {os : Os} {f : FuncId} {fn : Func} {s : OpenSpec} {k : (H : Type) → List (DataW H) → Bool} (hk : s.cond = some k) {F : Stop.Interp} {conds : List PathCond} {apart fresh handsOn again : Bool}
    (own : ownKnob C.prog.godebug = none) (started : os.Started) (noInit : C.prog.inits.idxOf? f = none) (hfn : C.prog.funcs[f]? = some fn)
    (witness : ∃ (w : World) (tape : Tape) (i : Input), w.os = os ∧ (w.forCall tape i).Shaped C.prog ∧ i.vars = [] ∧ Input.okWide C.prog (w.forCall tape i) .any w.heap.size f i ∧
      s.pre6 enc C.prog fn conds apart (w.forCall tape i).memory i.args ∧ a.holds C.prog (lone (Frame.enter C.prog f i.args .normal) [] (w.forCall tape i)))
    (contract : ∀ (W : World) (base : Nat) (args : Array Value) (ds gs : List (DataW H)) (before : List MemPlace),
      (∀ (j : Nat) t v, fn.params[j]? = some t → args[j]? = some v → Value.okWide C.prog W .any base t v) →
      DataW.Whole enc C.prog fn.params.toList s.vars apart W args.toList ds gs before →
      conds.all (PathCond.test C.prog ⟨fn.params.toList, ds, s.bare.plain.varTypes C.prog, gs⟩) = true → k H (ds ++ gs) = true →
      (DataW.weightsEach C.prog (fn.params.toList ++ s.bare.plain.varTypes C.prog) (ds ++ gs)).all (· ≤ reachBytes) = true →
      a.holds C.prog (lone (Frame.enter C.prog f args .normal) [] W) →
      Calls C.prog f args W fun e W' => ∃ v, e = .returned v ∧ (s.at F).post enc C.prog fn apart fresh handsOn again W args v W') :
    ReturnsInHanded a C os f .any (s.pre6 enc C.prog fn conds apart) ((s.at F).post enc C.prog fn apart fresh handsOn again) := by
  refine returnsInHanded_of_calls own started noInit witness ?_
  intro w tape i _ _ _ hok hpre hholds
  obtain ⟨_, _, _, fn', hfn', _, _, _, _, hval⟩ := hok
  have e : fn' = fn := Option.some.inj (hfn'.symm.trans hfn)
  subst e
  obtain ⟨ds, gs, before, hw, hc, hkk⟩ := (OpenSpec.pre_some hk conds apart _ _).1 hpre.1
  have hw' := DataW.Whole.of_heap (w' := w.forCall tape i) (by rfl) hw
  have hz := hpre.2
  refine (contract (w.forCall tape i) w.heap.size i.args ds gs before hval hw' hc hkk (hz.weights hw) hholds).mono fun e W' ⟨v, he, hp⟩ => ?_
  subst he
  exact ChangeSpec.post_blind hp
end

theorem witnessU {H : Type} {enc : TypeId × Value → H} {C : Checked} {os : Os} {f : FuncId} {fn : Func} {s : OpenSpec} {k : (H : Type) → List (DataW H) → Bool} (hk : s.cond = some k) {conds : List PathCond} {apart : Bool} (modest : Bool) (i : Input) (fuel : Nat)
    (hv : (World.plainHolding C.prog os i).variablesB C.prog = true)
    (hr : ((World.plainHolding C.prog os i).heap.toList.drop C.prog.globals.size).take ((begin C.prog (fun _ _ => 0) default).world.heap.size - C.prog.globals.size) =
      (begin C.prog (fun _ _ => 0) default).world.heap.toList.drop C.prog.globals.size)
    (hok : Input.okWideB C.prog (World.plainHolding C.prog os i) f ⟨#[], i.args, []⟩ = true)
    (hB : (match DataW.whole enc C.prog (World.plainHolding C.prog os i).memory fn.params.toList s.vars apart i.args.toList fuel with
      | some x => conds.all (PathCond.test C.prog ⟨fn.params.toList, x.1, s.bare.plain.varTypes C.prog, x.2.1⟩) && k H (x.1 ++ x.2.1)
      | none => false) = true)
    (hsz : s.bare.sizedB enc C.prog fn apart (World.plainHolding C.prog os i).memory i.args fuel = true) :
    ∃ (w : World) (tape : Tape) (i : Input), w.os = os ∧ (w.forCall tape i).Shaped C.prog ∧ i.vars = [] ∧ Input.okWide C.prog (w.forCall tape i) .any w.heap.size f i ∧
      s.pre6 enc C.prog fn conds apart (w.forCall tape i).memory i.args ∧ ({ modest := modest } : Assume).holds C.prog (lone (Frame.enter C.prog f i.args .normal) [] (w.forCall tape i)) := by
  cases hx : DataW.whole enc C.prog (World.plainHolding C.prog os i).memory fn.params.toList s.vars apart i.args.toList fuel with
  | none => rw [hx] at hB; cases hB
  | some x =>
    rw [hx] at hB
    have h := (Bool.and_eq_true _ _).mp hB
    exact OpenSpec.witness hk modest i fuel hv hr hok hx h.1 h.2 hsz

/-- As Opens; and the value is no heavier than the reading's bulk. -/
def OpensU {α : Type} (P : Program) (t : TypeId) (d : Kd α) (B : α → Prop) (m : α → Nat) : Prop :=
  ∀ {H : Type} {enc : TypeId × Value → H} {w : World} {base : Nat} {spare : Nat → Bool} {held : Bool} {fuel : Nat} {cs : List Value} {x : DataW H × List MemPlace},
    DataW.trod enc P w base spare held fuel t cs = some x → (∀ n ∈ x.1.weights P t, n ≤ reachBytes) → ∃ a, d.K w a cs ∧ B a ∧ m a ≤ Rows.uptoBulk x.1

theorem opens_stringU {P : Program} {t : TypeId} (hu : P.underlying t = some .string) : OpensU P t Kd.string (fun s => s.size ≤ 140737488351232) (fun s => s.size + 1) := fun h hw => by
  obtain ⟨s, rfl, rfl, _⟩ := DataW.trod_string hu h
  have e : s.data.toList.length = s.size := by rw [Array.length_toList]; rfl
  refine ⟨s, rfl, ?_, by simp only [Rows.uptoBulk]; omega⟩
  have := hw s.data.toList.length (by simp [DataW.weights])
  rw [e] at this
  exact this

theorem bulkAll_snoc {H : Type} : ∀ (l : List (DataW H)) (d : DataW H), Rows.uptoBulkAll (l ++ [d]) = Rows.uptoBulkAll l + Rows.uptoBulk d
  | [], d => by simp [Rows.uptoBulkAll]
  | x :: l, d => by simp only [List.cons_append, Rows.uptoBulkAll, bulkAll_snoc l d]; omega
def sumM {α : Type} (m : α → Nat) : List α → Nat
  | [] => 0
  | a :: l => m a + sumM m l
theorem sumM_snoc {α : Type} (m : α → Nat) : ∀ (l : List α) (a : α), sumM m (l ++ [a]) = sumM m l + m a
  | [], a => by simp [sumM]
  | x :: l, a => by simp only [List.cons_append, sumM, sumM_snoc m l a]; omega

theorem open_rowU {α : Type} {P : Program} {t e : TypeId} {d : Kd α} {B : α → Prop} {M : α → Nat} (hu : P.underlying t = some (.slice e)) (he : OpensU P e d B M) (hc : P.cellsOf e = d.sz)
    {H : Type} {enc : TypeId × Value → H} {w : World} {base : Nat} {spare : Nat → Bool} {held : Bool} {fuel : Nat} {A : Option Addr} {n c : Nat} {x : DataW H × List MemPlace}
    (h : DataW.trod enc P w base spare held fuel t [.slice A n c] = some x) (hw : ∀ n ∈ x.1.weights P t, n ≤ reachBytes) :
    ∃ xs : List α, xs.length = n ∧ d.C w A n xs ∧ n ≤ c ∧ (A = none → c = 0) ∧ (∀ a ∈ xs, B a) ∧ n * P.bytesOf e ≤ 140737488351232 ∧ sumM M xs + 1 ≤ Rows.uptoBulk x.1 := by
  rcases open_slice hu h with ⟨hcs, rfl⟩ | ⟨a, len, cap, m, fu, D, Pl, hcs, hb, hl, hm, hmm, rfl, hel⟩
  · simp only [List.cons.injEq, Value.slice.injEq, and_true] at hcs
    obtain ⟨rfl, rfl, rfl⟩ := hcs
    exact ⟨[], rfl, ⟨rfl, by omega, fun h0 => absurd h0 (by omega)⟩, by omega, fun _ => rfl, (fun a ha => by cases ha), by omega, by simp [sumM, Rows.uptoBulk]⟩
  · simp only [List.cons.injEq, Value.slice.injEq, and_true] at hcs
    obtain ⟨rfl, rfl, rfl⟩ := hcs
    have hlm : n ≤ m := by rw [hmm]; split <;> omega
    have hex : ∀ i, i < n → ∃ v : α, (∃ cs, d.K w v cs ∧ ∀ j u, cs[j]? = some u → w.cell? (a.add (i * d.sz + j)) = some u) ∧ B v ∧ M v ≤ Rows.uptoBulk (D i) := by
      intro i hi
      obtain ⟨cs', hc1, hc2⟩ := hel i (by omega)
      have hmem : D i ∈ (List.range n).map D := List.mem_map.2 ⟨i, List.mem_range.2 hi, rfl⟩
      obtain ⟨v, hv, hB, hM⟩ := he hc2 (fun q hq => hw q (by
        simp only [DataW.weights, hu, List.mem_cons, List.mem_append]
        exact .inr (.inl (mem_weightsAll hmem q hq))))
      refine ⟨v, ⟨cs', hv, fun j u hj => ?_⟩, hB, hM⟩
      obtain ⟨_, hcl, hat⟩ := World.cells?_some hc1
      have hjl : j < cs'.length := (List.getElem?_eq_some_iff.1 hj).1
      have := hat j (by omega)
      rw [hc] at this
      rw [← Go.Deep.add_add, this, hj]
    have key : ∀ k, k ≤ n → ∃ xs : List α, xs.length = k ∧ (∀ j p, xs[j]? = some p → (∃ cs, cs.length = d.sz ∧ d.K w p cs ∧ ∀ i u, cs[i]? = some u → w.cell? (a.add (j * d.sz + i)) = some u) ∧ B p) ∧ sumM M xs ≤ Rows.uptoBulkAll ((List.range k).map D) := by
      intro k
      induction k with
      | zero => intro _; exact ⟨[], rfl, fun j p hj => by simp at hj, by simp [sumM]⟩
      | succ k ih =>
        intro hk
        obtain ⟨xs, hx, hxs, hsum⟩ := ih (by omega)
        obtain ⟨v, ⟨cs, hv, hcell⟩, hB, hM⟩ := hex k (by omega)
        refine ⟨xs ++ [v], by simp [hx], fun j p hj => ?_, ?_⟩
        · rcases Nat.lt_or_ge j k with hjk | hjk
          · rw [List.getElem?_append_left (by omega)] at hj
            exact hxs j p hj
          · have hjl := (List.getElem?_eq_some_iff.1 hj).1
            rw [List.length_append, List.length_singleton] at hjl
            obtain rfl : j = k := by omega
            have hp : v = p := by simpa [List.getElem?_append_right, hx] using hj
            subst hp
            exact ⟨⟨cs, d.K_len hv, hv, hcell⟩, hB⟩
        · rw [sumM_snoc, List.range_succ, List.map_append, List.map_cons, List.map_nil, bulkAll_snoc]
          omega
    obtain ⟨xs, hx, hxs, hsum⟩ := key n (Nat.le_refl _)
    refine ⟨xs, hx, ⟨hx, by have : maxLen = 9223372036854775807 := rfl; omega, fun _ => ⟨a, rfl, fun j p hj => (hxs j p hj).1⟩⟩, hl, (fun h => by cases h), fun v hv => ?_, ?_, ?_⟩
    · obtain ⟨j, hj, rfl⟩ := List.mem_iff_getElem.1 hv
      exact (hxs j _ (List.getElem?_eq_getElem hj)).2
    · have := hw ((((List.range n).map D).length + ((List.range (m - n)).map fun j => D (n + j)).length) * P.bytesOf e) (by
        simp only [DataW.weights, hu]
        exact List.mem_cons_self)
      simp only [List.length_map, List.length_range] at this
      have h2 : n * P.bytesOf e ≤ (n + (m - n)) * P.bytesOf e := Nat.mul_le_mul_right _ (by omega)
      have h3 : reachBytes = 140737488351232 := rfl
      omega
    · simp only [Rows.uptoBulk]
      omega
end Go.Proofs.Ytodldpdnhcafpaa.O

namespace Go.Proofs.Ytodldpdnhcafpaa.H
open Go.ChangeShapes Go.WideShapes Go.Deep Go.Proofs.YtodldpdnhcafpaaW.PrintWords Go.Proofs.Ytodldpdnhcafpaa.F

theorem cells3 : Try.prog.cellsOf 3 = 1 := by kernel_rfl
theorem cells9 : Try.prog.cellsOf 9 = 1 := by kernel_rfl
theorem cells22 : Try.prog.cellsOf 22 = 1 := by kernel_rfl
theorem cells23 : Try.prog.cellsOf 23 = 1 := by kernel_rfl
theorem cells25 : Try.prog.cellsOf 25 = 1 := by kernel_rfl
theorem cells27 : Try.prog.cellsOf 27 = 3 := by kernel_rfl
theorem cells45 : Try.prog.cellsOf 45 = 1 := by kernel_rfl
theorem cells59 : Try.prog.cellsOf 59 = 1 := by kernel_rfl
theorem bytes61 : Try.prog.bytesOf 61 = 24 := by kernel_rfl
theorem bytes47 : Try.prog.bytesOf 47 = 32 := by kernel_rfl
def B61 (x : S61) : Prop := (Lit.int .u8 x.f0).wf = true ∧ (Lit.int .i64 x.f1).wf = true ∧ (Lit.int .i64 x.f2).wf = true
theorem cells61 : Try.prog.cellsOf 61 = 3 := by kernel_rfl
theorem opens61 : O.Opens Try.prog 61 k61 B61 := by
  intro H enc w base spare held fuel cs x h hw
  obtain ⟨ys, n, rfl, rfl, hlen, hyl, hf⟩ := DataW.trod_struct Try.underlying61 h
  rw [cells61] at hlen
  obtain ⟨c0, c1, c2, rfl⟩ : ∃ c0 c1 c2, cs = [c0, c1, c2] := by
    match cs, hlen with
    | [c0, c1, c2], _ => exact ⟨c0, c1, c2, rfl⟩
  obtain ⟨y0, y1, y2, rfl⟩ : ∃ y0 y1 y2, ys = [y0, y1, y2] := by
    match ys, hyl with
    | [y0, y1, y2], _ => exact ⟨y0, y1, y2, rfl⟩
  have f0 := hf 0 { name := "Kind", type := 59, offset := 0, embedded := false, tag := "", pkgPath := "", byteOffset := 0 } rfl
  have f1 := hf 1 { name := "From", type := 3, offset := 1, embedded := false, tag := "", pkgPath := "", byteOffset := 8 } rfl
  have f2 := hf 2 { name := "To", type := 3, offset := 2, embedded := false, tag := "", pkgPath := "", byteOffset := 16 } rfl
  simp only [cells3, cells59, List.drop_zero, List.drop_succ_cons, List.take_succ_cons, List.take_zero, List.getElem?_cons_zero, List.getElem?_cons_succ] at f0 f1 f2
  have hq : ∀ (j : Nat) (t : TypeId) (d : DataW H), [59, 3, 3][j]? = some t → [y0.1, y1.1, y2.1][j]? = some d → ∀ n ∈ d.weights Try.prog t, n ≤ reachBytes := by
    intro j t d h1 h2 q hq
    refine hw q ?_
    simp only [DataW.weights, Try.underlying61]
    exact DataW.weights_mem_each (j := j) h1 h2 q hq
  obtain ⟨a0, e0, w0⟩ := O.opens_int Try.underlying59 f0 (hq 0 _ _ rfl rfl)
  obtain rfl : c0 = .int .u8 a0 := (List.cons.inj e0).1
  obtain ⟨a1, e1, w1⟩ := O.opens_int Try.underlying3 f1 (hq 1 _ _ rfl rfl)
  obtain rfl : c1 = .int .i64 a1 := (List.cons.inj e1).1
  obtain ⟨a2, e2, w2⟩ := O.opens_int Try.underlying3 f2 (hq 2 _ _ rfl rfl)
  obtain rfl : c2 = .int .i64 a2 := (List.cons.inj e2).1
  exact ⟨⟨a0, a1, a2⟩, k61_mk w _, w0, w1, w2⟩
def B47 (x : S47) : Prop := (Lit.int .u8 x.f0).wf = true ∧ (Lit.int .i64 x.f1).wf = true ∧ (Lit.int .i64 x.f2).wf = true ∧ (Lit.int .i64 x.f3).wf = true
theorem cells47 : Try.prog.cellsOf 47 = 4 := by kernel_rfl
theorem opens47 : O.Opens Try.prog 47 k47 B47 := by
  intro H enc w base spare held fuel cs x h hw
  obtain ⟨ys, n, rfl, rfl, hlen, hyl, hf⟩ := DataW.trod_struct Try.underlying47 h
  rw [cells47] at hlen
  obtain ⟨c0, c1, c2, c3, rfl⟩ : ∃ c0 c1 c2 c3, cs = [c0, c1, c2, c3] := by
    match cs, hlen with
    | [c0, c1, c2, c3], _ => exact ⟨c0, c1, c2, c3, rfl⟩
  obtain ⟨y0, y1, y2, y3, rfl⟩ : ∃ y0 y1 y2 y3, ys = [y0, y1, y2, y3] := by
    match ys, hyl with
    | [y0, y1, y2, y3], _ => exact ⟨y0, y1, y2, y3, rfl⟩
  have f0 := hf 0 { name := "Kind", type := 45, offset := 0, embedded := false, tag := "", pkgPath := "", byteOffset := 0 } rfl
  have f1 := hf 1 { name := "First", type := 3, offset := 1, embedded := false, tag := "", pkgPath := "", byteOffset := 8 } rfl
  have f2 := hf 2 { name := "End", type := 3, offset := 2, embedded := false, tag := "", pkgPath := "", byteOffset := 16 } rfl
  have f3 := hf 3 { name := "Size", type := 3, offset := 3, embedded := false, tag := "", pkgPath := "", byteOffset := 24 } rfl
  simp only [cells3, cells45, List.drop_zero, List.drop_succ_cons, List.take_succ_cons, List.take_zero, List.getElem?_cons_zero, List.getElem?_cons_succ] at f0 f1 f2 f3
  have hq : ∀ (j : Nat) (t : TypeId) (d : DataW H), [45, 3, 3, 3][j]? = some t → [y0.1, y1.1, y2.1, y3.1][j]? = some d → ∀ n ∈ d.weights Try.prog t, n ≤ reachBytes := by
    intro j t d h1 h2 q hq
    refine hw q ?_
    simp only [DataW.weights, Try.underlying47]
    exact DataW.weights_mem_each (j := j) h1 h2 q hq
  obtain ⟨a0, e0, w0⟩ := O.opens_int Try.underlying45 f0 (hq 0 _ _ rfl rfl)
  obtain rfl : c0 = .int .u8 a0 := (List.cons.inj e0).1
  obtain ⟨a1, e1, w1⟩ := O.opens_int Try.underlying3 f1 (hq 1 _ _ rfl rfl)
  obtain rfl : c1 = .int .i64 a1 := (List.cons.inj e1).1
  obtain ⟨a2, e2, w2⟩ := O.opens_int Try.underlying3 f2 (hq 2 _ _ rfl rfl)
  obtain rfl : c2 = .int .i64 a2 := (List.cons.inj e2).1
  obtain ⟨a3, e3, w3⟩ := O.opens_int Try.underlying3 f3 (hq 3 _ _ rfl rfl)
  obtain rfl : c3 = .int .i64 a3 := (List.cons.inj e3).1
  exact ⟨⟨a0, a1, a2, a3⟩, k47_mk w _, w0, w1, w2, w3⟩

theorem slice_cells {P : Program} {t e : TypeId} (hu : P.underlying t = some (.slice e)) {H : Type} {enc : TypeId × Value → H} {w : World} {base : Nat} {spare : Nat → Bool} {held : Bool} {fuel : Nat} {cs : List Value} {x : DataW H × List MemPlace}
    (h : DataW.trod enc P w base spare held fuel t cs = some x) : ∃ A n c, cs = [.slice A n c] := by
  rcases open_slice hu h with ⟨hcs, _⟩ | ⟨a, len, cap, m, fu, D, Pl, hcs, _⟩
  · exact ⟨_, _, _, hcs⟩
  · exact ⟨_, _, _, hcs⟩

end Go.Proofs.Ytodldpdnhcafpaa.H

namespace Go.Proofs.Ytodldpdnhcafpaa.H
open Go.ChangeShapes Go.WideShapes Go.Deep Go.Proofs.YtodldpdnhcafpaaW.PrintWords Go.Proofs.Ytodldpdnhcafpaa.F Go.Proofs.Ytodldpdnhcafpaa
theorem sumM_one {α : Type} : ∀ l : List α, O.sumM (fun _ => 1) l = l.length
  | [] => rfl
  | a :: l => by simp only [O.sumM, sumM_one l, List.length_cons]; omega
theorem opens61U : O.OpensU Try.prog 61 k61 B61 (fun _ => 1) := by
  intro H enc w base spare held fuel cs x h hw
  obtain ⟨a, ha, hb⟩ := opens61 h hw
  refine ⟨a, ha, hb, ?_⟩
  obtain ⟨ys, n, _, rfl, _⟩ := DataW.trod_struct Try.underlying61 h
  simp only [Rows.uptoBulk]
  omega
/-- A Forest that came in; and what the reading weighs at least. -/
theorem open27U {H : Type} {enc : TypeId × Value → H} {W : World} {base b0 : Nat} {r : Reach} {spare : Nat → Bool} {held : Bool} {v : Value} {d : DataW H} {p : List MemPlace} (hv : Value.okWide Try.prog W r b0 27 v) (h : DataW.Trod enc Try.prog W base spare held 27 v d p) (hw : ∀ n ∈ d.weights Try.prog 27, n ≤ reachBytes) :
    ∃ (t : ByteArray) (A1 : Option Addr) (c1 : Nat) (ps : List S61) (A2 : Option Addr) (c2 : Nat) (ns : List S47), v = .agg #[.string t, .slice A1 ps.length c1, .slice A2 ns.length c2] ∧ t.size ≤ 140737488351232 ∧
      Kd.C k61 W A1 ps.length ps ∧ ps.length ≤ c1 ∧ (A1 = none → c1 = 0) ∧ (∀ x ∈ ps, B61 x) ∧ ps.length * 24 ≤ 140737488351232 ∧ Kd.C k47 W A2 ns.length ns ∧ ns.length ≤ c2 ∧ (A2 = none → c2 = 0) ∧ (∀ x ∈ ns, B47 x) ∧ ns.length * 32 ≤ 140737488351232 ∧ t.size + ps.length ≤ Rows.uptoBulk d := by
  obtain ⟨cs, rfl, hsz⟩ := okWide_struct Try.underlying27 hv
  rw [cells27] at hsz
  obtain ⟨l⟩ := cs
  obtain ⟨c0, c1, c2, rfl⟩ : ∃ a b c, l = [a, b, c] := by
    match l, hsz with
    | [a, b, c], _ => exact ⟨a, b, c, rfl⟩
  obtain ⟨fuel, hf⟩ := h
  obtain ⟨ys, n, _, hd, _, hyl, hg⟩ := DataW.trod_struct Try.underlying27 hf
  obtain ⟨y0, y1, y2, rfl⟩ : ∃ a b c, ys = [a, b, c] := by
    match ys, hyl with
    | [a, b, c], _ => exact ⟨a, b, c, rfl⟩
  obtain ⟨rfl, rfl⟩ := Prod.mk.inj hd
  have f0 := hg 0 { name := "Text", type := 9, offset := 0, embedded := false, tag := "", pkgPath := "", byteOffset := 0 } rfl
  have f1 := hg 1 { name := "Pieces", type := 22, offset := 1, embedded := false, tag := "", pkgPath := "", byteOffset := 16 } rfl
  have f2 := hg 2 { name := "Tree", type := 25, offset := 2, embedded := false, tag := "", pkgPath := "", byteOffset := 40 } rfl
  simp only [Value.cells, cells9, cells22, cells25, List.drop_zero, List.drop_succ_cons, List.take_succ_cons, List.take_zero, List.getElem?_cons_zero, List.getElem?_cons_succ] at f0 f1 f2
  have hq : ∀ (j : Nat) (t : TypeId) (d : DataW H), [9, 22, 25][j]? = some t → [y0.1, y1.1, y2.1][j]? = some d → ∀ n ∈ d.weights Try.prog t, n ≤ reachBytes := by
    intro j t d h1 h2 q hq
    refine hw q ?_
    simp only [DataW.weights, Try.underlying27]
    exact DataW.weights_mem_each (j := j) h1 h2 q hq
  obtain ⟨t, e0, ht, mt⟩ := O.opens_stringU Try.underlying9 f0 (hq 0 _ _ rfl rfl)
  obtain rfl : c0 = .string t := (List.cons.inj e0).1
  obtain ⟨A1, n1, k1, e1⟩ := slice_cells Try.underlying22 f1
  obtain rfl : c1 = .slice A1 n1 k1 := (List.cons.inj e1).1
  obtain ⟨ps, rfl, p1, p2, p3, p4, p5, mp⟩ := O.open_rowU Try.underlying22 opens61U cells61 f1 (hq 1 _ _ rfl rfl)
  obtain ⟨zs, n', _, hz, _, hzl, hg2⟩ := DataW.trod_struct Try.underlying25 f2
  obtain ⟨z0, rfl⟩ : ∃ a, zs = [a] := by
    match zs, hzl with
    | [a], _ => exact ⟨a, rfl⟩
  have f3 := hg2 0 { name := "Nodes", type := 23, offset := 0, embedded := false, tag := "", pkgPath := "", byteOffset := 0 } rfl
  simp only [cells23, List.drop_zero, List.take_succ_cons, List.take_zero, List.getElem?_cons_zero] at f3
  obtain ⟨A2, n2, k2, e2⟩ := slice_cells Try.underlying23 f3
  obtain rfl : c2 = .slice A2 n2 k2 := (List.cons.inj e2).1
  have hq3 : ∀ n ∈ z0.1.weights Try.prog 23, n ≤ reachBytes := by
    intro q hq1
    refine hq 2 _ _ rfl rfl q ?_
    rw [hz]
    simp only [List.map_cons, List.map_nil, DataW.weights, Try.underlying25]
    exact DataW.weights_mem_each (j := 0) (ts := [23]) (ds := [z0.1]) rfl rfl q hq1
  obtain ⟨ns, rfl, q1, q2, q3, q4, q5⟩ := O.open_row Try.underlying23 opens47 cells47 f3 hq3
  have hbk : t.size + ps.length ≤ Rows.uptoBulk (DataW.agg [y0.1, y1.1, y2.1]) := by
    rw [sumM_one] at mp
    simp only [Rows.uptoBulk, Rows.uptoBulkAll]
    simp only at mt mp
    generalize Rows.uptoBulk y0.1 = z0 at mt ⊢
    generalize Rows.uptoBulk y1.1 = z1 at mp ⊢
    generalize Rows.uptoBulk y2.1 = z2
    omega
  rw [bytes61] at p5
  rw [bytes47] at q5
  exact ⟨t, A1, k1, ps, A2, k2, ns, rfl, ht, p1, p2, p3, p4, p5, q1, q2, q3, q4, q5, hbk⟩
end Go.Proofs.Ytodldpdnhcafpaa.H

-- TreeBlind: the law
namespace Go.Proofs.Ytodldpdnhcafpaa.L
open Go.RowKit Go.Proofs.YtodldpdnhcafpaaW.PrintWords Go.Proofs.YtodldpdnhcafpaaW.PrintLast Go.Proofs.YtodldpdnhcafpaaW.PrintMore
open Go.Proofs.Ytodldpdnhcafpaa.F Go.Proofs.Ytodldpdnhcafpaa.H Go.Proofs.Ytodldpdnhcafpaa.K
set_option linter.unusedVariables false
theorem blind_walk (t : ByteArray) (A1 : Option Addr) (c1 : Nat) (ps : List S61) (A2 : Option Addr) (c2 : Nat) (ns : List S47) (bits : Int) (w : World)
    (hs : t.size ≤ 140737488351232) (hr1 : Kd.C k61 w A1 ps.length ps) (hc1 : ps.length ≤ c1) (hn1 : A1 = none → c1 = 0) (hB1 : ∀ x ∈ ps, B61 x) (hb1 : ps.length * 24 ≤ 140737488351232)
    (hr2 : Kd.C k47 w A2 ns.length ns) (hc2 : ns.length ≤ c2) (hn2 : A2 = none → c2 = 0) (hB2 : ∀ x ∈ ns, B47 x) (hb2 : ns.length * 32 ≤ 140737488351232) (hw1 : (Lit.int .u64 bits).wf = true) (hbk : t.size + ps.length + 1 ≤ 1048576) :
    Calls Try.prog 16 #[.agg #[.string t, .slice A1 ps.length c1, .slice A2 ns.length c2], .int .u64 bits] w fun e w' => e = .returned (.bool true) ∧ Below w.heap.size w w' := by
  have hu8 : ∀ x ∈ ns, 0 ≤ x.f0 ∧ x.f0 ≤ 255 := fun x hx => by
    have h := (hB2 x hx).1
    simp [Lit.wf, IntKind.min, IntKind.max, IntKind.bits, IntKind.signed] at h
    omega
  have hnn : ns.length < 4398046511104 := by omega
  obtain ⟨k, hk⟩ := (Q.Blind_is t ps ns bits hbk hnn hu8).rounds
  exact monikerlaw4_TreeBlind.calls k t A1 c1 ps A2 c2 ns bits true w hr1 hc1 hr2 hc2 hk
end Go.Proofs.Ytodldpdnhcafpaa.L


namespace Go.Proofs.Ytodldpdnhcafpaa.treeBlind
open Go.ChangeShapes Go.WideShapes Go.ChangeAt Go.RowKit Go.Proofs.Ytodldpdnhcafpaa
open Go.ChangeMaps (open_string shut_string)
set_option linter.unusedVariables false
theorem own : ownKnob Try.prog.godebug = none := by kernel_rfl
theorem laidOut : laidOutB Try.prog = true := by kernel_rfl
set_option maxRecDepth 100000 in
theorem lifted (os : Os) (started : os.Started) (H : Type) (enc : TypeId × Value → H) (F : Stop.Interp) :
    ReturnsInHanded {} Try.checked os 16 .any ((Rows.OpenSpec.upto Rows.treeBlindSpec).pre6 enc Try.prog Try.f16 Rows.treeBlindUptoRow.domain false) (((Rows.OpenSpec.upto Rows.treeBlindSpec).at F).post enc Try.prog Try.f16 false true false false) := by
  refine O.returns_upto (k := Rows.uptoSmall) (s := Rows.OpenSpec.upto Rows.treeBlindSpec) rfl (C := Try.checked) own started (by kernel_rfl) Try.func16
    (O.witnessU (enc := enc) (C := Try.checked) (s := Rows.OpenSpec.upto Rows.treeBlindSpec) rfl false ⟨#[], #[.agg #[.string ByteArray.empty, .slice none 0 0, .slice none 0 0], .int .u64 0], []⟩ 8 (by kernel_rfl) (by kernel_rfl) (by kernel_rfl) (by kernel_rfl) (by kernel_rfl)) ?_
  intro W base args ds gs before hval0 hW hcnd hk0 hsz0 _
  have hsz : (DataW.weightsEach Try.prog (Try.f16.params.toList ++ Rows.treeBlindSpec.plain.varTypes Try.prog) (ds ++ gs)).all (· ≤ reachBytes) = true := hsz0
  have hval : ∀ (j : Nat) t v, Try.f16.params[j]? = some t → args[j]? = some v → Value.okWide Try.prog W .any base t v := hval0
  have hW' := hW
  obtain ⟨p, q, hA0, hV, rfl, hfz, hnd⟩ := hW
  have hA : DataW.TrodAll enc Try.prog W 0 (fun _ => true) true Try.f16.params.toList args.toList ds p := hA0
  rw [Try.params16] at hA hval hsz
  obtain ⟨v0, vs0, d0, ds0, p0, q0, hargs, rfl, rfl, h0, r0⟩ := trodAll_cons hA
  obtain ⟨v1, vs1, d1, ds1, p1, q1, rfl, rfl, rfl, h1, r1⟩ := trodAll_cons r0
  obtain ⟨rfl, rfl, rfl⟩ := trodAll_nil r1
  obtain rfl : args = #[v0, v1] := by cases args; simp_all
  obtain ⟨rfl, rfl⟩ := trodVars_none hV
  have hbulk : Rows.uptoBulkAll ([d0, d1] ++ []) ≤ 1048576 := of_decide_eq_true hk0
  simp only [List.append_nil, Rows.uptoBulkAll, Nat.add_zero] at hbulk
  have k0 := h0
  have lt0 : ∀ x ∈ p0, x.block < W.heap.size := by obtain ⟨m, hm⟩ := k0; exact DataW.trod_lt m _ _ _ hm
  have hq0 : ∀ n ∈ DataW.weights Try.prog 27 d0, n ≤ reachBytes := fun n hn => of_decide_eq_true (List.all_eq_true.1 hsz n (DataW.weights_mem_each (j := 0) rfl rfl n hn))
  obtain ⟨t0, A0, c0, l0, B0, e0, m0, rfl, hf0_0, hf0_1, hf0_2, hf0_3, hf0_4, hf0_5, hf0_6, hf0_7, hf0_8, hf0_9, hf0_10, hm0⟩ := Go.Proofs.Ytodldpdnhcafpaa.H.open27U (hval 0 27 v0 rfl rfl) h0 hq0
  obtain ⟨a1, rfl, rfl, rfl, w1⟩ := open_int Try.underlying36 (hval 1 36 v1 rfl rfl) h1
  have hm1 : 1 ≤ Rows.uptoBulk (DataW.lit (H := H) (.int .u64 a1)) := by simp only [Rows.uptoBulk]; exact Nat.le_refl _
  clear hA0 hval0 hsz0 hsz
  refine (Go.Proofs.Ytodldpdnhcafpaa.L.blind_walk t0 A0 c0 l0 B0 e0 m0 a1 W hf0_0 hf0_1 hf0_2 hf0_3 hf0_4 hf0_5 hf0_6 hf0_7 hf0_8 hf0_9 hf0_10 w1 (Nat.le_trans (Nat.add_le_add hm0 hm1) hbulk)).mono fun e W' ⟨he, bel⟩ => ?_
  subst he
  exact ⟨_, rfl, _, _, _, [], _, [], hW', trodAll_mk1 (shut_bool Try.underlying4 _), (trodAll_cons_mk (Below.trod laidOut (by kernel_rfl) (of_decide_eq_true (by kernel_rfl)) k0 bel lt0) (trodAll_cons_mk (shut_int Try.underlying36 w1) trodAll_mk0)), rfl, bel.frame _, fun h => by cases h⟩
theorem over : Rows.treeBlindUptoRow.holds Try.pinned (Rows.OpenSpec.upto Rows.treeBlindSpec) :=
  OpenClaim.holds_of_cond 16 Try.f16 rfl rfl rfl rfl rfl rfl rfl ⟨rfl, rfl, rfl, rfl, rfl⟩ rfl rfl rfl rfl rfl (by kernel_rfl) Try.func16 (by kernel_rfl)
    (of_decide_eq_true (by kernel_rfl)) (by unfold Func.isWrapper; first | (rw [if_pos (by decide +kernel)]; kernel_rfl) | (rw [if_neg (by decide +kernel)]; exact ⟨rfl, rfl⟩))
    (fun os started H enc _ F => lifted os started H enc F)
theorem proved : Rows.TreeBlindUptoSaid := over
#print axioms proved
end Go.Proofs.Ytodldpdnhcafpaa.treeBlind
namespace Go.Proofs.Ytodldpdnhcafpaa
/-- The row, under a short name, for the claim. -/
theorem treeBlind_holds : Rows.TreeBlindUptoSaid := treeBlind.proved
end Go.Proofs.Ytodldpdnhcafpaa
