import Derived.Test.YtaihajmdngoeiaaWMore
import Derived.SizedLaws
import Derived.ChangeSlices
import Derived.Deep.Slices
namespace Go.Proofs.Ytaihajmdngoeiaa.O
open Go.ChangeShapes Go.WideShapes Go.Deep Go.Proofs.YtaihajmdngoeiaaW.PrintWords

/-- What a value of type t that came in is, as a Lean value of kind d; and what is known of it. -/
def Opens {α : Type} (P : Program) (t : TypeId) (d : Kd α) (B : α → Prop) : Prop :=
  ∀ {H : Type} {enc : TypeId × Value → H} {w : World} {base : Nat} {spare : Nat → Bool} {held : Bool} {fuel : Nat} {cs : List Value} {x : DataW H × List MemPlace},
    DataW.trod enc P w base spare held fuel t cs = some x → (∀ n ∈ x.1.weights P t, n ≤ reachBytes) → ∃ a, d.K w a cs ∧ B a

theorem Opens.imp {α : Type} {P : Program} {t : TypeId} {d : Kd α} {B B' : α → Prop} (h : Opens P t d B) (hb : ∀ a, B a → B' a) : Opens P t d B' := fun h1 h2 => by
  obtain ⟨a, h3, h4⟩ := h h1 h2
  exact ⟨a, h3, hb a h4⟩
theorem opens_int {P : Program} {t : TypeId} {k : IntKind} (hu : P.underlying t = some (.int k)) : Opens P t (Kd.int k) (fun n => (Lit.int k n).wf = true) := fun h _ => by
  obtain ⟨n, rfl, rfl, hw⟩ := DataW.trod_int hu h
  exact ⟨n, rfl, hw⟩
theorem opens_bool {P : Program} {t : TypeId} (hu : P.underlying t = some .bool) : Opens P t Kd.bool (fun _ => True) := fun h _ => by
  obtain ⟨n, rfl, rfl⟩ := DataW.trod_bool hu h
  exact ⟨n, rfl, trivial⟩
theorem opens_string {P : Program} {t : TypeId} (hu : P.underlying t = some .string) : Opens P t Kd.string (fun s => s.size ≤ 140737488351232) := fun h hw => by
  obtain ⟨s, rfl, rfl, _⟩ := DataW.trod_string hu h
  refine ⟨s, rfl, ?_⟩
  have := hw s.data.toList.length (by simp [DataW.weights])
  rw [Array.length_toList] at this
  exact this

theorem mem_weightsAll {H : Type} {P : Program} {e : TypeId} : ∀ {l : List (DataW H)} {y : DataW H}, y ∈ l → ∀ n ∈ y.weights P e, n ∈ DataW.weightsAll P e l
  | y0 :: l, y, h, n, hn => by
    simp only [DataW.weightsAll, List.mem_append]
    rcases List.mem_cons.1 h with rfl | h
    · exact .inl hn
    · exact .inr (mem_weightsAll h n hn)

/-- A slice that came in, its address and capacity told. -/
theorem open_row {α : Type} {P : Program} {t e : TypeId} {d : Kd α} {B : α → Prop} (hu : P.underlying t = some (.slice e)) (he : Opens P e d B) (hc : P.cellsOf e = d.sz)
    {H : Type} {enc : TypeId × Value → H} {w : World} {base : Nat} {spare : Nat → Bool} {held : Bool} {fuel : Nat} {A : Option Addr} {n c : Nat} {x : DataW H × List MemPlace}
    (h : DataW.trod enc P w base spare held fuel t [.slice A n c] = some x) (hw : ∀ n ∈ x.1.weights P t, n ≤ reachBytes) :
    ∃ xs : List α, xs.length = n ∧ d.C w A n xs ∧ n ≤ c ∧ (A = none → c = 0) ∧ (∀ a ∈ xs, B a) ∧ n * P.bytesOf e ≤ 140737488351232 := by
  rcases open_slice hu h with ⟨hcs, rfl⟩ | ⟨a, len, cap, m, fu, D, Pl, hcs, hb, hl, hm, hmm, rfl, hel⟩
  · simp only [List.cons.injEq, Value.slice.injEq, and_true] at hcs
    obtain ⟨rfl, rfl, rfl⟩ := hcs
    exact ⟨[], rfl, ⟨rfl, by omega, fun h0 => absurd h0 (by omega)⟩, by omega, fun _ => rfl, (fun a ha => by cases ha), by omega⟩
  · simp only [List.cons.injEq, Value.slice.injEq, and_true] at hcs
    obtain ⟨rfl, rfl, rfl⟩ := hcs
    have hlm : n ≤ m := by rw [hmm]; split <;> omega
    have hex : ∀ i, i < n → ∃ v : α, (∃ cs, d.K w v cs ∧ ∀ j u, cs[j]? = some u → w.cell? (a.add (i * d.sz + j)) = some u) ∧ B v := by
      intro i hi
      obtain ⟨cs', hc1, hc2⟩ := hel i (by omega)
      have hmem : D i ∈ (List.range n).map D := List.mem_map.2 ⟨i, List.mem_range.2 hi, rfl⟩
      obtain ⟨v, hv, hB⟩ := he hc2 (fun q hq => hw q (by
        simp only [DataW.weights, hu, List.mem_cons, List.mem_append]
        exact .inr (.inl (mem_weightsAll hmem q hq))))
      refine ⟨v, ⟨cs', hv, fun j u hj => ?_⟩, hB⟩
      obtain ⟨_, hcl, hat⟩ := World.cells?_some hc1
      have hjl : j < cs'.length := (List.getElem?_eq_some_iff.1 hj).1
      have := hat j (by omega)
      rw [hc] at this
      rw [← Go.Deep.add_add, this, hj]
    have key : ∀ k, k ≤ n → ∃ xs : List α, xs.length = k ∧ (∀ j p, xs[j]? = some p → (∃ cs, cs.length = d.sz ∧ d.K w p cs ∧ ∀ i u, cs[i]? = some u → w.cell? (a.add (j * d.sz + i)) = some u) ∧ B p) := by
      intro k
      induction k with
      | zero => intro _; exact ⟨[], rfl, fun j p hj => by simp at hj⟩
      | succ k ih =>
        intro hk
        obtain ⟨xs, hx, hxs⟩ := ih (by omega)
        obtain ⟨v, ⟨cs, hv, hcell⟩, hB⟩ := hex k (by omega)
        refine ⟨xs ++ [v], by simp [hx], fun j p hj => ?_⟩
        rcases Nat.lt_or_ge j k with hjk | hjk
        · rw [List.getElem?_append_left (by omega)] at hj
          exact hxs j p hj
        · have hjl := (List.getElem?_eq_some_iff.1 hj).1
          rw [List.length_append, List.length_singleton] at hjl
          obtain rfl : j = k := by omega
          have hp : v = p := by simpa [List.getElem?_append_right, hx] using hj
          subst hp
          exact ⟨⟨cs, d.K_len hv, hv, hcell⟩, hB⟩
    obtain ⟨xs, hx, hxs⟩ := key n (Nat.le_refl _)
    refine ⟨xs, hx, ⟨hx, by have : maxLen = 9223372036854775807 := rfl; omega, fun _ => ⟨a, rfl, fun j p hj => (hxs j p hj).1⟩⟩, hl, (fun h => by cases h), fun v hv => ?_, ?_⟩
    · obtain ⟨j, hj, rfl⟩ := List.mem_iff_getElem.1 hv
      exact (hxs j _ (List.getElem?_eq_getElem hj)).2
    · have := hw ((((List.range n).map D).length + ((List.range (m - n)).map fun j => D (n + j)).length) * P.bytesOf e) (by
        simp only [DataW.weights, hu]
        exact List.mem_cons_self)
      simp only [List.length_map, List.length_range] at this
      have h2 : n * P.bytesOf e ≤ (n + (m - n)) * P.bytesOf e := Nat.mul_le_mul_right _ (by omega)
      have h3 : reachBytes = 140737488351232 := rfl
      omega

theorem opens_slice {α : Type} {P : Program} {t e : TypeId} {d : Kd α} {B : α → Prop} (hu : P.underlying t = some (.slice e)) (he : Opens P e d B) (hc : P.cellsOf e = d.sz) :
    Opens P t (Kd.slice e d) (fun xs => (∀ a ∈ xs, B a) ∧ xs.length * P.bytesOf e ≤ 140737488351232) := by
  intro H enc w base spare held fuel cs x h hw
  obtain ⟨A, n, c, rfl⟩ : ∃ A n c, cs = [.slice A n c] := by
    rcases open_slice hu h with ⟨hcs, _⟩ | ⟨a, len, cap, m, fu, D, Pl, hcs, _⟩
    · exact ⟨_, _, _, hcs⟩
    · exact ⟨_, _, _, hcs⟩
  obtain ⟨xs, rfl, h1, h2, h3, h4, h5⟩ := open_row hu he hc h hw
  exact ⟨xs, ⟨A, c, rfl, h2, h1⟩, h4, h5⟩
end Go.Proofs.Ytaihajmdngoeiaa.O
