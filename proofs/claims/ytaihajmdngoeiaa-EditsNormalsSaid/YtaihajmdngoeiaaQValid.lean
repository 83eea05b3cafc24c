import Derived.Test.YtaihajmdngoeiaaF3
import Derived.Test.YtaihajmdngoeiaaF4
import Derived.Test.YtaihajmdngoeiaaF5
import Derived.Test.YtaihajmdngoeiaaF6
import Derived.Test.YtaihajmdngoeiaaF7
namespace Go.Proofs.Ytaihajmdngoeiaa.Q
open Go.RowKit Go.Proofs.YtaihajmdngoeiaaW.PrintWords Go.Proofs.YtaihajmdngoeiaaW.PrintLast Go.Proofs.YtaihajmdngoeiaaW.PrintMore
open Go.Proofs.Ytaihajmdngoeiaa.F

theorem w64 {x : Int} (h0 : -9223372036854775808 ≤ x) (h1 : x ≤ 9223372036854775807) : wrap64 x = x := by unfold wrap64; omega
theorem rd_at (l : List S42) (i : Nat) (h : i < l.length) : rd_T42 l (i : Int) = l[i] := by
  simp [rd_T42, List.getD_eq_getElem?_getD, h]

/-- What is wrong with a list of edits, the last one's end known. -/
def vgo (size : Int) : Option Int → List S42 → Int
  | _, [] => 0
  | p, e :: t => if e.f0 < 0 ∨ e.f1 < e.f0 ∨ e.f1 > size then 10 else match p with
    | none => vgo size (some e.f1) t
    | some q => if e.f0 ≤ q then 11 else vgo size (some e.f1) t
def vspec (size : Int) (l : List S42) : Int := if (l.length : Int) > 65536 then 2 else vgo size none l
def prev (l : List S42) (i : Nat) : Option Int := if i = 0 then none else some (rd_T42 l ((i : Int) - 1)).f1
theorem prev_zero (l : List S42) : prev l 0 = none := rfl
theorem prev_succ (l : List S42) (i : Nat) (h : i < l.length) : prev l (i + 1) = some (l[i]).f1 := by
  unfold prev
  rw [if_neg (by omega), show ((i + 1 : Nat) : Int) - 1 = (i : Int) by omega, rd_at l i h]
theorem vgo_at (size : Int) (l : List S42) (i : Nat) (h : i < l.length) (p : Option Int) : vgo size p (l.drop i) =
    if (l[i]).f0 < 0 ∨ (l[i]).f1 < (l[i]).f0 ∨ (l[i]).f1 > size then 10 else match p with
    | none => vgo size (prev l (i + 1)) (l.drop (i + 1))
    | some q => if (l[i]).f0 ≤ q then 11 else vgo size (prev l (i + 1)) (l.drop (i + 1)) := by
  rw [prev_succ l i h, List.drop_eq_getElem_cons h]
  cases p <;> simp only [vgo]
theorem vgo_end (size : Int) (l : List S42) (i : Nat) (h : ¬ i < l.length) (p : Option Int) : vgo size p (l.drop i) = 0 := by
  rw [List.drop_eq_nil_of_le (by omega)]
  cases p <;> rfl

theorem valid_loop (size : Int) (l : List S42) (hl : l.length ≤ 65536) (d : Nat) : ∀ i, i ≤ l.length → l.length - i = d →
    Ev (fun k => edits_valid.l0 k size l l (l.length : Int) (i : Int)) (vgo size (prev l i) (l.drop i)) := by
  induction d with
  | zero =>
    intro i h1 h2
    refine ⟨1, fun n hn => ?_⟩
    obtain ⟨k, rfl⟩ : ∃ m, n = m + 1 := ⟨n - 1, by omega⟩
    simp only [edits_valid.l0]
    rw [if_neg (by omega), vgo_end _ _ _ (by omega)]
  | succ d ih =>
    intro i h1 h2
    have hi : i < l.length := by omega
    obtain ⟨K, hK⟩ := ih (i + 1) (by omega) (by omega)
    refine ⟨K + 4, fun n hn => ?_⟩
    obtain ⟨k, rfl⟩ : ∃ m, n = m + 4 := ⟨n - 4, by omega⟩
    have hgo := hK (k + 1) (by omega)
    have hgo2 := hK (k + 2) (by omega)
    rw [vgo_at size l i hi]
    have hj : ∀ b : Bool, b = decide ((l[i]).f0 < 0 ∨ (l[i]).f1 < (l[i]).f0 ∨ (l[i]).f1 > size) →
        edits_valid.j1 (k + 3) size l (i : Int) l (l.length : Int) (i : Int) b (l[i]).f0 (l[i]).f1 (l[i]).f2 = some (if (l[i]).f0 < 0 ∨ (l[i]).f1 < (l[i]).f0 ∨ (l[i]).f1 > size then 10 else match prev l i with
    | none => vgo size (prev l (i + 1)) (l.drop (i + 1))
    | some q => if (l[i]).f0 ≤ q then 11 else vgo size (prev l (i + 1)) (l.drop (i + 1))) := by
      intro b hb
      simp only [edits_valid.j1]
      by_cases hbad : (l[i]).f0 < 0 ∨ (l[i]).f1 < (l[i]).f0 ∨ (l[i]).f1 > size
      · rw [if_pos (by rw [hb]; exact decide_eq_true hbad), if_pos hbad]
      · rw [if_neg (by rw [hb]; simpa using hbad), if_neg hbad]
        have hw1 : wrap64 ((i : Int) + 1) = ((i + 1 : Nat) : Int) := by rw [w64] <;> omega
        rcases Nat.eq_zero_or_pos i with h0 | h0
        · subst h0
          have hm : mx (wrap64 (((0 : Nat) : Int) - 1)) 0 = 0 := by rw [w64 (by omega) (by omega)]; unfold mx; omega
          rw [hm, if_pos (by omega), if_pos (by omega), if_pos (by omega)]
          simp only [Option.bind_some, edits_valid.l1, prev_zero]
          rw [if_neg (by simp), hw1]
          exact hgo
        · have hm : mx (wrap64 ((i : Int) - 1)) 0 = (i : Int) - 1 := by rw [w64 (by omega) (by omega)]; unfold mx; omega
          rw [hm, if_pos (by omega), if_pos (by omega), if_pos (by omega)]
          have hp : prev l i = some (rd_T42 l ((i : Int) - 1)).f1 := by unfold prev; rw [if_neg (by omega)]
          have hy : (l.take (i : Int).toNat).drop ((i : Int) - 1).toNat = [rd_T42 l ((i : Int) - 1)] := by
            obtain ⟨j, rfl⟩ : ∃ j, i = j + 1 := ⟨i - 1, by omega⟩
            rw [show (((j + 1 : Nat) : Int) - 1) = (j : Int) by omega, rd_at l j (by omega), Int.toNat_natCast, Int.toNat_natCast]
            rw [List.take_succ_eq_append_getElem (by omega), List.drop_append_of_le_length (by rw [List.length_take]; omega)]
            simp
          rw [hy, hp]
          simp only [Option.bind_some, edits_valid.l1, List.length_singleton]
          rw [if_pos (by omega), if_pos (by omega), if_pos (by omega)]
          have hz : rd_T42 [rd_T42 l ((i : Int) - 1)] 0 = rd_T42 l ((i : Int) - 1) := rfl
          rw [hz]
          by_cases hle : (l[i]).f0 ≤ (rd_T42 l ((i : Int) - 1)).f1
          · rw [if_neg (by omega), if_pos hle]
          · rw [if_pos (by omega), if_neg hle, hw1]
            exact hgo
    simp only [edits_valid.l0]
    rw [rd_at l i hi, if_pos (by omega), if_pos (by omega), if_pos (by omega)]
    by_cases c1 : (l[i]).f0 < 0
    · rw [if_pos c1]; exact hj _ (by simp [c1])
    · rw [if_neg c1]
      by_cases c2 : (l[i]).f1 < (l[i]).f0
      · rw [if_pos c2]; exact hj _ (by simp [c2])
      · rw [if_neg c2]; exact hj _ (by simp [c1, c2])

theorem valid_is (size : Int) (l : List S42) : Ev (fun k => edits_valid.f k size l) (vspec size l) := by
  unfold edits_valid.f vspec
  by_cases h : (l.length : Int) > 65536
  · simp only [if_pos h]; exact Ev.now _
  · simp only [if_neg h]
    have := valid_loop size l (by omega) l.length 0 (by omega) (by omega)
    simpa [prev_zero] using this

theorem rvalid_loop (size : Int) (l : List S42) (hl : l.length ≤ 65536) (d : Nat) : ∀ i, i ≤ l.length → l.length - i = d →
    Ev (fun k => monikerref1_valid.l0 k size l (i : Int)) (vgo size (prev l i) (l.drop i)) := by
  induction d with
  | zero =>
    intro i h1 h2
    refine ⟨1, fun n hn => ?_⟩
    obtain ⟨k, rfl⟩ : ∃ m, n = m + 1 := ⟨n - 1, by omega⟩
    simp only [monikerref1_valid.l0]
    rw [if_neg (by omega), vgo_end _ _ _ (by omega)]
  | succ d ih =>
    intro i h1 h2
    have hi : i < l.length := by omega
    obtain ⟨K, hK⟩ := ih (i + 1) (by omega) (by omega)
    refine ⟨K + 2, fun n hn => ?_⟩
    obtain ⟨k, rfl⟩ : ∃ m, n = m + 2 := ⟨n - 2, by omega⟩
    have hgo := hK k (by omega)
    rw [vgo_at size l i hi]
    have hj : ∀ b : Bool, b = decide ((l[i]).f0 < 0 ∨ (l[i]).f1 < (l[i]).f0 ∨ (l[i]).f1 > size) →
        monikerref1_valid.j1 (k + 1) size l (i : Int) b (l[i]).f0 (l[i]).f1 (l[i]).f2 = some (if (l[i]).f0 < 0 ∨ (l[i]).f1 < (l[i]).f0 ∨ (l[i]).f1 > size then 10 else match prev l i with
    | none => vgo size (prev l (i + 1)) (l.drop (i + 1))
    | some q => if (l[i]).f0 ≤ q then 11 else vgo size (prev l (i + 1)) (l.drop (i + 1))) := by
      intro b hb
      simp only [monikerref1_valid.j1]
      by_cases hbad : (l[i]).f0 < 0 ∨ (l[i]).f1 < (l[i]).f0 ∨ (l[i]).f1 > size
      · rw [if_pos (by rw [hb]; exact decide_eq_true hbad), if_pos hbad]
      · rw [if_neg (by rw [hb]; simpa using hbad), if_neg hbad]
        have hw1 : wrap64 ((i : Int) + 1) = ((i + 1 : Nat) : Int) := by rw [w64] <;> omega
        rcases Nat.eq_zero_or_pos i with h0 | h0
        · subst h0
          rw [if_neg (by omega), hw1]
          exact hgo
        · have hp : prev l i = some (rd_T42 l ((i : Int) - 1)).f1 := by unfold prev; rw [if_neg (by omega)]
          rw [if_pos (by omega), w64 (by omega) (by omega), if_pos (by omega), if_pos (by omega), hp]
          by_cases hle : (l[i]).f0 ≤ (rd_T42 l ((i : Int) - 1)).f1
          · rw [if_pos hle]; simp only [if_pos hle]
          · rw [if_neg hle, hw1]; simp only [if_neg hle]
            exact hgo
    simp only [monikerref1_valid.l0]
    rw [rd_at l i hi, if_pos (by omega), if_pos (by omega)]
    by_cases c1 : (l[i]).f0 < 0
    · rw [if_pos c1]; exact hj _ (by simp [c1])
    · rw [if_neg c1]
      by_cases c2 : (l[i]).f1 < (l[i]).f0
      · rw [if_pos c2]; exact hj _ (by simp [c2])
      · rw [if_neg c2]; exact hj _ (by simp [c1, c2])

theorem rvalid_is (size : Int) (l : List S42) : Ev (fun k => monikerref1_valid.f k size l) (vspec size l) := by
  unfold monikerref1_valid.f vspec
  by_cases h : (l.length : Int) > 65536
  · simp only [if_pos h]; exact Ev.now _
  · simp only [if_neg h]
    have := rvalid_loop size l (by omega) l.length 0 (by omega) (by omega)
    simpa [prev_zero] using this

def Vspec (size : Int) (l : List S42) : Int := if size < 0 then 1 else if size > 4611686018427387904 then 1 else vspec size l
theorem Valid_is (size : Int) (l : List S42) : Ev (fun k => edits_Valid.f k size l) (Vspec size l) := by
  unfold edits_Valid.f Vspec
  by_cases h : size < 0
  · simp only [if_pos h]; exact Ev.now _
  · simp only [if_neg h]
    by_cases h' : size > 4611686018427387904
    · simp only [if_pos h']; exact Ev.now _
    · simp only [if_neg h']
      exact (valid_is size l).bind (Ev.now _)
theorem RValid_is (size : Int) (l : List S42) : Ev (fun k => monikerref1_Valid.f k size l) (Vspec size l) := by
  unfold monikerref1_Valid.f Vspec
  by_cases h : size < 0
  · simp only [if_pos h]; exact Ev.now _
  · simp only [if_neg h]
    by_cases h' : size > 4611686018427387904
    · simp only [if_pos h']; exact Ev.now _
    · simp only [if_neg h']
      exact (rvalid_is size l).bind (Ev.now _)
end Go.Proofs.Ytaihajmdngoeiaa.Q
