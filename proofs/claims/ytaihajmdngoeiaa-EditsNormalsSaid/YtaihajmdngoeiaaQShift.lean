import Derived.Test.YtaihajmdngoeiaaQValid
import Derived.Test.YtaihajmdngoeiaaF10
import Derived.Test.YtaihajmdngoeiaaF21
import Derived.Test.YtaihajmdngoeiaaF22
namespace Go.Proofs.Ytaihajmdngoeiaa.Q
open Go.RowKit Go.Proofs.YtaihajmdngoeiaaW.PrintWords Go.Proofs.YtaihajmdngoeiaaW.PrintLast Go.Proofs.YtaihajmdngoeiaaW.PrintMore
open Go.Proofs.Ytaihajmdngoeiaa.F

/-- A valid list of edits, the last one's end known. -/
def Chain (size : Int) : Option Int → List S42 → Prop
  | _, [] => True
  | p, e :: t => 0 ≤ e.f0 ∧ e.f0 ≤ e.f1 ∧ e.f1 ≤ size ∧ (∀ q, p = some q → q < e.f0) ∧ Chain size (some e.f1) t
theorem chain_of (size : Int) : ∀ (l : List S42) (p : Option Int), vgo size p l = 0 → Chain size p l
  | [], _, _ => trivial
  | e :: t, none, h => by
    simp only [vgo] at h
    split at h
    · simp at h
    · rename_i hb
      exact ⟨by omega, by omega, by omega, (fun q hq => by cases hq), chain_of size t _ h⟩
  | e :: t, some q, h => by
    simp only [vgo] at h
    split at h
    · simp at h
    · rename_i hb
      split at h
      · simp at h
      · rename_i hq
        exact ⟨by omega, by omega, by omega, (fun q2 hq2 => by cases hq2; omega), chain_of size t _ h⟩
theorem vgo_of_chain (size : Int) : ∀ (l : List S42) (p : Option Int), Chain size p l → vgo size p l = 0
  | [], p, _ => by cases p <;> rfl
  | e :: t, none, ⟨h1, h2, h3, _, h5⟩ => by
    simp only [vgo]
    rw [if_neg (by omega)]
    exact vgo_of_chain size t _ h5
  | e :: t, some q, ⟨h1, h2, h3, h4, h5⟩ => by
    have := h4 q rfl
    simp only [vgo]
    rw [if_neg (by omega), if_neg (by omega)]
    exact vgo_of_chain size t _ h5
theorem vspec_zero {size : Int} {l : List S42} (h : vspec size l = 0) : l.length ≤ 65536 ∧ Chain size none l := by
  unfold vspec at h
  split at h
  · simp at h
  · exact ⟨by omega, chain_of size l none h⟩
theorem vspec_of {size : Int} {l : List S42} (h : l.length ≤ 65536) (hc : Chain size none l) : vspec size l = 0 := by
  unfold vspec
  rw [if_neg (by omega)]
  exact vgo_of_chain size l none hc

def growsOf (e : S42) : Int := wrap64 ((e.f2.size : Int) - wrap64 (e.f1 - e.f0))
theorem grows_is (e : S42) : edits_grows.f e.f0 e.f1 e.f2 = some (growsOf e) := rfl

def shGo (at_ : Int) : Int → List S42 → Int × Bool
  | n, [] => (n, true)
  | n, e :: t => if e.f1 > at_ then (if e.f0 < at_ then (0, false) else (n, true)) else shGo at_ (wrap64 (n + growsOf e)) t
def rshGo (at_ : Int) : Int → List S42 → Int × Bool
  | n, [] => (n, true)
  | n, e :: t => if e.f0 < at_ ∧ at_ < e.f1 then (0, false) else if e.f1 ≤ at_ then rshGo at_ (wrap64 (n + growsOf e)) t else rshGo at_ n t
theorem rsh_past (at_ size : Int) : ∀ (l : List S42) (n q : Int), at_ < q → Chain size (some q) l → rshGo at_ n l = (n, true)
  | [], _, _, _, _ => rfl
  | e :: t, n, q, h, ⟨h1, h2, h3, h4, h5⟩ => by
    have := h4 q rfl
    simp only [rshGo]
    rw [if_neg (by omega), if_neg (by omega)]
    exact rsh_past at_ size t n e.f1 (by omega) h5
theorem sh_eq (at_ size : Int) : ∀ (l : List S42) (n : Int) (p : Option Int), Chain size p l → shGo at_ n l = rshGo at_ n l
  | [], _, _, _ => rfl
  | e :: t, n, p, ⟨h1, h2, h3, h4, h5⟩ => by
    simp only [shGo, rshGo]
    by_cases c : e.f1 > at_
    · rw [if_pos c]
      by_cases c' : e.f0 < at_
      · rw [if_pos c', if_pos (by omega)]
      · rw [if_neg c', if_neg (by omega), if_neg (by omega), rsh_past at_ size t n e.f1 (by omega) h5]
    · rw [if_neg c, if_neg (by omega), if_pos (by omega)]
      exact sh_eq at_ size t _ _ h5
def Shspec (l : List S42) (at_ : Int) : Int × Bool := if at_ < 0 then (0, false) else if at_ > 4611686018427387904 then (0, false) else if vspec 4611686018427387904 l ≠ 0 then (0, false) else shGo at_ at_ l

theorem sh_loop (at_ : Int) (l : List S42) (hl : l.length ≤ 65536) (d : Nat) : ∀ i n, i ≤ l.length → l.length - i = d →
    Ev (fun k => edits_Shift.l0 k at_ n l (l.length : Int) (i : Int)) (shGo at_ n (l.drop i)) := by
  induction d with
  | zero =>
    intro i n h1 h2
    refine ⟨1, fun m hm => ?_⟩
    obtain ⟨k, rfl⟩ : ∃ j, m = j + 1 := ⟨m - 1, by omega⟩
    simp only [edits_Shift.l0]
    rw [if_neg (by omega), List.drop_eq_nil_of_le (by omega)]
    rfl
  | succ d ih =>
    intro i n h1 h2
    have hi : i < l.length := by omega
    obtain ⟨K, hK⟩ := ih (i + 1) (wrap64 (n + growsOf l[i])) (by omega) (by omega)
    refine ⟨K + 1, fun m hm => ?_⟩
    obtain ⟨k, rfl⟩ : ∃ j, m = j + 1 := ⟨m - 1, by omega⟩
    have hgo := hK k (by omega)
    simp only [edits_Shift.l0]
    rw [rd_at l i hi, if_pos (by omega), if_pos (by omega), if_pos (by omega), List.drop_eq_getElem_cons hi]
    simp only [shGo, grows_is, Option.bind_some]
    by_cases c : (l[i]).f1 > at_
    · rw [if_pos c, if_pos c]
      split <;> rfl
    · rw [if_neg c, if_neg c, show wrap64 ((i : Int) + 1) = ((i + 1 : Nat) : Int) by rw [w64] <;> omega]
      exact hgo
theorem rsh_loop (at_ : Int) (l : List S42) (hl : l.length ≤ 65536) (d : Nat) : ∀ i n, i ≤ l.length → l.length - i = d →
    Ev (fun k => monikerref1_Shift.l0 k l at_ n (i : Int)) (rshGo at_ n (l.drop i)) := by
  induction d with
  | zero =>
    intro i n h1 h2
    refine ⟨1, fun m hm => ?_⟩
    obtain ⟨k, rfl⟩ : ∃ j, m = j + 1 := ⟨m - 1, by omega⟩
    simp only [monikerref1_Shift.l0]
    rw [if_neg (by omega), List.drop_eq_nil_of_le (by omega)]
    rfl
  | succ d ih =>
    intro i n h1 h2
    have hi : i < l.length := by omega
    obtain ⟨K, hK⟩ := ih (i + 1) (wrap64 (n + growsOf l[i])) (by omega) (by omega)
    obtain ⟨K', hK'⟩ := ih (i + 1) n (by omega) (by omega)
    refine ⟨K + K' + 2, fun m hm => ?_⟩
    obtain ⟨k, rfl⟩ : ∃ j, m = j + 2 := ⟨m - 2, by omega⟩
    have hgo := hK k (by omega)
    have hgo' := hK' k (by omega)
    have hw : wrap64 ((i : Int) + 1) = ((i + 1 : Nat) : Int) := by rw [w64] <;> omega
    have hj : ∀ b : Bool, b = decide ((l[i]).f0 < at_ ∧ at_ < (l[i]).f1) → monikerref1_Shift.j2 (k + 1) l at_ n (i : Int) b = some (rshGo at_ n (l.drop i)) := by
      intro b hb
      simp only [monikerref1_Shift.j2]
      rw [List.drop_eq_getElem_cons hi, rd_at l i hi, if_pos (show 0 ≤ (i : Int) by omega), if_pos (show (i : Int) < (l.length : Int) by omega), hw]
      simp only [rshGo]
      by_cases c : (l[i]).f0 < at_ ∧ at_ < (l[i]).f1
      · rw [if_pos (by rw [hb]; exact decide_eq_true c), if_pos c]
      · rw [if_neg (by rw [hb]; simpa using c), if_neg c]
        by_cases c' : (l[i]).f1 ≤ at_
        · rw [if_pos c', if_pos c']; exact hgo
        · rw [if_neg c', if_neg c']; exact hgo'
    simp only [monikerref1_Shift.l0]
    rw [rd_at l i hi, if_pos (by omega), if_pos (by omega)]
    by_cases c : (l[i]).f0 < at_
    · rw [if_pos c]; exact hj _ (by simp [c])
    · rw [if_neg c]; exact hj _ (by simp [c])

theorem Shift_is (l : List S42) (at_ : Int) : Ev (fun k => edits_Shift.f k l at_) (Shspec l at_) := by
  unfold edits_Shift.f Shspec
  have hbad : Ev (fun k => edits_Shift.j0 k l at_ true) (0, false) := ⟨1, fun m hm => by
    obtain ⟨k, rfl⟩ : ∃ j, m = j + 1 := ⟨m - 1, by omega⟩
    simp only [edits_Shift.j0]; rfl⟩
  by_cases h : at_ < 0
  · simp only [if_pos h]; exact hbad
  · simp only [if_neg h]
    by_cases h' : at_ > 4611686018427387904
    · simp only [if_pos h']; exact hbad
    · simp only [if_neg h']
      refine (valid_is _ l).bind ?_
      by_cases hv : vspec 4611686018427387904 l = 0
      · rw [if_neg (by simpa using hv)]
        have hl := (vspec_zero hv).1
        obtain ⟨K, hK⟩ := sh_loop at_ l hl l.length 0 at_ (by omega) (by omega)
        refine ⟨K + 1, fun m hm => ?_⟩
        obtain ⟨k, rfl⟩ : ∃ j, m = j + 1 := ⟨m - 1, by omega⟩
        simp only [edits_Shift.j0]
        rw [if_neg (by simp [hv])]
        exact hK k (by omega)
      · rw [if_pos hv, show (vspec 4611686018427387904 l != 0) = true by simpa using hv]
        exact hbad
theorem RShift_is (l : List S42) (at_ : Int) : Ev (fun k => monikerref1_Shift.f k l at_) (Shspec l at_) := by
  unfold monikerref1_Shift.f Shspec
  have hbad : Ev (fun k => monikerref1_Shift.j0 k l at_ true) (0, false) := ⟨1, fun m hm => by
    obtain ⟨k, rfl⟩ : ∃ j, m = j + 1 := ⟨m - 1, by omega⟩
    simp only [monikerref1_Shift.j0]; rfl⟩
  by_cases h : at_ < 0
  · simp only [if_pos h]; exact hbad
  · simp only [if_neg h]
    by_cases h' : at_ > 4611686018427387904
    · simp only [if_pos h']; exact hbad
    · simp only [if_neg h']
      refine (rvalid_is _ l).bind ?_
      by_cases hv : vspec 4611686018427387904 l = 0
      · rw [if_neg (by simpa using hv)]
        obtain ⟨hl, hc⟩ := vspec_zero hv
        rw [sh_eq at_ _ l at_ none hc]
        obtain ⟨K, hK⟩ := rsh_loop at_ l hl l.length 0 at_ (by omega) (by omega)
        refine ⟨K + 1, fun m hm => ?_⟩
        obtain ⟨k, rfl⟩ : ∃ j, m = j + 1 := ⟨m - 1, by omega⟩
        simp only [monikerref1_Shift.j0]
        rw [if_neg (by simp [hv])]
        exact hK k (by omega)
      · rw [if_pos hv, show (vspec 4611686018427387904 l != 0) = true by simpa using hv]
        exact hbad
end Go.Proofs.Ytaihajmdngoeiaa.Q
