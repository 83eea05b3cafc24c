import Derived.Test.YtodldpdnhcafpaaF4
import Derived.Test.YtodldpdnhcafpaaF5
namespace Go.Proofs.Ytodldpdnhcafpaa.Q
open Go.RowKit Go.Proofs.YtodldpdnhcafpaaW.PrintWords Go.Proofs.YtodldpdnhcafpaaW.PrintLast Go.Proofs.YtodldpdnhcafpaaW.PrintMore
open Go.Proofs.Ytodldpdnhcafpaa.F

theorem w64 {x : Int} (h0 : -9223372036854775808 ≤ x) (h1 : x ≤ 9223372036854775807) : wrap64 x = x := by unfold wrap64; omega
def holdsAt (l : List S61) (off : Int) (x : S47) : Prop := 0 ≤ x.f1 ∧ x.f1 < x.f2 ∧ x.f2 ≤ (l.length : Int) ∧ (rd_T61 l x.f1).f1 ≤ off ∧ off < (rd_T61 l (x.f2 - 1)).f2
instance (l : List S61) (off : Int) (x : S47) : Decidable (holdsAt l off x) := by unfold holdsAt; exact inferInstance
def lastAt (l : List S61) (off : Int) (ns : List S47) : Nat → Int
  | 0 => -1
  | i + 1 => if holdsAt l off (rd_T47 ns (i : Int)) then (i : Int) else lastAt l off ns i

theorem at_fwd (l : List S61) (off : Int) (ns : List S47) (hl : l.length ≤ 9223372036854775807) (hn : ns.length ≤ 9223372036854775807) (d : Nat) : ∀ i, i ≤ ns.length → ns.length - i = d →
    Ev (fun k => tree_At.l0 k l off (lastAt l off ns i) ns (ns.length : Int) (i : Int)) (lastAt l off ns ns.length) := by
  induction d with
  | zero =>
    intro i h1 h2
    refine ⟨1, fun n hn => ?_⟩
    obtain ⟨k, rfl⟩ : ∃ m, n = m + 1 := ⟨n - 1, by omega⟩
    simp only [tree_At.l0]
    rw [if_neg (by omega), show i = ns.length by omega]
  | succ d ih =>
    intro i h1 h2
    have hci : (i : Int) < (ns.length : Int) := by omega
    have hc0 : (0 : Int) ≤ (i : Int) := by omega
    have hw : wrap64 ((i : Int) + 1) = ((i + 1 : Nat) : Int) := by rw [w64] <;> omega
    obtain ⟨K, hK⟩ := ih (i + 1) (by omega) (by omega)
    have hstep : lastAt l off ns (i + 1) = if holdsAt l off (rd_T47 ns (i : Int)) then (i : Int) else lastAt l off ns i := rfl
    generalize hx : rd_T47 ns (i : Int) = x at *
    refine ⟨K + 2, fun n hn => ?_⟩
    obtain ⟨k, rfl⟩ : ∃ m, n = m + 2 := ⟨n - 2, by omega⟩
    have g := hK k (by omega)
    simp only at g
    have hj : ∀ b : Bool, b = decide (x.f1 < 0 ∨ x.f1 ≥ x.f2 ∨ x.f2 > (l.length : Int)) → tree_At.j1 (k + 1) l off (lastAt l off ns i) (i : Int) ns (ns.length : Int) (i : Int) b x.f0 x.f1 x.f2 x.f3 = some (lastAt l off ns ns.length) := by
      intro b hb
      simp only [tree_At.j1, hw]
      by_cases hbad : x.f1 < 0 ∨ x.f1 ≥ x.f2 ∨ x.f2 > (l.length : Int)
      · rw [if_pos (by rw [hb]; exact decide_eq_true hbad)]
        rw [hstep, if_neg (by unfold holdsAt; omega)] at g
        exact g
      · have b1 : 0 ≤ x.f1 := by omega
        have b2 : x.f1 < (l.length : Int) := by omega
        have b3 : wrap64 (x.f2 - 1) = x.f2 - 1 := by rw [w64] <;> omega
        have b4 : 0 ≤ x.f2 - 1 := by omega
        have b5 : x.f2 - 1 < (l.length : Int) := by omega
        rw [if_neg (by rw [hb]; simpa using hbad), if_pos b1, if_pos b2, b3]
        by_cases c1 : (rd_T61 l x.f1).f1 ≤ off
        · rw [if_pos c1, if_pos b4, if_pos b5]
          by_cases c2 : off < (rd_T61 l (x.f2 - 1)).f2
          · rw [if_pos c2]
            rw [hstep, if_pos ⟨by omega, by omega, by omega, c1, c2⟩] at g
            exact g
          · rw [if_neg c2]
            rw [hstep, if_neg (fun h => c2 h.2.2.2.2)] at g
            exact g
        · rw [if_neg c1]
          rw [hstep, if_neg (fun h => c1 h.2.2.2.1)] at g
          exact g
    simp only [tree_At.l0]
    rw [hx, if_pos hci, if_pos hc0, if_pos hci]
    by_cases c1 : x.f1 < 0
    · rw [if_pos c1]; exact hj _ (by simp [c1])
    · rw [if_neg c1]
      by_cases c2 : x.f1 ≥ x.f2
      · rw [if_pos c2]; exact hj _ (by simp [c2])
      · rw [if_neg c2]; exact hj _ (decide_eq_decide.2 ⟨fun h => .inr (.inr h), fun h => by omega⟩)

theorem at_back (l : List S61) (off : Int) (ns : List S47) (hl : l.length ≤ 9223372036854775807) : ∀ i, i ≤ ns.length → ns.length ≤ 9223372036854775807 →
    Ev (fun k => monikerref4_At.l0 k l off ((i : Int) - 1) ns) (lastAt l off ns i) := by
  intro i
  induction i with
  | zero =>
    intro h1 h2
    refine ⟨1, fun n hn => ?_⟩
    obtain ⟨k, rfl⟩ : ∃ m, n = m + 1 := ⟨n - 1, by omega⟩
    simp only [monikerref4_At.l0]
    rw [if_neg (by omega)]
    rfl
  | succ i ih =>
    intro h1 h2
    have hci : (i : Int) < (ns.length : Int) := by omega
    have hc0 : (i : Int) ≥ 0 := by omega
    have hcw : wrap64 ((i : Int) - 1) = (i : Int) - 1 := by rw [w64] <;> omega
    have hi1 : ((i + 1 : Nat) : Int) - 1 = (i : Int) := by omega
    obtain ⟨K, hK⟩ := ih (by omega) h2
    have hstep : lastAt l off ns (i + 1) = if holdsAt l off (rd_T47 ns (i : Int)) then (i : Int) else lastAt l off ns i := rfl
    rw [hi1]
    generalize hx : rd_T47 ns (i : Int) = x at *
    refine ⟨K + 1, fun n hn => ?_⟩
    obtain ⟨k, rfl⟩ : ∃ m, n = m + 1 := ⟨n - 1, by omega⟩
    have g := hK k (by omega)
    simp only at g
    simp only [monikerref4_At.l0]
    rw [hx, if_pos hc0, if_pos hc0, if_pos hci, hcw, hstep]
    by_cases c1 : x.f1 ≥ 0
    · by_cases c2 : x.f1 < x.f2
      · by_cases c3 : x.f2 ≤ (l.length : Int)
        · have b2 : x.f1 < (l.length : Int) := by omega
          have b3 : wrap64 (x.f2 - 1) = x.f2 - 1 := by rw [w64] <;> omega
          have b4 : 0 ≤ x.f2 - 1 := by omega
          have b5 : x.f2 - 1 < (l.length : Int) := by omega
          rw [if_pos c1, if_pos c2, if_pos c3, if_pos c1, if_pos b2, b3]
          by_cases c4 : (rd_T61 l x.f1).f1 ≤ off
          · rw [if_pos c4, if_pos b4, if_pos b5]
            by_cases c5 : off < (rd_T61 l (x.f2 - 1)).f2
            · rw [if_pos c5, if_pos ⟨c1, c2, c3, c4, c5⟩]
            · rw [if_neg c5, if_neg (fun h => c5 h.2.2.2.2)]; exact g
          · rw [if_neg c4, if_neg (fun h => c4 h.2.2.2.1)]; exact g
        · rw [if_pos c1, if_pos c2, if_neg c3, if_neg (fun h => c3 h.2.2.1)]; exact g
      · rw [if_pos c1, if_neg c2, if_neg (fun h => c2 h.2.1)]; exact g
    · rw [if_neg c1, if_neg (fun h => c1 h.1)]; exact g

theorem At_is (l : List S61) (ns : List S47) (off : Int) (hl : l.length ≤ 9223372036854775807) (hn : ns.length ≤ 9223372036854775807) : Ev (fun k => tree_At.f k l ns off) (lastAt l off ns ns.length) := by
  unfold tree_At.f
  exact at_fwd l off ns hl hn ns.length 0 (by omega) (by omega)
theorem RAt_is (l : List S61) (ns : List S47) (off : Int) (hl : l.length ≤ 9223372036854775807) (hn : ns.length ≤ 9223372036854775807) : Ev (fun k => monikerref4_At.f k l ns off) (lastAt l off ns ns.length) := by
  unfold monikerref4_At.f
  rw [w64 (by omega) (by omega)]
  exact at_back l off ns hl ns.length (by omega) hn
end Go.Proofs.Ytodldpdnhcafpaa.Q
