import Derived.Test.YtodldpdnhcafpaaF6
import Derived.Test.YtodldpdnhcafpaaF7
import Derived.Test.YtodldpdnhcafpaaF10
namespace Go.Proofs.Ytodldpdnhcafpaa.Q
open Go.RowKit Go.Proofs.YtodldpdnhcafpaaW.PrintWords Go.Proofs.YtodldpdnhcafpaaW.PrintLast Go.Proofs.YtodldpdnhcafpaaW.PrintMore
open Go.Proofs.Ytodldpdnhcafpaa.F

theorem SameTokens_loop (l : List S61) (hl : l.length ≤ 9223372036854775807) (d : Nat) : ∀ i, i ≤ l.length → l.length - i = d →
    Ev (fun k => monikerplain_SameTokens.l0 k l l (l.length : Int) (i : Int)) true := by
  induction d with
  | zero =>
    intro i h1 h2
    refine ⟨1, fun n hn => ?_⟩
    obtain ⟨k, rfl⟩ : ∃ m, n = m + 1 := ⟨n - 1, by omega⟩
    simp only [monikerplain_SameTokens.l0]
    rw [if_neg (by omega)]
  | succ d ih =>
    intro i h1 h2
    obtain ⟨K, hK⟩ := ih (i + 1) (by omega) (by omega)
    refine ⟨K + 1, fun n hn => ?_⟩
    obtain ⟨k, rfl⟩ : ∃ m, n = m + 1 := ⟨n - 1, by omega⟩
    simp only [monikerplain_SameTokens.l0]
    rw [if_pos (by omega), if_pos (by omega), if_pos (by omega), if_pos (by omega), if_neg (by simp), show wrap64 ((i : Int) + 1) = ((i + 1 : Nat) : Int) by unfold wrap64; omega]
    exact hK k (by omega)
theorem SameTokens_is (l : List S61) (hl : l.length ≤ 9223372036854775807) : Ev (fun k => monikerplain_SameTokens.f k l l) true := by
  unfold monikerplain_SameTokens.f
  simp only [↓reduceIte]
  exact SameTokens_loop l hl l.length 0 (by omega) (by omega)

theorem SameInts_loop (l : List Int) (hl : l.length ≤ 9223372036854775807) (d : Nat) : ∀ i, i ≤ l.length → l.length - i = d →
    Ev (fun k => monikerplain_SameInts.l0 k l l (l.length : Int) (i : Int)) true := by
  induction d with
  | zero =>
    intro i h1 h2
    refine ⟨1, fun n hn => ?_⟩
    obtain ⟨k, rfl⟩ : ∃ m, n = m + 1 := ⟨n - 1, by omega⟩
    simp only [monikerplain_SameInts.l0]
    rw [if_neg (by omega)]
  | succ d ih =>
    intro i h1 h2
    obtain ⟨K, hK⟩ := ih (i + 1) (by omega) (by omega)
    refine ⟨K + 1, fun n hn => ?_⟩
    obtain ⟨k, rfl⟩ : ∃ m, n = m + 1 := ⟨n - 1, by omega⟩
    simp only [monikerplain_SameInts.l0]
    rw [if_pos (by omega), if_pos (by omega), if_pos (by omega), if_pos (by omega), if_pos (by simp), show wrap64 ((i : Int) + 1) = ((i + 1 : Nat) : Int) by unfold wrap64; omega]
    exact hK k (by omega)
theorem SameInts_is (l : List Int) (hl : l.length ≤ 9223372036854775807) : Ev (fun k => monikerplain_SameInts.f k l l) true := by
  unfold monikerplain_SameInts.f
  simp only [↓reduceIte]
  exact SameInts_loop l hl l.length 0 (by omega) (by omega)

theorem SameTree_loop (l : List S47) (hl : l.length ≤ 9223372036854775807) (d : Nat) : ∀ i, i ≤ l.length → l.length - i = d →
    Ev (fun k => monikerplain_SameTree.l0 k (l.length : Int) (i : Int) l l) true := by
  induction d with
  | zero =>
    intro i h1 h2
    refine ⟨1, fun n hn => ?_⟩
    obtain ⟨k, rfl⟩ : ∃ m, n = m + 1 := ⟨n - 1, by omega⟩
    simp only [monikerplain_SameTree.l0]
    rw [if_neg (by omega)]
  | succ d ih =>
    intro i h1 h2
    obtain ⟨K, hK⟩ := ih (i + 1) (by omega) (by omega)
    refine ⟨K + 1, fun n hn => ?_⟩
    obtain ⟨k, rfl⟩ : ∃ m, n = m + 1 := ⟨n - 1, by omega⟩
    simp only [monikerplain_SameTree.l0]
    rw [if_pos (by omega), if_pos (by omega), if_pos (by omega), if_pos (by omega), if_neg (by simp), show wrap64 ((i : Int) + 1) = ((i + 1 : Nat) : Int) by unfold wrap64; omega]
    exact hK k (by omega)
theorem SameTree_is (l : List S47) (hl : l.length ≤ 9223372036854775807) : Ev (fun k => monikerplain_SameTree.f k l l) true := by
  unfold monikerplain_SameTree.f
  simp only [↓reduceIte]
  exact SameTree_loop l hl l.length 0 (by omega) (by omega)
end Go.Proofs.Ytodldpdnhcafpaa.Q
