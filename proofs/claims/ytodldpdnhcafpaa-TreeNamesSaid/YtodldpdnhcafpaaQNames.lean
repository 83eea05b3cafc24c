import Derived.Test.YtodldpdnhcafpaaQAt
import Derived.Test.YtodldpdnhcafpaaF11
import Derived.Test.YtodldpdnhcafpaaF12
import Derived.Test.YtodldpdnhcafpaaF13
import Derived.Test.YtodldpdnhcafpaaF14
namespace Go.Proofs.Ytodldpdnhcafpaa.Q
open Go.RowKit Go.Proofs.YtodldpdnhcafpaaW.PrintWords Go.Proofs.YtodldpdnhcafpaaW.PrintLast Go.Proofs.YtodldpdnhcafpaaW.PrintMore
open Go.Proofs.Ytodldpdnhcafpaa.F

def wd (s : ByteArray) (b c : Int) : ByteArray := if b < 0 then ⟨#[]⟩ else if c < b then ⟨#[]⟩ else if c > (s.size : Int) then ⟨#[]⟩ else s.extract b.toNat c.toNat
theorem word_is (s : ByteArray) (a b c : Int) : tree_word.f s a b c = some (wd s b c) := by
  unfold tree_word.f wd
  by_cases h1 : b < 0
  · rw [if_pos h1, if_pos h1]
  · by_cases h2 : c < b
    · rw [if_neg h1, if_pos h2, if_neg h1, if_pos h2]
    · by_cases h3 : c > (s.size : Int)
      · rw [if_neg h1, if_neg h2, if_pos h3, if_neg h1, if_neg h2, if_pos h3]
      · rw [if_neg h1, if_neg h2, if_neg h3, if_neg h1, if_neg h2, if_neg h3, if_pos (by omega), if_pos (by omega), if_pos (by omega)]
theorem rword_is (s : ByteArray) (a b c : Int) : monikerref4_Word.f s a b c = some (wd s b c) := word_is s a b c
theorem rd47_at (l : List S47) (i : Nat) (h : i < l.length) : rd_T47 l (i : Int) = l[i] := by
  simp [rd_T47, List.getD_eq_getElem?_getD, h]

def nameStep (s : ByteArray) (l : List S61) (x : S47) : List Int :=
  if x.f0 = 45 then if x.f1 < 0 then [] else if x.f1 ≥ (l.length : Int) then [] else if ((rd_T61 l x.f1).f0 != 2) = true then [] else
    if (wd s (rd_T61 l x.f1).f1 (rd_T61 l x.f1).f2).toList = ([] : List UInt8) then [] else if (wd s (rd_T61 l x.f1).f1 (rd_T61 l x.f1).f2).toList = ([95] : List UInt8) then [] else [x.f1] else []
theorem nameStep_len (s : ByteArray) (l : List S61) (x : S47) : (nameStep s l x).length ≤ 1 := by
  unfold nameStep
  repeat' split
  all_goals simp
theorem tnames_loop (s : ByteArray) (l : List S61) (ns : List S47) (hn : ns.length ≤ 4398046511104) (d : Nat) : ∀ i out, i ≤ ns.length → ns.length - i = d → out.length ≤ i →
    Ev (fun k => tree_Names.l0 k s l out ns (ns.length : Int) (i : Int)) (out ++ (ns.drop i).flatMap (nameStep s l)) := by
  induction d with
  | zero =>
    intro i out h1 h2 h3
    refine ⟨1, fun n hn => ?_⟩
    obtain ⟨k, rfl⟩ : ∃ m, n = m + 1 := ⟨n - 1, by omega⟩
    simp only [tree_Names.l0]
    rw [if_neg (by omega), List.drop_eq_nil_of_le (by omega)]
    simp
  | succ d ih =>
    intro i out h1 h2 h3
    have hi : i < ns.length := by omega
    have hci : (i : Int) < (ns.length : Int) := by omega
    have hc0 : (0 : Int) ≤ (i : Int) := by omega
    have hw : wrap64 ((i : Int) + 1) = ((i + 1 : Nat) : Int) := by rw [w64] <;> omega
    have hol : out.length < 17592186044416 := by omega
    have hsl := nameStep_len s l ns[i]
    obtain ⟨K, hK⟩ := ih (i + 1) (out ++ nameStep s l ns[i]) (by omega) (by omega) (by rw [List.length_append]; omega)
    have hr : rd_T47 ns (i : Int) = ns[i] := rd47_at ns i hi
    rw [List.drop_eq_getElem_cons hi, List.flatMap_cons, ← List.append_assoc]
    generalize ns[i] = x at *
    refine ⟨K + 2, fun n hn => ?_⟩
    obtain ⟨k, rfl⟩ : ∃ m, n = m + 2 := ⟨n - 2, by omega⟩
    have g := hK k (by omega)
    simp only at g
    have hj : ∀ b : Bool, b = decide (¬ (x.f0 = 45 ∧ 0 ≤ x.f1 ∧ x.f1 < (l.length : Int) ∧ (rd_T61 l x.f1).f0 = 2)) → tree_Names.j1 (k + 1) s l out ns (ns.length : Int) (i : Int) b x.f0 x.f1 x.f2 x.f3 = some (out ++ nameStep s l x ++ (ns.drop (i + 1)).flatMap (nameStep s l)) := by
      intro b hb
      simp only [tree_Names.j1, hw]
      by_cases hg : x.f0 = 45 ∧ 0 ≤ x.f1 ∧ x.f1 < (l.length : Int) ∧ (rd_T61 l x.f1).f0 = 2
      · obtain ⟨g1, g2, g3, g4⟩ := hg
        rw [if_neg (by rw [hb]; simp [g1, g2, g3, g4]), if_pos g2, if_pos g3, word_is]
        simp only [Option.bind_some]
        have hz0 : nameStep s l x = if (wd s (rd_T61 l x.f1).f1 (rd_T61 l x.f1).f2).toList = ([] : List UInt8) then [] else if (wd s (rd_T61 l x.f1).f1 (rd_T61 l x.f1).f2).toList = ([95] : List UInt8) then [] else [x.f1] := by
          unfold nameStep
          rw [if_pos g1, if_neg (by omega), if_neg (by omega), if_neg (by simp [g4])]
        rw [hz0] at g ⊢
        by_cases c1 : (wd s (rd_T61 l x.f1).f1 (rd_T61 l x.f1).f2).toList = ([] : List UInt8)
        · simp only [if_pos c1, List.append_nil] at g ⊢
          exact g
        · simp only [if_neg c1] at g ⊢
          by_cases c2 : (wd s (rd_T61 l x.f1).f1 (rd_T61 l x.f1).f2).toList = ([95] : List UInt8)
          · simp only [if_pos c2, List.append_nil] at g ⊢
            exact g
          · simp only [if_neg c2, if_pos hol] at g ⊢
            exact g
      · rw [if_pos (by rw [hb]; exact decide_eq_true hg)]
        have hz : nameStep s l x = [] := by
          unfold nameStep
          by_cases z1 : x.f0 = 45
          · rw [if_pos z1]
            by_cases z2 : x.f1 < 0
            · rw [if_pos z2]
            · rw [if_neg z2]
              by_cases z3 : x.f1 ≥ (l.length : Int)
              · rw [if_pos z3]
              · rw [if_neg z3, if_pos (by
                  have : ¬ (rd_T61 l x.f1).f0 = 2 := fun h => hg ⟨z1, by omega, by omega, h⟩
                  simpa using this)]
          · rw [if_neg z1]
        rw [hz, List.append_nil] at g ⊢
        exact g
    simp only [tree_Names.l0]
    rw [hr, if_pos hci, if_pos hc0, if_pos hci]
    by_cases z1 : x.f0 = 45
    · rw [if_pos z1]
      by_cases z2 : x.f1 < 0
      · rw [if_pos z2]; exact hj _ (by simp [z1]; omega)
      · rw [if_neg z2]
        by_cases z3 : x.f1 ≥ (l.length : Int)
        · rw [if_pos z3]; exact hj _ (by simp [z1]; omega)
        · have z4 : 0 ≤ x.f1 := by omega
          have z5 : x.f1 < (l.length : Int) := by omega
          rw [if_neg z3, if_pos z4, if_pos z5]
          exact hj _ (by
            by_cases z6 : (rd_T61 l x.f1).f0 = 2
            · simp [z1, z4, z5, z6]
            · simp [z1, z4, z5, z6])
    · rw [if_neg z1]; exact hj _ (by simp [z1])
theorem rnames_loop (s : ByteArray) (l : List S61) (ns : List S47) (hn : ns.length ≤ 4398046511104) (d : Nat) : ∀ i out, i ≤ ns.length → ns.length - i = d → out.length ≤ i →
    Ev (fun k => monikerref4_Names.l0 k s l out (i : Int) ns) (out ++ (ns.drop i).flatMap (nameStep s l)) := by
  induction d with
  | zero =>
    intro i out h1 h2 h3
    refine ⟨1, fun n hn => ?_⟩
    obtain ⟨k, rfl⟩ : ∃ m, n = m + 1 := ⟨n - 1, by omega⟩
    simp only [monikerref4_Names.l0]
    rw [if_neg (by omega), List.drop_eq_nil_of_le (by omega)]
    simp
  | succ d ih =>
    intro i out h1 h2 h3
    have hi : i < ns.length := by omega
    have hci : (i : Int) < (ns.length : Int) := by omega
    have hc0 : (0 : Int) ≤ (i : Int) := by omega
    have hw : wrap64 ((i : Int) + 1) = ((i + 1 : Nat) : Int) := by rw [w64] <;> omega
    have hol : out.length < 17592186044416 := by omega
    have hsl := nameStep_len s l ns[i]
    obtain ⟨K, hK⟩ := ih (i + 1) (out ++ nameStep s l ns[i]) (by omega) (by omega) (by rw [List.length_append]; omega)
    have hr : rd_T47 ns (i : Int) = ns[i] := rd47_at ns i hi
    rw [List.drop_eq_getElem_cons hi, List.flatMap_cons, ← List.append_assoc]
    generalize ns[i] = x at *
    refine ⟨K + 2, fun n hn => ?_⟩
    obtain ⟨k, rfl⟩ : ∃ m, n = m + 2 := ⟨n - 2, by omega⟩
    have g := hK k (by omega)
    simp only at g
    have hj : ∀ b : Bool, b = decide (¬ (x.f0 = 45 ∧ 0 ≤ x.f1 ∧ x.f1 < (l.length : Int) ∧ (rd_T61 l x.f1).f0 = 2)) → monikerref4_Names.j1 (k + 1) s l out (i : Int) b ns x.f0 x.f1 x.f2 x.f3 = some (out ++ nameStep s l x ++ (ns.drop (i + 1)).flatMap (nameStep s l)) := by
      intro b hb
      simp only [monikerref4_Names.j1, hw]
      by_cases hg : x.f0 = 45 ∧ 0 ≤ x.f1 ∧ x.f1 < (l.length : Int) ∧ (rd_T61 l x.f1).f0 = 2
      · obtain ⟨g1, g2, g3, g4⟩ := hg
        rw [if_neg (by rw [hb]; simp [g1, g2, g3, g4]), if_pos g2, if_pos g3, rword_is]
        simp only [Option.bind_some]
        have hz0 : nameStep s l x = if (wd s (rd_T61 l x.f1).f1 (rd_T61 l x.f1).f2).toList = ([] : List UInt8) then [] else if (wd s (rd_T61 l x.f1).f1 (rd_T61 l x.f1).f2).toList = ([95] : List UInt8) then [] else [x.f1] := by
          unfold nameStep
          rw [if_pos g1, if_neg (by omega), if_neg (by omega), if_neg (by simp [g4])]
        rw [hz0] at g ⊢
        by_cases c1 : (wd s (rd_T61 l x.f1).f1 (rd_T61 l x.f1).f2).toList = ([] : List UInt8)
        · simp only [if_pos c1, List.append_nil] at g ⊢
          exact g
        · simp only [if_neg c1] at g ⊢
          by_cases c2 : (wd s (rd_T61 l x.f1).f1 (rd_T61 l x.f1).f2).toList = ([95] : List UInt8)
          · simp only [if_pos c2, List.append_nil] at g ⊢
            exact g
          · simp only [if_neg c2, if_pos hol] at g ⊢
            exact g
      · rw [if_pos (by rw [hb]; exact decide_eq_true hg)]
        have hz : nameStep s l x = [] := by
          unfold nameStep
          by_cases z1 : x.f0 = 45
          · rw [if_pos z1]
            by_cases z2 : x.f1 < 0
            · rw [if_pos z2]
            · rw [if_neg z2]
              by_cases z3 : x.f1 ≥ (l.length : Int)
              · rw [if_pos z3]
              · rw [if_neg z3, if_pos (by
                  have : ¬ (rd_T61 l x.f1).f0 = 2 := fun h => hg ⟨z1, by omega, by omega, h⟩
                  simpa using this)]
          · rw [if_neg z1]
        rw [hz, List.append_nil] at g ⊢
        exact g
    simp only [monikerref4_Names.l0]
    rw [hr, if_pos hci, if_pos hc0]
    by_cases z1 : x.f0 = 45
    · rw [if_pos z1]
      by_cases z2 : x.f1 < 0
      · rw [if_pos z2]; exact hj _ (by simp [z1]; omega)
      · rw [if_neg z2]
        by_cases z3 : x.f1 ≥ (l.length : Int)
        · rw [if_pos z3]; exact hj _ (by simp [z1]; omega)
        · have z4 : 0 ≤ x.f1 := by omega
          have z5 : x.f1 < (l.length : Int) := by omega
          rw [if_neg z3, if_pos z4, if_pos z5]
          exact hj _ (by
            by_cases z6 : (rd_T61 l x.f1).f0 = 2
            · simp [z1, z4, z5, z6]
            · simp [z1, z4, z5, z6])
    · rw [if_neg z1]; exact hj _ (by simp [z1])
theorem Names_is (s : ByteArray) (l : List S61) (ns : List S47) (hn : ns.length ≤ 4398046511104) : Ev (fun k => tree_Names.f k s l ns) (ns.flatMap (nameStep s l)) := by
  unfold tree_Names.f
  have := tnames_loop s l ns hn ns.length 0 [] (by omega) (by omega) (by simp)
  simpa using this
theorem RNames_is (s : ByteArray) (l : List S61) (ns : List S47) (hn : ns.length ≤ 4398046511104) : Ev (fun k => monikerref4_Names.f k s l ns) (ns.flatMap (nameStep s l)) := by
  unfold monikerref4_Names.f
  have := rnames_loop s l ns hn ns.length 0 [] (by omega) (by omega) (by simp)
  simpa using this
end Go.Proofs.Ytodldpdnhcafpaa.Q
