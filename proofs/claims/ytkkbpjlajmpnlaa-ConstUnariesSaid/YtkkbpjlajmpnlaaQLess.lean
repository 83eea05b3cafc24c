import Derived.Test.YtkkbpjlajmpnlaaF11
import Derived.Lib.Strings
namespace Go.Proofs.Ytkkbpjlajmpnlaa.Q
open Go.RowKit Go.Proofs.YtkkbpjlajmpnlaaW.PrintWords Go.Proofs.YtkkbpjlajmpnlaaW.PrintLast Go.Proofs.YtkkbpjlajmpnlaaW.PrintMore
open Go.Proofs.Ytkkbpjlajmpnlaa.F

theorem w64 {x : Int} (h0 : -9223372036854775808 ≤ x) (h1 : x ≤ 9223372036854775807) : wrap64 x = x := by unfold wrap64; omega
theorem empty_list : (⟨#[]⟩ : ByteArray).toList = [] := by rw [Lib.toList_data]
theorem len_lt (s : ByteArray) (i : Nat) (h : i < s.size) : i < s.data.toList.length := by rw [Array.length_toList]; exact h
theorem bt_nat (s : ByteArray) (i : Nat) (h : i < s.size) : bt s (i : Int) = ((s.data.toList[i]'(len_lt s i h)).toNat : Int) := by
  have := bt_at s (i : Int) (by simpa using h)
  rw [← this]
  rfl
theorem drop_cons (s : ByteArray) (i : Nat) (h : i < s.size) : s.data.toList.drop i = (s.data.toList[i]'(len_lt s i h)) :: s.data.toList.drop (i + 1) := List.drop_eq_getElem_cons _
theorem drop_nil (s : ByteArray) (i : Nat) (h : ¬ i < s.size) : s.data.toList.drop i = [] := List.drop_eq_nil_of_le (by rw [Array.length_toList]; exact Nat.le_of_not_lt h)

theorem before_loop (a b : ByteArray) (ha : a.size ≤ 9223372036854775806) (d : Nat) : ∀ i, i ≤ a.size → i ≤ b.size → a.size - i = d →
    Ev (fun k => monikerref8_before.l0 k a b (i : Int)) (Op.bytesLess (a.data.toList.drop i) (b.data.toList.drop i)) := by
  have stop : ∀ (k : Nat) (i : Nat), monikerref8_before.j1 (k + 1) a b (i : Int) false = some (decide ((a.size : Int) < (b.size : Int))) := by
    intro k i
    simp only [monikerref8_before.j1]
    rw [if_neg (by simp)]
  induction d with
  | zero =>
    intro i h1 h2 h3
    refine ⟨2, fun n hn => ?_⟩
    obtain ⟨k, rfl⟩ : ∃ m, n = m + 2 := ⟨n - 2, by omega⟩
    simp only [monikerref8_before.l0]
    rw [if_neg (by omega), stop, drop_nil a i (by omega)]
    by_cases h : i < b.size
    · rw [drop_cons b i h]
      simp only [Op.bytesLess]
      rw [decide_eq_true (by omega)]
    · rw [drop_nil b i h]
      simp only [Op.bytesLess]
      rw [decide_eq_false (by omega)]
  | succ d ih =>
    intro i h1 h2 h3
    have hia : i < a.size := by omega
    have hca : (i : Int) < (a.size : Int) := by omega
    have hc0 : (0 : Int) ≤ (i : Int) := by omega
    have hw : wrap64 ((i : Int) + 1) = ((i + 1 : Nat) : Int) := by rw [w64] <;> omega
    by_cases hib : i < b.size
    · have hcb : (i : Int) < (b.size : Int) := by omega
      obtain ⟨K, hK⟩ := ih (i + 1) (by omega) (by omega) (by omega)
      have ea := bt_nat a i hia
      have eb := bt_nat b i hib
      rw [drop_cons a i hia, drop_cons b i hib]
      generalize hxa : (a.data.toList[i]'(len_lt a i hia)) = xa at *
      generalize hxb : (b.data.toList[i]'(len_lt b i hib)) = xb at *
      refine ⟨K + 2, fun n hn => ?_⟩
      obtain ⟨k, rfl⟩ : ∃ m, n = m + 2 := ⟨n - 2, by omega⟩
      have g := hK k (by omega)
      simp only at g
      simp only [monikerref8_before.l0]
      rw [if_pos hca, decide_eq_true hcb]
      simp only [monikerref8_before.j1]
      rw [if_pos trivial, if_pos hc0, if_pos hca, if_pos hcb, hw, ea, eb]
      simp only [Op.bytesLess]
      by_cases he : ((xa.toNat : Nat) : Int) = ((xb.toNat : Nat) : Int)
      · have : xa = xb := UInt8.toNat_inj.1 (by omega)
        subst this
        rw [if_pos he, g]
        simp
      · have hne : ¬ xa = xb := fun h => he (by rw [h])
        rw [if_neg he]
        have : (xa == xb) = false := by simpa using hne
        rw [this]
        simp [UInt8.lt_iff_toNat_lt]
    · refine ⟨2, fun n hn => ?_⟩
      obtain ⟨k, rfl⟩ : ∃ m, n = m + 2 := ⟨n - 2, by omega⟩
      simp only [monikerref8_before.l0]
      rw [if_pos hca, decide_eq_false (by omega), stop, drop_nil b i hib]
      simp only [Op.bytesLess]
      rw [decide_eq_false (by omega)]
theorem before_is (a b : ByteArray) (ha : a.size ≤ 9223372036854775806) : Ev (fun k => monikerref8_before.f k a b) (Op.bytesLess a.toList b.toList) := by
  unfold monikerref8_before.f
  have := before_loop a b ha a.size 0 (by omega) (by omega) (by omega)
  rw [Lib.toList_data, Lib.toList_data]
  simpa using this
theorem bytesLess_self : ∀ l : List UInt8, Op.bytesLess l l = false
  | [] => rfl
  | a :: l => by simp [Op.bytesLess, bytesLess_self l]

/-- Is a value one? -/
def okV (s : Int) (b : Bool) (n : Int) (t : ByteArray) : Bool :=
  if s = 1 then (n == 0 && t.toList == []) else if s = 2 then (!b && t.toList == []) else if s = 3 then (!b && n == 0) else false
theorem right_is (s : Int) (b : Bool) (n : Int) (t : ByteArray) : consts_right.f s b n t = some (okV s b n t) := by
  unfold consts_right.f okV
  by_cases h1 : s = 1
  · rw [if_pos h1, if_pos h1]; simp [consts_truth.f, h1]
  · by_cases h2 : s = 2
    · rw [if_neg h1, if_pos h2, if_neg h1, if_pos h2]; simp [consts_number.f, h2]
    · by_cases h3 : s = 3
      · rw [if_neg h1, if_neg h2, if_pos h3, if_neg h1, if_neg h2, if_pos h3]; simp [consts_words.f, h3]
      · rw [if_neg h1, if_neg h2, if_neg h3, if_neg h1, if_neg h2, if_neg h3]
theorem Right_is (s : Int) (b : Bool) (n : Int) (t : ByteArray) : monikerref8_Right.f s b n t = some (okV s b n t) := by
  unfold monikerref8_Right.f okV
  by_cases h1 : s = 1
  · rw [if_pos h1, if_pos h1]
    by_cases hn : n = 0
    · rw [if_pos hn]; simp [hn]
    · rw [if_neg hn]; simp [hn]
  · by_cases h2 : s = 2
    · rw [if_neg h1, if_pos h2, if_neg h1, if_pos h2]; cases b <;> simp
    · by_cases h3 : s = 3
      · rw [if_neg h1, if_neg h2, if_pos h3, if_neg h1, if_neg h2, if_pos h3]; cases b <;> simp
      · rw [if_neg h1, if_neg h2, if_neg h3, if_neg h1, if_neg h2, if_neg h3]

def lessV (s : Int) (b : Bool) (n : Int) (t : ByteArray) (s' : Int) (b' : Bool) (n' : Int) (t' : ByteArray) : Bool :=
  okV s b n t && okV s' b' n' t' && (s == s') && (if s = 1 then (!b && b') else if s = 2 then decide (n < n') else Op.bytesLess t.toList t'.toList)
theorem Less_is (s : Int) (b : Bool) (n : Int) (t : ByteArray) (s' : Int) (b' : Bool) (n' : Int) (t' : ByteArray) : Ev (fun k => consts_Less.f k s b n t s' b' n' t') (lessV s b n t s' b' n' t') := by
  refine ⟨1, fun m hm => ?_⟩
  obtain ⟨k, rfl⟩ : ∃ j, m = j + 1 := ⟨m - 1, by omega⟩
  simp only [consts_Less.f, right_is, Option.bind_some, consts_Less.j0, lessV]
  cases okV s b n t <;> cases okV s' b' n' t' <;> simp
  by_cases h : s = s'
  · simp [h]
    by_cases h1 : s' = 1
    · simp [h1]; cases b <;> simp
    · simp [h1]
      by_cases h2 : s' = 2
      · simp [h2]
      · simp [h2]
  · simp [h]
theorem RLess_is (s : Int) (b : Bool) (n : Int) (t : ByteArray) (s' : Int) (b' : Bool) (n' : Int) (t' : ByteArray) (ht : t.size ≤ 9223372036854775806) : Ev (fun k => monikerref8_Less.f k s b n t s' b' n' t') (lessV s b n t s' b' n' t') := by
  obtain ⟨K, hK⟩ := before_is t t' ht
  refine ⟨K + 2, fun m hm => ?_⟩
  obtain ⟨k, rfl⟩ : ∃ j, m = j + 2 := ⟨m - 2, by omega⟩
  have g := hK (k + 1) (by omega)
  simp only at g
  simp only [monikerref8_Less.f, Right_is, Option.bind_some, lessV]
  cases hr : okV s b n t
  · simp
  cases hr' : okV s' b' n' t'
  · simp
  by_cases hs : s = s'
  · subst hs
    have ho : monikerref8_order.f (k + 2) s b n t s b' n' t' = some (if (if s = 1 then (!b && b') else if s = 2 then decide (n < n') else Op.bytesLess t.toList t'.toList) = true then -1 else if (b == b' && (n == n' && (t.toList == t'.toList))) = true then 0 else 1) := by
      unfold monikerref8_order.f
      by_cases heq : (b == b' && (n == n' && (t.toList == t'.toList))) = true
      · rw [if_pos (show (s == s && (b == b' && (n == n' && (t.toList == t'.toList)))) = true by rw [heq]; simp), if_pos heq]
        simp only [Bool.and_eq_true, beq_iff_eq] at heq
        obtain ⟨rfl, rfl, h3⟩ := heq
        have : (if s = 1 then (!b && b) else if s = 2 then decide (n < n) else Op.bytesLess t.toList t'.toList) = false := by
          rw [h3, bytesLess_self]
          cases b <;> simp
        rw [this, if_neg (by simp)]
      · rw [if_neg (show ¬ (s == s && (b == b' && (n == n' && (t.toList == t'.toList)))) = true by simpa using heq), if_neg heq]
        by_cases h2 : s = 2
        · subst h2
          simp only [monikerref8_order.j0]
          by_cases hn : n < n'
          · simp [hn]
          · simp [hn, monikerref8_order.j1]
        · by_cases h3 : s = 3
          · subst h3
            simp only [monikerref8_order.j0]
            simp only [g, Option.bind_some, monikerref8_order.j1]
            cases hb : Op.bytesLess t.toList t'.toList <;> simp
          · have h1 : s = 1 := by
              unfold okV at hr
              by_cases h1 : s = 1
              · exact h1
              · rw [if_neg h1, if_neg h2, if_neg h3] at hr; cases hr
            subst h1
            simp only [okV, if_true, Bool.and_eq_true, beq_iff_eq] at hr hr'
            obtain ⟨rfl, ht0⟩ := hr
            obtain ⟨rfl, ht0'⟩ := hr'
            have hbb : b ≠ b' := fun h => heq (by rw [h, ht0, ht0']; simp)
            simp only [monikerref8_order.j0, monikerref8_order.j1]
            cases b <;> cases b' <;> simp_all
    simp only [if_true, ho, Option.bind_some]
    generalize (if s = 1 then (!b && b') else if s = 2 then decide (n < n') else Op.bytesLess t.toList t'.toList) = q
    cases q
    · simp
      split <;> simp
    · simp
  · simp [hs]
theorem ConstLesses (s : Int) (b : Bool) (n : Int) (t : ByteArray) (s' : Int) (b' : Bool) (n' : Int) (t' : ByteArray) (ht : t.size ≤ 9223372036854775806) : ∃ k, monikerlaw8_ConstLesses.f k s b n t s' b' n' t' = some true := by
  refine Ev.rounds ?_
  unfold monikerlaw8_ConstLesses.f
  refine (Less_is s b n t s' b' n' t').bind ((RLess_is s b n t s' b' n' t' ht).bind ?_)
  simp only [beq_self_eq_true]
  exact Ev.now _
end Go.Proofs.Ytkkbpjlajmpnlaa.Q
