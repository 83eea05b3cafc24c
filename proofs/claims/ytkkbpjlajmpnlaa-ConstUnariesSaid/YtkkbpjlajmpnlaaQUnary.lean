import Derived.Test.YtkkbpjlajmpnlaaQLess
import Derived.Test.YtkkbpjlajmpnlaaF21
import Derived.Laws.BitsAllLaws
namespace Go.Proofs.Ytkkbpjlajmpnlaa.Q
open Go.RowKit Go.Proofs.YtkkbpjlajmpnlaaW.PrintWords Go.Proofs.YtkkbpjlajmpnlaaW.PrintLast Go.Proofs.YtkkbpjlajmpnlaaW.PrintMore
open Go.Proofs.Ytkkbpjlajmpnlaa.F

theorem not_i64 (n : Int) : Go.bits .xor .i64 (-1) n = wrap64 ((-1) - n) := by
  show IntKind.i64.wrap ((BitVec.ofInt 64 (-1) ^^^ BitVec.ofInt 64 n).toNat : Int) = _
  have h1 : BitVec.ofInt 64 (-1) = BitVec.allOnes 64 := by decide
  rw [h1, BitVec.allOnes_xor, BitVec.toNat_not, BitVec.toNat_ofInt]
  simp [IntKind.wrap, IntKind.bits, IntKind.signed]
  unfold wrap64
  omega

def wordsL : List ByteArray := (monikerref2_Words.f).getD []
def marksL : List ByteArray := (monikerref2_Marks.f).getD []
theorem Words_is : monikerref2_Words.f = some wordsL := rfl
theorem Marks_is : monikerref2_Marks.f = some marksL := rfl
theorem words_len : ((wordsL.length : Nat) : Int) = 25 := rfl
theorem marks_len : ((marksL.length : Nat) : Int) = 48 := rfl
theorem wr32 : wrap64 32 = 32 := by rw [w64] <;> omega
theorem wr80 : wrap64 80 = 80 := by rw [w64] <;> omega
def spell (op : Int) : ByteArray := if 7 ≤ op ∧ op < 32 then wordsL.getD (op - 7).toNat ByteArray.empty else if 32 ≤ op ∧ op < 80 then marksL.getD (op - 32).toNat ByteArray.empty else ⟨#[]⟩
theorem Spell_is (op : Int) (h0 : 0 ≤ op) (h1 : op ≤ 255) : Ev (fun k => monikerref2_Spell.f k op) (spell op) := by
  refine ⟨1, fun m hm => ?_⟩
  obtain ⟨k, rfl⟩ : ∃ j, m = j + 1 := ⟨m - 1, by omega⟩
  unfold monikerref2_Spell.f spell
  rw [Words_is, Marks_is]
  simp only [Option.bind_some, words_len, Int.reduceAdd, wr32]
  by_cases h7 : 7 ≤ op
  · rw [if_pos h7]
    by_cases h32 : op < 32
    · rw [decide_eq_true h32, if_pos ⟨h7, h32⟩]
      simp only [monikerref2_Spell.j0, words_len, rdOf]
      rw [if_pos trivial, w64 (by omega) (by omega), if_pos (by omega)]
      exact if_pos (show op - 7 < 25 by omega)
    · rw [decide_eq_false h32, if_neg (fun h => h32 h.2)]
      simp only [monikerref2_Spell.j0, marks_len, rdOf, Int.reduceAdd, wr80]
      rw [if_neg (by simp), if_pos (by omega)]
      by_cases h80 : op < 80
      · rw [if_pos h80, if_pos (show 32 ≤ op ∧ op < 80 from ⟨by omega, h80⟩), w64 (by omega) (by omega), if_pos (by omega)]
        exact if_pos (show op - 32 < 48 by omega)
      · rw [if_neg h80, if_neg (fun h => h80 h.2)]
  · rw [if_neg h7, if_neg (fun h => h7 h.1), if_neg (by omega)]
    simp only [monikerref2_Spell.j0]
    rw [if_neg (by simp), if_neg (by omega)]
def spellOk : Bool := (List.range 256).all fun n =>
  ((spell (n : Int)).data.toList == [43]) == (n == 32) && (((spell (n : Int)).data.toList == [45]) == (n == 33) && ((((spell (n : Int)).data.toList == [94]) == (n == 39)) && (((spell (n : Int)).data.toList == [33]) == (n == 63))))
theorem spell_ok : spellOk = true := by decide +kernel
theorem spell_at (op : Int) (h0 : 0 ≤ op) (h1 : op ≤ 255) : ((spell op).toList = [43] ↔ op = 32) ∧ ((spell op).toList = [45] ↔ op = 33) ∧ ((spell op).toList = [94] ↔ op = 39) ∧ ((spell op).toList = [33] ↔ op = 63) := by
  obtain ⟨n, rfl⟩ := Int.eq_ofNat_of_zero_le h0
  have h := List.all_eq_true.1 spell_ok n (List.mem_range.2 (by omega))
  rw [Lib.toList_data]
  simp only [Bool.and_eq_true, beq_iff_eq] at h
  obtain ⟨a, b, c, d⟩ := h
  have key : ∀ (l : List UInt8) (m : Nat), ((spell (n : Int)).data.toList == l) = (n == m) → ((spell (n : Int)).data.toList = l ↔ (n : Int) = (m : Int)) := by
    intro l m e
    constructor
    · intro h
      have : (n == m) = true := by rw [← e, h]; simp
      have := beq_iff_eq.1 this
      omega
    · intro h
      have : (n == m) = true := by rw [beq_iff_eq]; omega
      rw [← e] at this
      exact beq_iff_eq.1 this
  exact ⟨key _ 32 a, key _ 33 b, key _ 39 c, key _ 63 d⟩

def unV (op s : Int) (b : Bool) (n : Int) (t : ByteArray) : Int × Bool × Int × ByteArray × Int :=
  if ¬ (op = 32 ∨ op = 33 ∨ op = 39 ∨ op = 63) ∨ okV s b n t = false then (0, false, 0, ⟨#[]⟩, 1)
  else if op = 63 then (if s = 1 then (1, !b, 0, ⟨#[]⟩, 0) else (0, false, 0, ⟨#[]⟩, 81))
  else if s = 2 then (if op = 33 then (if n = -9223372036854775808 then (0, false, 0, ⟨#[]⟩, 80) else (2, false, wrap64 (-n), ⟨#[]⟩, 0)) else if op = 39 then (2, false, wrap64 ((-1) - n), ⟨#[]⟩, 0) else (s, b, n, t, 0))
  else (0, false, 0, ⟨#[]⟩, 81)
theorem unV_ok (op s : Int) (b : Bool) (n : Int) (t : ByteArray) (hop : op = 32 ∨ op = 33 ∨ op = 39 ∨ op = 63) (ho : okV s b n t = true) : unV op s b n t = if op = 63 then (if s = 1 then (1, !b, 0, ⟨#[]⟩, 0) else (0, false, 0, ⟨#[]⟩, 81))
  else if s = 2 then (if op = 33 then (if n = -9223372036854775808 then (0, false, 0, ⟨#[]⟩, 80) else (2, false, wrap64 (-n), ⟨#[]⟩, 0)) else if op = 39 then (2, false, wrap64 ((-1) - n), ⟨#[]⟩, 0) else (s, b, n, t, 0))
  else (0, false, 0, ⟨#[]⟩, 81) := by
  unfold unV
  rw [ho, if_neg]
  rintro (h | h)
  · exact h hop
  · cases h
theorem un_j0 (k : Nat) (op s : Int) (b : Bool) (n : Int) (t : ByteArray) (hop : op = 32 ∨ op = 33 ∨ op = 39 ∨ op = 63) : consts_Unary.j0 (k + 1) op (!okV s b n t) s b n t = some (unV op s b n t) := by
  cases ho : okV s b n t
  · simp [consts_Unary.j0, unV, ho]
  · rw [unV_ok op s b n t hop ho]
    simp only [consts_Unary.j0]
    rw [if_neg (by simp)]
    by_cases h63 : op = 63
    · rw [if_pos h63, if_pos h63]
      by_cases h1 : s = 1
      · rw [if_pos h1, if_pos h1]; rfl
      · rw [if_neg h1, if_neg h1]
    · rw [if_neg h63, if_neg h63]
      by_cases h2 : s = 2
      · rw [if_pos h2, if_pos h2]
        by_cases h33 : op = 33
        · rw [if_pos h33, if_pos h33]
          unfold consts_within.f
          by_cases hn : n = -9223372036854775808
          · rw [if_neg (by simp [hn]), if_pos hn]; rfl
          · rw [if_pos (by simpa using hn), if_neg hn]; rfl
        · rw [if_neg h33, if_neg h33]
          by_cases h39 : op = 39
          · rw [if_pos h39, if_pos h39, not_i64]; rfl
          · rw [if_neg h39, if_neg h39]
      · rw [if_neg h2, if_neg h2]
theorem Unary_is (op s : Int) (b : Bool) (n : Int) (t : ByteArray) : Ev (fun k => consts_Unary.f k op s b n t) (unV op s b n t) := by
  refine ⟨1, fun m hm => ?_⟩
  obtain ⟨k, rfl⟩ : ∃ j, m = j + 1 := ⟨m - 1, by omega⟩
  simp only [consts_Unary.f, right_is, Option.bind_some]
  by_cases h1 : op = 32
  · rw [if_pos h1]; exact un_j0 k op s b n t (.inl h1)
  · rw [if_neg h1]
    by_cases h2 : op = 33
    · rw [if_pos h2]; exact un_j0 k op s b n t (.inr (.inl h2))
    · rw [if_neg h2]
      by_cases h3 : op = 39
      · rw [if_pos h3]; exact un_j0 k op s b n t (.inr (.inr (.inl h3)))
      · rw [if_neg h3]
        by_cases h4 : op = 63
        · rw [if_pos h4]; exact un_j0 k op s b n t (.inr (.inr (.inr h4)))
        · rw [if_neg h4]
          simp only [consts_Unary.j0, unV]
          rw [if_pos trivial, if_pos (.inl (by omega))]

theorem run_j1 (k : Nat) (op s : Int) (b : Bool) (n : Int) (t : ByteArray) (h0 : 0 ≤ op) (h1 : op ≤ 255) (hop : op = 32 ∨ op = 33 ∨ op = 39 ∨ op = 63) : monikerref8_Unary.j1 (k + 2) (spell op) (!okV s b n t) s b n t = some (unV op s b n t) := by
  obtain ⟨q1, q2, q3, q4⟩ := spell_at op h0 h1
  simp only [monikerref8_Unary.j1, monikerref8_wrong.f, Option.bind_some]
  cases ho : okV s b n t
  · simp [unV, ho]
  · rw [unV_ok op s b n t hop ho, if_neg (by simp)]
    have hj : ∀ bad : Bool, bad = (((spell op).toList == ([33] : List UInt8)) != (s == 1) || (s == 3)) → monikerref8_Unary.j2 (k + 1) (spell op) bad s b n t = some (if op = 63 then (if s = 1 then (1, !b, 0, ⟨#[]⟩, 0) else (0, false, 0, ⟨#[]⟩, 81))
  else if s = 2 then (if op = 33 then (if n = -9223372036854775808 then (0, false, 0, ⟨#[]⟩, 80) else (2, false, wrap64 (-n), ⟨#[]⟩, 0)) else if op = 39 then (2, false, wrap64 ((-1) - n), ⟨#[]⟩, 0) else (s, b, n, t, 0))
  else (0, false, 0, ⟨#[]⟩, 81)) := by
      intro bad hb
      have hs : s = 1 ∨ s = 2 ∨ s = 3 := by
        unfold okV at ho
        by_cases z1 : s = 1
        · exact .inl z1
        · by_cases z2 : s = 2
          · exact .inr (.inl z2)
          · by_cases z3 : s = 3
            · exact .inr (.inr z3)
            · rw [if_neg z1, if_neg z2, if_neg z3] at ho; cases ho
      simp only [monikerref8_Unary.j2, monikerref8_wrong.f, monikerref8_truth.f, monikerref8_number.f, Option.bind_some]
      by_cases h63 : op = 63
      · have e : (spell op).toList = [33] := q4.2 h63
        rw [if_pos h63]
        rcases hs with rfl | rfl | rfl
        · rw [if_neg (by rw [hb, e]; simp), if_pos e, if_pos rfl]
        · rw [if_pos (by rw [hb, e]; simp), if_neg (by omega)]
        · rw [if_pos (by rw [hb, e]; simp), if_neg (by omega)]
      · have e : ¬ (spell op).toList = [33] := fun h => h63 (q4.1 h)
        have e' : ((spell op).toList == ([33] : List UInt8)) = false := by simpa using e
        rw [if_neg h63]
        rcases hs with rfl | rfl | rfl
        · rw [if_pos (by rw [hb, e']; simp), if_neg (by omega)]
        · rw [if_neg (by rw [hb, e']; simp), if_neg e, if_pos rfl]
          by_cases h39 : op = 39
          · rw [if_pos (q3.2 h39), if_neg (by omega), if_pos h39]
          · rw [if_neg (fun h => h39 (q3.1 h))]
            by_cases h32 : op = 32
            · rw [if_pos (q1.2 h32), if_neg (by omega), if_neg h39]
            · have h33 : op = 33 := by omega
              rw [if_neg (fun h => h32 (q1.1 h)), if_pos h33]
              by_cases hn : n = -9223372036854775808
              · rw [if_pos hn, if_pos hn]
              · rw [if_neg hn, if_neg hn]
        · rw [if_pos (by rw [hb, e']; simp), if_neg (by omega)]
    by_cases hc : (((spell op).toList == ([33] : List UInt8)) != (s == 1)) = true
    · rw [if_pos hc]; exact hj true (by rw [hc]; simp)
    · rw [if_neg hc]; exact hj (s == 3) (by rw [Bool.eq_false_iff.2 hc]; simp)
theorem RUnary_is (op s : Int) (b : Bool) (n : Int) (t : ByteArray) (h0 : 0 ≤ op) (h1 : op ≤ 255) : Ev (fun k => monikerref8_Unary.f k op s b n t) (unV op s b n t) := by
  obtain ⟨K, hK⟩ := Spell_is op h0 h1
  refine ⟨K + 4, fun m hm => ?_⟩
  obtain ⟨k, rfl⟩ : ∃ j, m = j + 4 := ⟨m - 4, by omega⟩
  have g := hK (k + 4) (by omega)
  simp only at g
  obtain ⟨q1, q2, q3, q4⟩ := spell_at op h0 h1
  have e0 : wrap64 op = op := by rw [w64] <;> omega
  simp only [monikerref8_Unary.f, e0, g, Option.bind_some]
  have hyes : ∀ _ : op = 32 ∨ op = 33 ∨ op = 39 ∨ op = 63, monikerref8_Unary.j0 (k + 4) (spell op) true s b n t = some (unV op s b n t) := by
    intro hop
    simp only [monikerref8_Unary.j0, Right_is, Option.bind_some]
    rw [if_pos trivial]
    exact run_j1 (k + 1) op s b n t h0 h1 hop
  by_cases c1 : op = 32
  · rw [if_pos (q1.2 c1)]; exact hyes (.inl c1)
  · rw [if_neg (fun h => c1 (q1.1 h))]
    by_cases c2 : op = 33
    · rw [if_pos (q2.2 c2)]; exact hyes (.inr (.inl c2))
    · rw [if_neg (fun h => c2 (q2.1 h))]
      by_cases c3 : op = 39
      · rw [if_pos (q3.2 c3)]; exact hyes (.inr (.inr (.inl c3)))
      · rw [if_neg (fun h => c3 (q3.1 h))]
        by_cases c4 : op = 63
        · rw [show ((spell op).toList == ([33] : List UInt8)) = true by rw [q4.2 c4]; rfl]
          exact hyes (.inr (.inr (.inr c4)))
        · rw [show ((spell op).toList == ([33] : List UInt8)) = false by simpa using (fun h => c4 (q4.1 h))]
          simp only [monikerref8_Unary.j0, monikerref8_Unary.j1, monikerref8_wrong.f, Option.bind_some, unV]
          rw [if_neg (by simp), if_pos trivial, if_pos (.inl (by omega))]
theorem ConstUnaries (op s : Int) (b : Bool) (n : Int) (t : ByteArray) (h0 : 0 ≤ op) (h1 : op ≤ 255) : ∃ k, monikerlaw8_ConstUnaries.f k op s b n t = some true := by
  refine Ev.rounds ?_
  unfold monikerlaw8_ConstUnaries.f
  refine (Unary_is op s b n t).bind ((RUnary_is op s b n t h0 h1).bind ?_)
  simp only [beq_self_eq_true, Bool.and_self, if_true]
  exact Ev.now _
end Go.Proofs.Ytkkbpjlajmpnlaa.Q
