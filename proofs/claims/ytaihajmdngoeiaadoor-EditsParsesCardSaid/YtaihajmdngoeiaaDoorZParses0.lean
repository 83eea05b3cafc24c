/- Texts of the proof of one law (Parses), part 0: functions printed as Lean functions with their walks, and what is proved of them. Conditions: those of each theorem. -/
import Derived.Lib.ItoaLen
import Derived.Sort.Walk0
import Derived.Test.YtaihajmdngoeiaaDoorProg
import Derived.Below
import Derived.Deep.Draws
import Derived.Deep.AppendLies
import Derived.Maps.AppendAt
import Derived.OwnWalk
import Derived.Laws.BytesArg
import Derived.Laws.MakeOwn
import Derived.Laws.OwnMore
import Derived.Deep.OwnRows
import Derived.Tactics
import Derived.Lib.ConvBytes
import Derived.Laws.Slices
import Derived.WalkKit
import Derived.KernelRfl
import Derived.RowKit3
import Derived.Deep.LoopGhost
import Derived.Deep.QuietTactic
import Derived.BigQuiet
import Derived.WideLaws
import Derived.Deep.DeepCutAuto
import Derived.Deep.CutBlock
import Derived.Deep.RegionHeld3
import Derived.Laws.Rows
import Derived.Lib.AppendStr
import Derived.ArgAppend
import Derived.Laws.IdiomCopy
import Derived.OrdersHeld
import Derived.Laws.BitsLemmas
import Derived.WalkMore
import Derived.RowKit
import Derived.Test.YtaihajmdngoeiaaDoorWWords
import Derived.Test.YtaihajmdngoeiaaDoorWLast
import Derived.Test.YtaihajmdngoeiaaDoorWTab
import Derived.Test.YtaihajmdngoeiaaDoorWFour
import Derived.Test.YtaihajmdngoeiaaDoorWQPut
import Derived.Test.YtaihajmdngoeiaaDoorWApart
import Derived.Test.YtaihajmdngoeiaaDoorWArr
import Derived.Test.YtaihajmdngoeiaaDoorWZeros
import Derived.Test.YtaihajmdngoeiaaDoorWFoot
import Derived.Test.YtaihajmdngoeiaaDoorWKept
import Derived.Test.YtaihajmdngoeiaaDoorWShare
import Derived.Test.YtaihajmdngoeiaaDoorWN
import Derived.Test.YtaihajmdngoeiaaDoorWFootNe
import Derived.Test.YtaihajmdngoeiaaDoorWAt
import Derived.Test.YtaihajmdngoeiaaDoorWEqStruct
import Derived.Test.YtaihajmdngoeiaaDoorWRepsOne
import Derived.Test.YtaihajmdngoeiaaDoorWInv
import Derived.Test.YtaihajmdngoeiaaDoorWInvWords
import Derived.Test.YtaihajmdngoeiaaDoorWGuard
import Derived.Test.YtaihajmdngoeiaaDoorWNEv
import Derived.Test.YtaihajmdngoeiaaDoorWMore
import Derived.Shelf.Strconv.Atoi
import Derived.Shelf.Strconv.Itoa0
import Derived.Shelf.Strconv.Itoa1
import Derived.Shelf.LaysM
import Derived.Shelf.Strconv.Itoa2
import Derived.Shelf.Strconv.Itoa3
import Derived.Shelf.Strconv.AtoiErrFast
import Derived.Shelf.Strconv.ParseIntEmpty
import Derived.Shelf.Strconv.AtoiFail
import Derived.Shelf.Strconv.Clone
import Derived.Shelf.Strconv.SyntaxError
import Derived.Shelf.LaysC
import Derived.Shelf.Strconv.ToError
import Derived.Shelf.Strconv.Lower
import Derived.Shelf.Strconv.ParseUint10
import Derived.Shelf.Strconv.ParseUint10Empty
import Derived.Shelf.Strconv.ParseUint10Any
import Derived.Shelf.Strconv.ParseInt10
import Derived.Shelf.Strconv.AtoiLong
import Derived.Shelf.Strconv.AtoiInnerAll
import Derived.Shelf.Strconv.RangeError
import Derived.Shelf.Strconv.ToErrorRange
import Derived.Shelf.Strconv.AtoiAll
import Derived.Shelf.Strconv.AppendUint10
import Derived.Shelf.Strconv.AppendInt10
import Derived.Shelf.Strconv.AppendIntPublic10
import Derived.Lib.AtoiErrMem
namespace Go.Proofs.YtaihajmdngoeiaaDoor.Q
set_option linter.unusedVariables false
set_option linter.unusedSimpArgs false

/-- How far a number has been read: nothing, a minus alone, or digits that spell m. -/
inductive NS where
  | start
  | minus
  | num (neg : Bool) (m : Int)
  deriving DecidableEq

def lim (neg : Bool) : Int := if neg then 9223372036854775808 else 9223372036854775807
def NS.step : NS → Int → Option NS
  | .start, c => if c = 45 then some .minus else if 48 ≤ c ∧ c ≤ 57 then some (.num false (c - 48)) else none
  | .minus, c => if 49 ≤ c ∧ c ≤ 57 then some (.num true (c - 48)) else none
  | .num neg m, c => if 48 ≤ c ∧ c ≤ 57 ∧ m ≠ 0 ∧ m * 10 + (c - 48) ≤ lim neg then some (.num neg (m * 10 + (c - 48))) else none
def NS.run : NS → List Int → Option NS
  | s, [] => some s
  | s, c :: r => (s.step c).bind fun t => t.run r
theorem run_append (a b : List Int) : ∀ s : NS, s.run (a ++ b) = (s.run a).bind fun t => t.run b := by
  induction a with
  | nil => intro s; rfl
  | cons c a ih =>
    intro s
    simp only [List.cons_append, NS.run]
    cases s.step c with
    | none => rfl
    | some t => exact ih t
theorem run_one (s : NS) (c : Int) : s.run [c] = s.step c := by
  simp only [NS.run]
  cases s.step c <;> rfl
theorem run_snoc (s : NS) (a : List Int) (c : Int) : s.run (a ++ [c]) = (s.run a).bind fun t => t.step c := by
  rw [run_append]
  congr 1
  funext t
  exact run_one t c
def sgn (neg : Bool) (m : Int) : Int := if neg then -m else m
def ints (l : List UInt8) : List Int := l.map fun b => (b.toNat : Int)
def itoaI (n : Int) : List Int := ints (Lib.itoa n)
def dec (u : Nat) : List Int := ints (Lib.decDigits u)
theorem dec_small {u : Nat} (h : u < 10) : dec u = [48 + (u : Int)] := by
  unfold dec ints
  rw [Lib.decDigits, dif_pos h]
  simp only [List.map_cons, List.map_nil]
  congr 1
  rw [UInt8.toNat_ofNat']
  omega
theorem dec_big {u : Nat} (h : ¬ u < 10) : dec u = dec (u / 10) ++ [48 + ((u % 10 : Nat) : Int)] := by
  unfold dec ints
  rw [Lib.decDigits, dif_neg h, List.map_append]
  simp only [List.map_cons, List.map_nil]
  congr 2
  rw [UInt8.toNat_ofNat']
  omega
def isI64 (n : Int) : Prop := -9223372036854775808 ≤ n ∧ n ≤ 9223372036854775807
theorem itoaI_neg (n : Int) (h : n < 0) : itoaI n = 45 :: dec n.natAbs := by
  unfold itoaI Lib.itoa
  rw [if_pos h]
  rfl
theorem itoaI_pos (n : Int) (h : ¬ n < 0) : itoaI n = dec n.toNat := by
  unfold itoaI Lib.itoa
  rw [if_neg h]
  rfl
/-- What is read is a written number. -/
theorem run_back : ∀ (k : Nat) (t : List Int) (s : NS), t.length = k → NS.start.run t = some s →
    match s with
    | .start => t = []
    | .minus => t = [45]
    | .num neg m => t = itoaI (sgn neg m) ∧ 0 ≤ m ∧ m ≤ lim neg ∧ (neg = true → 0 < m) := by
  intro k
  induction k with
  | zero =>
    intro t s hk h
    obtain rfl := List.eq_nil_of_length_eq_zero hk
    simp only [NS.run] at h
    injection h with h
    subst h
    rfl
  | succ k ih =>
    intro t s hk h
    have hne : t ≠ [] := by intro e; rw [e] at hk; simp at hk
    obtain ⟨a, c, rfl⟩ : ∃ a c, t = a ++ [c] := ⟨t.dropLast, t.getLast hne, (List.dropLast_concat_getLast hne).symm⟩
    rw [run_snoc] at h
    cases ha : NS.start.run a with
    | none => rw [ha] at h; cases h
    | some q =>
      rw [ha] at h
      simp only [Option.bind_some] at h
      have hi := ih a q (by simp at hk; omega) ha
      cases q with
      | start =>
        subst hi
        simp only [NS.step] at h
        split at h
        · next e => injection h with h; subst h; subst e; rfl
        · split at h
          · next e2 =>
            injection h with h
            subst h
            refine ⟨?_, by omega, by simp only [lim, Bool.false_eq_true, if_false]; omega, by simp⟩
            rw [show sgn false (c - 48) = c - 48 from rfl, itoaI_pos _ (by omega), dec_small (by omega)]
            simp
            omega
          · cases h
      | minus =>
        subst hi
        simp only [NS.step] at h
        split at h
        · next e2 =>
          injection h with h
          subst h
          refine ⟨?_, by omega, by simp only [lim, if_true]; omega, fun _ => by omega⟩
          rw [show sgn true (c - 48) = -(c - 48) from rfl, itoaI_neg _ (by omega), dec_small (by omega)]
          simp
          omega
        · cases h
      | num neg m =>
        obtain ⟨i1, i2, i3, i4⟩ := hi
        simp only [NS.step] at h
        split at h
        · next e2 =>
          obtain ⟨e3, e4, e5, e6⟩ := e2
          injection h with h
          subst h
          refine ⟨?_, by omega, e6, fun _ => by omega⟩
          subst i1
          cases neg with
          | false =>
            rw [show sgn false m = m from rfl, show sgn false (m * 10 + (c - 48)) = m * 10 + (c - 48) from rfl, itoaI_pos _ (by omega), itoaI_pos _ (by omega), dec_big (u := (m * 10 + (c - 48)).toNat) (by omega)]
            congr 2
            · congr 1; omega
            · omega
          | true =>
            rw [show sgn true m = -m from rfl, show sgn true (m * 10 + (c - 48)) = -(m * 10 + (c - 48)) from rfl, itoaI_neg _ (by omega), itoaI_neg _ (by omega), dec_big (u := (-(m * 10 + (c - 48))).natAbs) (by omega)]
            rw [List.cons_append]
            congr 3
            · congr 1; omega
            · omega
        · cases h
theorem run_num {t : List Int} {neg : Bool} {m : Int} (h : NS.start.run t = some (.num neg m)) : t = itoaI (sgn neg m) ∧ 0 ≤ m ∧ m ≤ lim neg ∧ (neg = true → 0 < m) := run_back _ t _ rfl h
theorem num_i64 {t : List Int} {neg : Bool} {m : Int} (h : NS.start.run t = some (.num neg m)) : isI64 (sgn neg m) := by
  obtain ⟨_, h0, h1, h2⟩ := run_num h
  unfold isI64
  cases neg <;> simp only [lim, sgn, if_true, if_false, Bool.false_eq_true] at * <;> omega
end Go.Proofs.YtaihajmdngoeiaaDoor.Q

namespace Go.Proofs.YtaihajmdngoeiaaDoor.Q
set_option linter.unusedVariables false
set_option linter.unusedSimpArgs false

/-- The number that digits spell behind m. -/
def dv : Int → List Int → Int
  | m, [] => m
  | m, c :: r => dv (m * 10 + (c - 48)) r
def Digs (l : List Int) : Prop := ∀ c ∈ l, 48 ≤ c ∧ c ≤ 57
instance decDigs (l : List Int) : Decidable (Digs l) := inferInstanceAs (Decidable (∀ c ∈ l, 48 ≤ c ∧ c ≤ 57))
theorem Digs.cons {c : Int} {l : List Int} : Digs (c :: l) ↔ (48 ≤ c ∧ c ≤ 57) ∧ Digs l := by simp [Digs]
theorem dv_bounds : ∀ (l : List Int) (m : Int), Digs l → m * 10 ^ l.length ≤ dv m l ∧ dv m l < (m + 1) * 10 ^ l.length
  | [], m, _ => by simp [dv]; omega
  | c :: l, m, h => by
    obtain ⟨hc, hl⟩ := Digs.cons.1 h
    obtain ⟨h1, h2⟩ := dv_bounds l (m * 10 + (c - 48)) hl
    simp only [dv, List.length_cons, Int.pow_succ]
    have hp : (0 : Int) < 10 ^ l.length := Int.pow_pos (by omega)
    generalize (10 : Int) ^ l.length = P at h1 h2 hp ⊢
    constructor
    · refine Int.le_trans ?_ h1
      rw [show m * (P * 10) = (m * 10) * P by rw [Int.mul_comm P, Int.mul_assoc]]
      exact Int.mul_le_mul_of_nonneg_right (by omega) (by omega)
    · refine Int.lt_of_lt_of_le h2 ?_
      rw [show (m + 1) * (P * 10) = ((m + 1) * 10) * P by rw [Int.mul_comm P, Int.mul_assoc]]
      exact Int.mul_le_mul_of_nonneg_right (by omega) (by omega)
theorem dv_ge (l : List Int) (m : Int) (hm : 0 ≤ m) (h : Digs l) : m ≤ dv m l := by
  have h1 := (dv_bounds l m h).1
  have hp : (1 : Int) ≤ 10 ^ l.length := Int.pow_pos (by omega)
  have : m * 1 ≤ m * 10 ^ l.length := Int.mul_le_mul_of_nonneg_left hp hm
  omega
theorem run_digs (neg : Bool) : ∀ (l : List Int) (m : Int), 0 < m → Digs l → (NS.num neg m).run l = if dv m l ≤ lim neg ∨ l = [] then some (.num neg (dv m l)) else none
  | [], m, hm, _ => by simp [NS.run, dv]
  | c :: l, m, hm, h => by
    obtain ⟨hc, hl⟩ := Digs.cons.1 h
    have hg := dv_ge l (m * 10 + (c - 48)) (by omega) hl
    simp only [NS.run, NS.step, dv]
    by_cases h1 : m * 10 + (c - 48) ≤ lim neg
    · rw [if_pos ⟨hc.1, hc.2, by omega, h1⟩, Option.bind_some, run_digs neg l _ (by omega) hl]
      by_cases hz : l = []
      · subst hz
        simp [dv, h1]
      · simp [hz]
    · rw [if_neg (fun x => h1 x.2.2.2), Option.bind_none]
      refine (if_neg ?_).symm
      rintro (h2 | h2)
      · omega
      · cases h2
theorem run_bad (neg : Bool) : ∀ (l : List Int) (m : Int), ¬ Digs l → (NS.num neg m).run l = none
  | [], m, h => absurd (by simp [Digs]) h
  | c :: l, m, h => by
    simp only [NS.run, NS.step]
    by_cases hc : 48 ≤ c ∧ c ≤ 57 ∧ m ≠ 0 ∧ m * 10 + (c - 48) ≤ lim neg
    · rw [if_pos hc, Option.bind_some]
      exact run_bad neg l _ (fun hl => h (Digs.cons.2 ⟨⟨hc.1, hc.2.1⟩, hl⟩))
    · rw [if_neg hc]
      rfl
theorem run_zero (c : Int) (l : List Int) (neg : Bool) : (NS.num neg 0).run (c :: l) = none := by
  simp [NS.run, NS.step]
def Fits (neg : Bool) (l : List Int) : Prop := Digs l ∧ (1 < l.length → l.head? ≠ some 48) ∧ dv 0 l ≤ lim neg
theorem dv_zero (c : Int) (l : List Int) : dv 0 (c :: l) = dv (c - 48) l := by
  show dv (0 * 10 + (c - 48)) l = _
  congr 1
  omega
theorem run_pos (l : List Int) (hne : l ≠ []) (h45 : l.head? ≠ some 45) : (Fits false l → NS.start.run l = some (.num false (dv 0 l))) ∧ (¬ Fits false l → NS.start.run l = none) := by
  cases l with
  | nil => exact absurd rfl hne
  | cons c l =>
    have hc45 : c ≠ 45 := fun e => h45 (by rw [e]; rfl)
    unfold Fits
    rw [dv_zero]
    simp only [NS.run, NS.step]
    rw [if_neg hc45]
    by_cases hc : 48 ≤ c ∧ c ≤ 57
    · rw [if_pos hc, Option.bind_some]
      by_cases hl : Digs l
      · by_cases hz : c = 48
        · subst hz
          cases l with
          | nil => exact ⟨fun _ => rfl, fun h => absurd ⟨Digs.cons.2 ⟨hc, hl⟩, by simp, by simp [dv, lim]⟩ h⟩
          | cons d l => exact ⟨fun h => absurd rfl (h.2.1 (by simp)), fun _ => run_zero _ _ _⟩
        · have hlt : l = [] → dv (c - 48) l ≤ lim false := by
            intro e
            subst e
            simp only [dv, lim, Bool.false_eq_true, if_false]
            omega
          rw [run_digs false l (c - 48) (by omega) hl]
          refine ⟨fun h => by rw [if_pos (Or.inl h.2.2)], fun h => ?_⟩
          rw [if_neg]
          have h2 : ¬ dv (c - 48) l ≤ lim false := fun h2 => h ⟨Digs.cons.2 ⟨hc, hl⟩, by simp [hz], h2⟩
          rintro (h3 | h3)
          · exact h2 h3
          · exact h2 (hlt h3)
      · rw [run_bad false l _ hl]
        exact ⟨fun h => absurd (Digs.cons.1 h.1).2 hl, fun _ => rfl⟩
    · rw [if_neg hc, Option.bind_none]
      exact ⟨fun h => absurd (Digs.cons.1 h.1).1 hc, fun _ => rfl⟩
theorem run_neg (l : List Int) (hne : l ≠ []) : (Fits true l → l ≠ [48] → NS.minus.run l = some (.num true (dv 0 l))) ∧ (¬ (Fits true l ∧ l ≠ [48]) → NS.minus.run l = none) := by
  cases l with
  | nil => exact absurd rfl hne
  | cons c l =>
    unfold Fits
    rw [dv_zero]
    simp only [NS.run, NS.step]
    by_cases hc : 49 ≤ c ∧ c ≤ 57
    · rw [if_pos hc, Option.bind_some]
      by_cases hl : Digs l
      · have hlt : l = [] → dv (c - 48) l ≤ lim true := by
          intro e
          subst e
          simp only [dv, lim, if_true]
          omega
        rw [run_digs true l (c - 48) (by omega) hl]
        refine ⟨fun h _ => by rw [if_pos (Or.inl h.2.2)], fun h => ?_⟩
        rw [if_neg]
        have h2 : ¬ dv (c - 48) l ≤ lim true := fun h2 => h ⟨⟨Digs.cons.2 ⟨by omega, hl⟩, by simp; omega, h2⟩, by simp; omega⟩
        rintro (h3 | h3)
        · exact h2 h3
        · exact h2 (hlt h3)
      · rw [run_bad true l _ hl]
        exact ⟨fun h _ => absurd (Digs.cons.1 h.1).2 hl, fun _ => rfl⟩
    · rw [if_neg hc, Option.bind_none]
      have : ¬ (Fits true (c :: l) ∧ c :: l ≠ [48]) := by
        rintro ⟨⟨h1, h2, h3⟩, h4⟩
        have hd := (Digs.cons.1 h1).1
        have hz : c = 48 := by omega
        subst hz
        cases l with
        | nil => exact h4 rfl
        | cons d l => exact h2 (by simp) rfl
      unfold Fits at this
      rw [dv_zero] at this
      exact ⟨fun h h' => absurd ⟨h, h'⟩ this, fun _ => rfl⟩
/-- Digits of one length stand in the order of their numbers. -/
theorem less_dv : ∀ (x y : List UInt8) (m : Int), x.length = y.length → Digs (ints x) → Digs (ints y) → (Op.bytesLess x y = true ↔ dv m (ints x) < dv m (ints y))
  | [], [], m, _, _, _ => by simp [Op.bytesLess, dv, ints]
  | [], _ :: _, m, h, _, _ => by simp at h
  | _ :: _, [], m, h, _, _ => by simp at h
  | a :: x, b :: y, m, h, hx, hy => by
    have hx' : Digs ((a.toNat : Int) :: ints x) := hx
    have hy' : Digs ((b.toNat : Int) :: ints y) := hy
    obtain ⟨ha, hx1⟩ := Digs.cons.1 hx'
    obtain ⟨hb, hy1⟩ := Digs.cons.1 hy'
    have hl : x.length = y.length := by simpa using h
    have hlen : (ints x).length = (ints y).length := by simp [ints, hl]
    have ex : dv m (ints (a :: x)) = dv (m * 10 + ((a.toNat : Int) - 48)) (ints x) := rfl
    have ey : dv m (ints (b :: y)) = dv (m * 10 + ((b.toNat : Int) - 48)) (ints y) := rfl
    have bx := dv_bounds (ints x) (m * 10 + ((a.toNat : Int) - 48)) hx1
    have by' := dv_bounds (ints y) (m * 10 + ((b.toNat : Int) - 48)) hy1
    rw [ex, ey]
    rw [hlen] at bx
    have hp : (0 : Int) < 10 ^ (ints y).length := Int.pow_pos (by omega)
    rw [bytesLess_eq, decide_eq_true_iff, List.cons_lt_cons_iff]
    have hlt : a < b ↔ a.toNat < b.toNat := UInt8.lt_iff_toNat_lt
    rcases Nat.lt_trichotomy a.toNat b.toNat with hab | hab | hab
    · constructor
      · intro _
        refine Int.lt_of_lt_of_le bx.2 (Int.le_trans ?_ by'.1)
        exact Int.mul_le_mul_of_nonneg_right (by omega) (by omega)
      · intro _
        exact Or.inl (hlt.2 hab)
    · have e : a = b := UInt8.toNat_inj.1 hab
      subst e
      have ih := less_dv x y (m * 10 + ((a.toNat : Int) - 48)) hl hx1 hy1
      rw [bytesLess_eq, decide_eq_true_iff] at ih
      rw [← ih]
      constructor
      · rintro (h | h)
        · exact absurd (hlt.1 h) (by omega)
        · exact h.2
      · intro h
        exact Or.inr ⟨rfl, h⟩
    · constructor
      · rintro (h | h)
        · exact absurd (hlt.1 h) (by omega)
        · exact absurd (congrArg UInt8.toNat h.1) (by omega)
      · intro h
        exfalso
        have : (m * 10 + ((a.toNat : Int) - 48)) * 10 ^ (ints y).length < (m * 10 + ((b.toNat : Int) - 48) + 1) * 10 ^ (ints y).length := Int.lt_of_le_of_lt bx.1 (Int.lt_trans h by'.2)
        have h2 : (m * 10 + ((b.toNat : Int) - 48) + 1) * 10 ^ (ints y).length ≤ (m * 10 + ((a.toNat : Int) - 48)) * 10 ^ (ints y).length := Int.mul_le_mul_of_nonneg_right (by omega) (by omega)
        omega
end Go.Proofs.YtaihajmdngoeiaaDoor.Q

namespace Go.Proofs.YtaihajmdngoeiaaDoor.Q
set_option linter.unusedVariables false
set_option linter.unusedSimpArgs false

/-- What a reader finds at a place: something, and what is left; or a fault, and what stands there. -/
inductive Res (α : Type) where
  | ok (v : α) (r : List Int)
  | bad (r : List Int)
def Res.then {α β : Type} (x : Res α) (f : α → List Int → Res β) : Res β := match x with | .ok v r => f v r | .bad r => .bad r
/-- A reader takes what stands there, whatever stands behind, and finds a fault at the end of a part of it. -/
def Good {α : Type} (P : List Int → Res α) : Prop :=
  ∀ l v r, P l = .ok v r → ∃ c, l = c ++ r ∧ (∀ r', P (c ++ r') = .ok v r') ∧ ∀ q d, c = q ++ d → d ≠ [] → P q = .bad []
theorem Good.then {α β : Type} {P : List Int → Res α} {Q : α → List Int → Res β} (hP : Good P) (hQ : ∀ v, Good (Q v)) : Good fun l => (P l).then Q := by
  intro l v r h
  replace h : (P l).then Q = .ok v r := h
  cases hp : P l with
  | bad x => rw [hp] at h; simp [Res.then] at h
  | ok u x =>
    rw [hp] at h
    simp only [Res.then] at h
    obtain ⟨c, rfl, h1, h2⟩ := hP l u x hp
    obtain ⟨d, rfl, h3, h4⟩ := hQ u x v r h
    refine ⟨c ++ d, by simp, fun r' => ?_, fun q e he hne => ?_⟩
    · simp only [List.append_assoc]
      rw [h1]
      simp only [Res.then]
      exact h3 r'
    · rcases List.append_eq_append_iff.1 he with ⟨a, rfl, ha⟩ | ⟨a, ha, hb⟩
      · simp only []
        rw [h1]
        simp only [Res.then]
        exact h4 a e ha hne
      · by_cases hz : a = []
        · subst hz
          simp at ha hb
          subst ha
          have := h1 []
          simp at this
          simp only []
          rw [this]
          simp only [Res.then]
          exact h4 [] e (by simp [hb]) hne
        · simp only []
          rw [h2 q a ha hz]
          rfl

def NS.isNum : NS → Bool | .num _ _ => true | _ => false
def NS.val : NS → Int | .num n m => sgn n m | _ => 0
/-- A number, and the byte e behind it. -/
def takeL (e : Int) : NS → List Int → Res Int
  | s, [] => .bad []
  | s, c :: r => if s.isNum = true ∧ c = e then .ok s.val r else match s.step c with | none => .bad (c :: r) | some t => takeL e t r
theorem takeL_good (e : Int) : ∀ (s : NS), Good (takeL e s) := by
  have : ∀ (l : List Int) (s : NS) v r, takeL e s l = .ok v r → ∃ c, l = c ++ r ∧ (∀ r', takeL e s (c ++ r') = .ok v r') ∧ ∀ q d, c = q ++ d → d ≠ [] → takeL e s q = .bad [] := by
    intro l
    induction l with
    | nil => intro s v r h; simp [takeL] at h
    | cons c l ih =>
      intro s v r h
      simp only [takeL] at h
      split at h
      · next hc =>
        injection h with h1 h2
        subst h1; subst h2
        refine ⟨[c], rfl, fun r' => by simp only [List.cons_append, List.nil_append, takeL]; rw [if_pos hc], fun q d hq hd => ?_⟩
        cases q with
        | nil => rfl
        | cons x q =>
          rw [List.cons_append] at hq
          injection hq with _ hq
          have := List.append_eq_nil_iff.1 hq.symm
          exact absurd this.2 hd
      · next hc =>
        cases hs : s.step c with
        | none => rw [hs] at h; cases h
        | some t =>
          rw [hs] at h
          obtain ⟨x, rfl, h1, h2⟩ := ih t v r h
          refine ⟨c :: x, rfl, fun r' => ?_, fun q d hq hd => ?_⟩
          · simp only [List.cons_append, takeL]
            rw [if_neg hc, hs]
            exact h1 r'
          · cases q with
            | nil => rfl
            | cons y q =>
              rw [List.cons_append] at hq
              injection hq with hy hq
              subst hy
              simp only [takeL]
              rw [if_neg hc, hs]
              exact h2 q d hq hd
  intro s l v r h
  exact this l s v r h
theorem takeL_back (e : Int) : ∀ (l : List Int) (s : NS) (v : Int) (r : List Int), takeL e s l = .ok v r → ∃ t neg m, l = t ++ e :: r ∧ s.run t = some (.num neg m) ∧ v = sgn neg m
  | [], s, v, r, h => by simp [takeL] at h
  | c :: l, s, v, r, h => by
    simp only [takeL] at h
    split at h
    · next hc =>
      injection h with h1 h2
      subst h1; subst h2
      cases s with
      | num neg m => exact ⟨[], neg, m, by simp [hc.2], rfl, rfl⟩
      | start => simp [NS.isNum] at hc
      | minus => simp [NS.isNum] at hc
    · cases hs : s.step c with
      | none => rw [hs] at h; cases h
      | some q =>
        rw [hs] at h
        obtain ⟨t, neg, m, rfl, h2, h3⟩ := takeL_back e l q v r h
        refine ⟨c :: t, neg, m, rfl, ?_, h3⟩
        simp only [NS.run]
        rw [hs]
        exact h2
theorem take_is (e : Int) (l : List Int) (v : Int) (r : List Int) (h : takeL e .start l = .ok v r) : l = itoaI v ++ e :: r ∧ isI64 v := by
  obtain ⟨t, neg, m, rfl, h2, rfl⟩ := takeL_back e l _ v r h
  exact ⟨by rw [(run_num h2).1], num_i64 h2⟩

/-- A text behind its quotation mark; esc: a backslash stood ahead. -/
def quotL : Bool → List Int → List Int → Res (List Int)
  | _, _, [] => .bad []
  | false, acc, c :: r => if c = 10 then .bad (c :: r) else if c = 34 then .ok acc r else if c = 92 then quotL true acc r else quotL false (acc ++ [c]) r
  | true, acc, c :: r => if c = 34 ∨ c = 92 then quotL false (acc ++ [c]) r else if c = 110 then quotL false (acc ++ [10]) r else .bad (c :: r)
theorem quotL_good : ∀ (x : Bool) (acc : List Int), Good (quotL x acc) := by
  have : ∀ (l : List Int) (x : Bool) (acc : List Int) v r, quotL x acc l = .ok v r → ∃ c, l = c ++ r ∧ (∀ r', quotL x acc (c ++ r') = .ok v r') ∧ ∀ q d, c = q ++ d → d ≠ [] → quotL x acc q = .bad [] := by
    intro l
    induction l with
    | nil => intro x acc v r h; cases x <;> simp [quotL] at h
    | cons c l ih =>
      intro x acc v r h
      have go : ∀ (y : Bool) (acc' : List Int), (∀ z, quotL x acc (c :: z) = quotL y acc' z) → quotL y acc' l = .ok v r → ∃ d, c :: l = d ++ r ∧ (∀ r', quotL x acc (d ++ r') = .ok v r') ∧ ∀ q e, d = q ++ e → e ≠ [] → quotL x acc q = .bad [] := by
        intro y acc' hz hy
        obtain ⟨d, rfl, h1, h2⟩ := ih y acc' v r hy
        refine ⟨c :: d, rfl, fun r' => ?_, fun q e hq he => ?_⟩
        · rw [List.cons_append, hz]
          exact h1 r'
        · cases q with
          | nil => cases x <;> rfl
          | cons y' q =>
            rw [List.cons_append] at hq
            injection hq with hy' hq
            subst hy'
            rw [hz]
            exact h2 q e hq he
      cases x with
      | false =>
        by_cases h10 : c = 10
        · simp only [quotL] at h; rw [if_pos h10] at h; cases h
        by_cases h34 : c = 34
        · simp only [quotL] at h
          rw [if_neg h10, if_pos h34] at h
          injection h with e1 e2
          subst e1; subst e2
          refine ⟨[c], rfl, fun r' => by simp only [List.cons_append, List.nil_append, quotL]; rw [if_neg h10, if_pos h34], fun q d hq hd => ?_⟩
          cases q with
          | nil => rfl
          | cons x q =>
            rw [List.cons_append] at hq
            injection hq with _ hq
            exact absurd (List.append_eq_nil_iff.1 hq.symm).2 hd
        by_cases h92 : c = 92
        · refine go true acc (fun z => by simp only [quotL]; rw [if_neg h10, if_neg h34, if_pos h92]) ?_
          simp only [quotL] at h
          rw [if_neg h10, if_neg h34, if_pos h92] at h
          exact h
        · refine go false (acc ++ [c]) (fun z => by simp only [quotL]; rw [if_neg h10, if_neg h34, if_neg h92]) ?_
          simp only [quotL] at h
          rw [if_neg h10, if_neg h34, if_neg h92] at h
          exact h
      | true =>
        by_cases h34 : c = 34 ∨ c = 92
        · refine go false (acc ++ [c]) (fun z => by simp only [quotL]; rw [if_pos h34]) ?_
          simp only [quotL] at h
          rw [if_pos h34] at h
          exact h
        by_cases h110 : c = 110
        · refine go false (acc ++ [10]) (fun z => by simp only [quotL]; rw [if_neg h34, if_pos h110]) ?_
          simp only [quotL] at h
          rw [if_neg h34, if_pos h110] at h
          exact h
        · simp only [quotL] at h
          rw [if_neg h34, if_neg h110] at h
          cases h
  intro x acc l v r h
  exact this l x acc v r h
/-- How a byte of a text is written. -/
def escB (c : Int) : List Int := if c = 34 ∨ c = 92 then [92, c] else if c = 10 then [92, 110] else [c]
def esc (l : List Int) : List Int := l.flatMap escB
theorem esc_cons (c : Int) (t : List Int) : esc (c :: t) = escB c ++ esc t := by simp [esc]
theorem quot_is : ∀ (l : List Int) (x : Bool) (acc v r : List Int), quotL x acc l = .ok v r → ∃ t, v = acc ++ t ∧ (if x then 92 :: l else l) = esc t ++ 34 :: r
  | [], x, acc, v, r, h => by cases x <;> simp [quotL] at h
  | c :: l, false, acc, v, r, h => by
    simp only [quotL] at h
    split at h
    · cases h
    · next h10 =>
      split at h
      · next h34 =>
        injection h with e1 e2
        subst e1; subst e2; subst h34
        exact ⟨[], by simp, by simp [esc]⟩
      · next h34 =>
        split at h
        · next h92 =>
          obtain ⟨t, h1, h2⟩ := quot_is l true acc v r h
          subst h92
          exact ⟨t, h1, by simpa using h2⟩
        · next h92 =>
          obtain ⟨t, h1, h2⟩ := quot_is l false (acc ++ [c]) v r h
          refine ⟨c :: t, by simp [h1], ?_⟩
          simp only [Bool.false_eq_true, if_false] at h2 ⊢
          rw [h2]
          rw [esc_cons, escB, if_neg (by omega), if_neg h10]
          rfl
  | c :: l, true, acc, v, r, h => by
    simp only [quotL] at h
    split at h
    · next h34 =>
      obtain ⟨t, h1, h2⟩ := quot_is l false (acc ++ [c]) v r h
      refine ⟨c :: t, by simp [h1], ?_⟩
      simp only [Bool.false_eq_true, if_false, if_true] at h2 ⊢
      rw [h2]
      rw [esc_cons, escB, if_pos h34]
      rfl
    · split at h
      · next h110 =>
        obtain ⟨t, h1, h2⟩ := quot_is l false (acc ++ [10]) v r h
        refine ⟨10 :: t, by simp [h1], ?_⟩
        simp only [Bool.false_eq_true, if_false, if_true] at h2 ⊢
        rw [h2, h110]
        rw [esc_cons, escB, if_neg (by omega), if_pos rfl]
        rfl
      · cases h
/-- One byte. -/
def byteL (c : Int) (l : List Int) : Res Unit := match l with | [] => .bad [] | d :: r => if d = c then .ok () r else .bad (d :: r)
theorem byteL_good (c : Int) : Good (byteL c) := by
  intro l v r h
  cases l with
  | nil => simp [byteL] at h
  | cons d l =>
    simp only [byteL] at h
    split at h
    · next e =>
      injection h with _ e2
      subst e2; subst e
      refine ⟨[d], rfl, fun r' => by simp [byteL], fun q x hq hx => ?_⟩
      cases q with
      | nil => rfl
      | cons y q =>
        rw [List.cons_append] at hq
        injection hq with _ hq
        exact absurd (List.append_eq_nil_iff.1 hq.symm).2 hx
    · cases h
theorem byteL_is {c : Int} {l r : List Int} {v : Unit} (h : byteL c l = .ok v r) : l = c :: r := by
  cases l with
  | nil => simp [byteL] at h
  | cons d l =>
    simp only [byteL] at h
    split at h
    · next e => injection h with _ e2; rw [e, e2]
    · cases h
/-- A line: an edit's two places and its text. -/
def lineL (l : List Int) : Res (Int × Int × List Int) :=
  (takeL 44 .start l).then fun a l => (takeL 32 .start l).then fun b l => (byteL 34 l).then fun _ l => (quotL false [] l).then fun t l => (byteL 10 l).then fun _ l => .ok (a, b, t) l
theorem ret_good {α : Type} (v : α) : Good fun l => Res.ok v l := by
  intro l u r h
  injection h with h1 h2
  subst h1; subst h2
  refine ⟨[], rfl, fun r' => rfl, fun q d hq hd => ?_⟩
  exact absurd (List.append_eq_nil_iff.1 hq.symm).2 hd
theorem lineL_good : Good lineL :=
  Good.then (takeL_good 44 _) fun a => Good.then (takeL_good 32 _) fun b => Good.then (byteL_good 34) fun _ => Good.then (quotL_good false []) fun t => Good.then (byteL_good 10) fun _ => ret_good _
def lineP (a b : Int) (t : List Int) : List Int := itoaI a ++ 44 :: (itoaI b ++ 32 :: 34 :: (esc t ++ 34 :: [10]))
theorem line_read (l : List Int) (a b : Int) (t r : List Int) (h : lineL l = .ok (a, b, t) r) : l = lineP a b t ++ r ∧ isI64 a ∧ isI64 b := by
  unfold lineL at h
  cases h1 : takeL 44 .start l with
  | bad x => rw [h1] at h; cases h
  | ok a' l1 =>
    rw [h1] at h
    simp only [Res.then] at h
    cases h2 : takeL 32 .start l1 with
    | bad x => rw [h2] at h; cases h
    | ok b' l2 =>
      rw [h2] at h
      simp only [Res.then] at h
      cases h3 : byteL 34 l2 with
      | bad x => rw [h3] at h; cases h
      | ok u l3 =>
        rw [h3] at h
        simp only [Res.then] at h
        cases h4 : quotL false [] l3 with
        | bad x => rw [h4] at h; cases h
        | ok t' l4 =>
          rw [h4] at h
          simp only [Res.then] at h
          cases h5 : byteL 10 l4 with
          | bad x => rw [h5] at h; cases h
          | ok u' l5 =>
            rw [h5] at h
            simp only [Res.then] at h
            injection h with e1 e2
            injection e1 with e3 e4
            injection e4 with e5 e6
            subst e2; subst e3; subst e5; subst e6
            obtain ⟨p1, q1⟩ := take_is _ _ _ _ h1
            obtain ⟨p2, q2⟩ := take_is _ _ _ _ h2
            obtain ⟨t2, p4, p5⟩ := quot_is _ _ _ _ _ h4
            have p3 := byteL_is h3
            have p6 := byteL_is h5
            simp only [List.nil_append, Bool.false_eq_true, if_false] at p4 p5
            subst p4
            refine ⟨?_, q1, q2⟩
            unfold lineP
            rw [p1, p2, p3, p5, p6]
            simp
end Go.Proofs.YtaihajmdngoeiaaDoor.Q

-- A text of this session's own program (wip/myprint.sh over a changed print tool): functions and their walks
namespace Go.Proofs.YtaihajmdngoeiaaDoor.F
open Go.RowKit Go.Proofs.YtaihajmdngoeiaaDoorW.PrintWords Go.Proofs.YtaihajmdngoeiaaDoorW.PrintLast Go.Proofs.YtaihajmdngoeiaaDoorW.PrintMore
attribute [local go_sem] max2_int min2_int max_two min_two max_three min_three max_four min_four   -- for this text's walks alone
set_option linter.unusedVariables false
set_option linter.unusedSimpArgs false



def errW : Option Int → Value
  | none => .nilIface
  | some c => .iface 142 (.int .i64 c)
theorem errW_none : errW none = .nilIface := rfl
theorem errW_some (c : Int) : errW (some c) = .iface 142 (.int .i64 c) := rfl

theorem info5 : (Tryd.prog.info? 5).map (fun i => (i.zero, i.size, i.bytes)) = some (some (.int .u8 0), 1, 1) := by kernel_rfl
theorem info42 : (Tryd.prog.info? 42).map (fun i => (i.zero, i.size, i.bytes)) = some (some (.agg #[(.int .i64 0), (.int .i64 0), (.string ⟨#[]⟩)]), 3, 32) := by kernel_rfl
-- the values' own types
/-! #### struct type 42 -/
structure S42 where
  f0 : Int
  f1 : Int
  f2 : ByteArray
def z42 : S42 := ⟨(0 : Int), (0 : Int), (⟨#[]⟩ : ByteArray)⟩
def k42 : Kd S42 := Kd.iso (Kd.pair (Kd.int .i64) (Kd.pair (Kd.int .i64) Kd.string)) (fun x : S42 => (x.f0, x.f1, x.f2))
theorem k42_open {w : World} {x : S42} {cs : List Value} (h : k42.K w x cs) : cs = [.int .i64 x.f0, .int .i64 x.f1, .string x.f2] := by
  obtain ⟨_, _, rfl, rfl, ⟨_, _, rfl, rfl, rfl⟩⟩ := h
  exact rfl
theorem k42_mkM (w : World) (base : Nat) (ok : Nat → Prop) (x : S42)  : k42.M w base ok x [.int .i64 x.f0, .int .i64 x.f1, .string x.f2] := ⟨[.int .i64 x.f0], [.int .i64 x.f1, .string x.f2], rfl, rfl, ⟨[.int .i64 x.f1], [.string x.f2], rfl, rfl, rfl⟩⟩
def rd_T42 (xs : List S42) (i : Int) : S42 := xs.getD i.toNat z42
theorem at_T42 {w : World} {A : Option Addr} {n : Nat} {xs : List S42} (h : Kd.C k42 w A n xs) (i : Int) (h0 : 0 ≤ i) (h1 : i < n) : ∃ ad , A = some ad ∧ w.cell? (ad.add (i.toNat * 3)) = some (.int .i64 (rd_T42 xs i).f0) ∧ w.cell? ⟨(ad.add (i.toNat * 3)).block, (ad.add (i.toNat * 3)).off + 1, none⟩ = some (.int .i64 (rd_T42 xs i).f1) ∧ w.cell? ⟨(ad.add (i.toNat * 3)).block, (ad.add (i.toNat * 3)).off + 2, none⟩ = some (.string (rd_T42 xs i).f2) := by
  obtain ⟨ad, c, e, _, hK, hc0⟩ := Kd.C_get h z42 i h0 h1
  have hc : ∀ j u, c[j]? = some u → w.cell? (ad.add (i.toNat * 3 + j)) = some u := hc0
  obtain rfl := k42_open hK
  exact ⟨ad, e, hc 0 _ rfl, by rw [← add_field _ _ 1 (by omega)]; exact hc 1 _ rfl, by rw [← add_field _ _ 2 (by omega)]; exact hc 2 _ rfl⟩

/-! #### struct type 86 -/
/-! #### struct type 111 -/
/-! #### struct type 114 -/
/-! #### struct type 116 -/
/-! #### struct type 118 -/
end Go.Proofs.YtaihajmdngoeiaaDoor.F

-- A text of this session's own program (wip/myprint.sh over a changed print tool): functions and their walks
namespace Go.Proofs.YtaihajmdngoeiaaDoor.F
open Go.RowKit Go.Proofs.YtaihajmdngoeiaaDoorW.PrintWords Go.Proofs.YtaihajmdngoeiaaDoorW.PrintLast Go.Proofs.YtaihajmdngoeiaaDoorW.PrintMore
attribute [local go_sem] max2_int min2_int max_two min_two max_three min_three max_four min_four   -- for this text's walks alone
set_option linter.unusedVariables false
set_option linter.unusedSimpArgs false

theorem run_gtr (a b : ByteArray) (w : World) : Sem.run Tryd.prog (binOp BinOp.gtr 9 (Value.string a) (Value.string b)) w = Result.ok (.bool (Op.bytesLess b.toList a.toList)) w := by
  have h : (!(Op.bytesLess a.toList b.toList || a.toList == b.toList)) = Op.bytesLess b.toList a.toList := by
    rw [bytesLess_eq, bytesLess_eq]
    by_cases h1 : a.toList < b.toList
    · have h2 : ¬ b.toList < a.toList := fun h => List.lt_irrefl _ (List.lt_trans h1 h)
      simp [h1, h2]
    · by_cases h2 : a.toList = b.toList
      · simp [h2, List.lt_irrefl]
      · have h3 : b.toList < a.toList := by
          by_cases h : b.toList < a.toList
          · exact h
          · exact absurd (List.le_antisymm (List.not_lt.1 h) (List.not_lt.1 h1)) h2
        simp [h1, h2, h3]
  rw [← h]
  simp [binOp, Op.stringOp, Sem.run_pure]
/-! ### monikerref1_number: function 69 -/
mutual
def monikerref1_number.j0 : Nat → ByteArray → Bool → Option (Bool × Bool)
  | 0, _, _ => none
  | k + 1, x0, x12 => if x12 = true then (some (false, true)) else (if 0 < (x0.size : Int) then (if (bt x0 0) = 45 then (if 1 ≤ (x0.size : Int) then (if (x0.extract 1 x0.size).toList = ([48] : List UInt8) then (some (false, false)) else (monikerref1_number.j1 k (x0.extract 1 x0.size) (⟨#[57, 50, 50, 51, 51, 55, 50, 48, 51, 54, 56, 53, 52, 55, 55, 53, 56, 48, 56]⟩ : ByteArray))) else (none)) else (monikerref1_number.j1 k x0 (⟨#[57, 50, 50, 51, 51, 55, 50, 48, 51, 54, 56, 53, 52, 55, 55, 53, 56, 48, 55]⟩ : ByteArray))) else (none))
def monikerref1_number.j1 : Nat → ByteArray → ByteArray → Option (Bool × Bool)
  | 0, _, _ => none
  | k + 1, x4, x5 => monikerref1_number.l0 k x4 x5 0
def monikerref1_number.l0 : Nat → ByteArray → ByteArray → Int → Option (Bool × Bool)
  | 0, _, _, _ => none
  | k + 1, x4, x5, x6 => if x6 < (x4.size : Int) then (if 0 ≤ x6 then (if (bt x4 x6) < 48 then (some (false, false)) else (if (bt x4 x6) > 57 then (some (false, false)) else (monikerref1_number.l0 k x4 x5 (wrap64 (x6 + 1))))) else (none)) else (if (x4.size : Int) > 1 then (if 0 < (x4.size : Int) then (if (bt x4 0) = 48 then (some (false, false)) else (if (x4.size : Int) > 19 then (some (false, false)) else (if (x4.size : Int) = 19 then (if (Op.bytesLess x5.toList x4.toList) = true then (some (false, false)) else (some (true, true))) else (some (true, true))))) else (none)) else (if (x4.size : Int) > 19 then (some (false, false)) else (if (x4.size : Int) = 19 then (if (Op.bytesLess x5.toList x4.toList) = true then (some (false, false)) else (some (true, true))) else (some (true, true)))))
end
def monikerref1_number.f (k : Nat) (a0 : ByteArray) : Option (Bool × Bool) := if a0.toList = ([] : List UInt8) then (monikerref1_number.j0 k a0 true) else (monikerref1_number.j0 k a0 (a0.toList == ([45] : List UInt8)))
set_option maxHeartbeats 8000000 in
set_option maxRecDepth 100000 in
theorem monikerref1_number.calls (k : Nat) (a0 : ByteArray) (r1 : Bool) (r2 : Bool) (w : World) (h : monikerref1_number.f k a0 = some (r1, r2)) :
    Calls Tryd.prog 69 #[.string a0] w fun e w' => e = .returned (.tuple #[.bool r1, .bool r2]) ∧ Drawn0 w w' := by
  have hgtr_ := run_gtr
  have H : (if a0.toList = ([] : List UInt8) then (monikerref1_number.j0 k a0 true) else (monikerref1_number.j0 k a0 (a0.toList == ([45] : List UInt8)))) = some (r1, r2) := h
  clear h
  have HC2 := Aside0.mk H
  clear H
  go_enter Tryd.func69, Tryd.ntmps69
  go_upto_region 1 with (fail)
  go_cut [12] (fun v12 wc => ∃ (kq : Nat) (x12_1 : Bool), v12 = .bool x12_1 ∧ Aside0 (monikerref1_number.j0 kq a0 x12_1 = some (r1, r2)) ∧ Aside0 (kq ≤ k) ∧ Drawn0 w wc)
  case first =>
    have H := HC2.out
    clear HC2
    by_cases c3 : a0.toList = ([] : List UInt8)
    · rw [if_pos c3] at H
      have c3b0 : (a0.toList == ([] : List UInt8)) = true := beq_iff_eq.mpr c3
      have c3b1 : (a0.toList != ([] : List UInt8)) = false := bne_eq_false_iff_eq.mpr c3
      clear c3
      (first | rw [c3b0] | (simp only [i64_w, i32_w]; rw [c3b0]) | skip)
      have H' := Aside0.mk H
      clear H
      go_wp2
      go_meet
      case rel => exact ⟨_, (true), (by first | rfl | (simp; done) | (simp [*]; done)), H', ⟨by first | omega | exact Nat.le_refl _⟩, by repeat (first | exact Drawn0.refl _ | apply Drawn0.step)⟩
    · rw [if_neg c3] at H
      have c3b0 : (a0.toList == ([] : List UInt8)) = false := beq_eq_false_iff_ne.mpr c3
      have c3b1 : (a0.toList != ([] : List UInt8)) = true := bne_iff_ne.mpr c3
      (first | rw [c3b0] | (simp only [i64_w, i32_w]; rw [c3b0]) | skip)
      have H' := Aside0.mk H
      clear H
      go_wp2
      go_meet
      case rel => exact ⟨_, ((a0.toList == ([45] : List UInt8))), (by first | rfl | (simp; done) | (simp [*]; done)), H', ⟨by first | omega | exact Nat.le_refl _⟩, by repeat (first | exact Drawn0.refl _ | apply Drawn0.step)⟩
  case rest =>
    clear HC2
    try clear p2
    try clear c3
    try clear c3b0
    try clear c3b1
    obtain ⟨kq, x12_1, rfl, HA, HJ1, ⟨mc1, rfl⟩⟩ := hcut
    cases kq with
    | zero => exact absurd HA.out (by simp [monikerref1_number.j0])
    | succ kj1 =>
      have H := HA.out
      clear HA
      simp only [monikerref1_number.j0] at H
      by_cases c4 : x12_1 = true
      · subst c4
        have H1 : (some (false, true)) = some (r1, r2) := by rw [if_pos rfl] at H; exact H
        clear H
        have H := H1
        clear H1
        simp only [Option.some.injEq, Prod.mk.injEq] at H
        obtain ⟨rfl, rfl⟩ := H
        go_wp2
        go_ret2
        exact ⟨by first | rfl | (simp; done) | (simp [*]; done), by repeat (first | exact Drawn0.refl _ | apply Drawn0.step)⟩
      · replace c4 := Bool.eq_false_iff.mpr c4
        subst c4
        have H1 : (if 0 < (a0.size : Int) then (if (bt a0 0) = 45 then (if 1 ≤ (a0.size : Int) then (if (a0.extract 1 a0.size).toList = ([48] : List UInt8) then (some (false, false)) else (monikerref1_number.j1 kj1 (a0.extract 1 a0.size) (⟨#[57, 50, 50, 51, 51, 55, 50, 48, 51, 54, 56, 53, 52, 55, 55, 53, 56, 48, 56]⟩ : ByteArray))) else (none)) else (monikerref1_number.j1 kj1 a0 (⟨#[57, 50, 50, 51, 51, 55, 50, 48, 51, 54, 56, 53, 52, 55, 55, 53, 56, 48, 55]⟩ : ByteArray))) else (none)) = some (r1, r2) := by rw [if_neg (show ¬ (false = true) by decide)] at H; exact H
        clear H
        have H := H1
        clear H1
        by_cases c5 : 0 < (a0.size : Int)
        · rw [if_pos c5] at H
          have c5b0 : decide (0 < (a0.size : Int)) = true := decide_eq_true c5
          have c5b1 : decide (0 < a0.size) = true := decide_eq_true (by omega)
          clear c5
          have HC7 := Aside0.mk H
          clear H
          have p6 : 0 ≤ (0 : Int) := (by omega)
          have q6 : 0 < a0.size := (by have : (0 : Int) < (a0.size : Int) := of_decide_eq_true (by first | (with_reducible assumption) | assumption); omega)
          have hx6 : ∀ h : 0 < a0.size, ((a0[0]'h).toNat : Int) = bt a0 0 := bt_at a0 0
          clear p6
          have qi6 : (0 < (a0.size : Int)) = True := eq_true (of_decide_eq_true (by first | (with_reducible assumption) | assumption))
          replace q6 := eq_true q6
          go_upto_if 16 with (fail)
          go_cut [4, 5] (fun v4 v5 wc => ∃ (kq : Nat) (x4_6 : ByteArray) (x5_6 : ByteArray), v4 = .string x4_6 ∧ v5 = .string x5_6 ∧ Aside0 (monikerref1_number.j1 kq x4_6 x5_6 = some (r1, r2)) ∧ Aside0 (kq ≤ kj1) ∧ Drawn0 w wc)
          case first =>
            have H := HC7.out
            clear HC7
            by_cases c8 : (bt a0 0) = 45
            · rw [if_pos c8] at H
              have c8b0 : ((bt a0 0) == 45) = true := beq_iff_eq.mpr c8
              have c8b1 : ((bt a0 0) != 45) = false := bne_eq_false_iff_eq.mpr c8
              clear c8
              (first | rw [c8b0] | (simp only [i64_w, i32_w]; rw [c8b0]) | skip)
              by_cases c9 : 1 ≤ (a0.size : Int)
              · rw [if_pos c9] at H
                have c9b0 := eq_true c9
                have c9b1 : decide (1 ≤ (a0.size : Int)) = true := decide_eq_true c9
                clear c9
                by_cases c10 : (a0.extract 1 a0.size).toList = ([48] : List UInt8)
                · rw [if_pos c10] at H
                  have c10b0 : ((a0.extract 1 a0.size).toList == ([48] : List UInt8)) = true := beq_iff_eq.mpr c10
                  have c10b1 : ((a0.extract 1 a0.size).toList != ([48] : List UInt8)) = false := bne_eq_false_iff_eq.mpr c10
                  clear c10
                  simp only [Option.some.injEq, Prod.mk.injEq] at H
                  obtain ⟨rfl, rfl⟩ := H
                  go_wp2
                  go_ret2
                  exact ⟨by first | rfl | (simp; done) | (simp [*]; done), by repeat (first | exact Drawn0.refl _ | apply Drawn0.step)⟩
                · rw [if_neg c10] at H
                  have c10b0 : ((a0.extract 1 a0.size).toList == ([48] : List UInt8)) = false := beq_eq_false_iff_ne.mpr c10
                  have c10b1 : ((a0.extract 1 a0.size).toList != ([48] : List UInt8)) = true := bne_iff_ne.mpr c10
                  have H' := Aside0.mk H
                  clear H
                  go_wp2
                  go_meet
                  case rel => exact ⟨_, (a0.extract 1 a0.size), ((⟨#[57, 50, 50, 51, 51, 55, 50, 48, 51, 54, 56, 53, 52, 55, 55, 53, 56, 48, 56]⟩ : ByteArray)), (by first | rfl | (simp; done) | (simp [*]; done)), (by first | rfl | (simp; done) | (simp [*]; done)), H', ⟨by have := HJ1.out; first | omega | exact Nat.le_refl _⟩, by repeat (first | exact Drawn0.refl _ | apply Drawn0.step)⟩
              · rw [if_neg c9] at H
                exact absurd H (by simp)
            · rw [if_neg c8] at H
              have c8b0 : ((bt a0 0) == 45) = false := beq_eq_false_iff_ne.mpr c8
              have c8b1 : ((bt a0 0) != 45) = true := bne_iff_ne.mpr c8
              (first | rw [c8b0] | (simp only [i64_w, i32_w]; rw [c8b0]) | skip)
              have H' := Aside0.mk H
              clear H
              go_wp2
              go_meet
              case rel => exact ⟨_, (a0), ((⟨#[57, 50, 50, 51, 51, 55, 50, 48, 51, 54, 56, 53, 52, 55, 55, 53, 56, 48, 55]⟩ : ByteArray)), (by first | rfl | (simp; done) | (simp [*]; done)), (by first | rfl | (simp; done) | (simp [*]; done)), H', ⟨by have := HJ1.out; first | omega | exact Nat.le_refl _⟩, by repeat (first | exact Drawn0.refl _ | apply Drawn0.step)⟩
          case rest =>
            clear HC7
            try clear c1
            try clear p2
            try clear c3
            try clear c3b0
            try clear c3b1
            try clear c4
            try clear c5
            try clear c5b0
            try clear c5b1
            try clear c6
            try clear p6
            try clear q6
            try clear hx6
            try clear qi6
            try clear c8
            try clear c8b0
            try clear c8b1
            try clear c9
            try clear c9b0
            try clear c9b1
            try clear c10
            try clear c10b0
            try clear c10b1
            try clear p2
            try clear p6
            try clear q6
            obtain ⟨kq, x4_6, x5_6, rfl, rfl, HA, HJ6, ⟨mc6, rfl⟩⟩ := hcut
            cases kq with
            | zero => exact absurd HA.out (by simp [monikerref1_number.j1])
            | succ kj6 =>
              have H := HA.out
              clear HA
              simp only [monikerref1_number.j1] at H
              have H' := Aside0.mk H
              clear H
              go_wp2
              go_loopg [6] kj6 (fun kq v6 w' => ∃ (x6_3 : Int), v6 = .int .i64 x6_3 ∧ Aside0 (monikerref1_number.l0 kq x4_6 x5_6 x6_3 = some (r1, r2)) ∧ Aside0 (kq ≤ kj6) ∧ Drawn0 w w')
              case atStart => exact ⟨(0), (by first | rfl | (simp; done) | (simp [*]; done)), H', ⟨Nat.le_refl _⟩, by repeat (first | exact Drawn0.refl _ | apply Drawn0.step)⟩
              case round =>
                clear H'
                try clear c1
                try clear p2
                try clear c3
                try clear c3b0
                try clear c3b1
                try clear c4
                try clear c5
                try clear c5b0
                try clear c5b1
                try clear c6
                try clear p6
                try clear q6
                try clear hx6
                try clear qi6
                try clear c8
                try clear c8b0
                try clear c8b1
                try clear c9
                try clear c9b0
                try clear c9b1
                try clear c10
                try clear c10b0
                try clear c10b1
                try clear p2
                try clear p6
                try clear q6
                obtain ⟨x6_3, rfl, HA, HK3, ⟨m3, rfl⟩⟩ := hrel
                cases gk with
                | zero => exact absurd HA.out (by simp [monikerref1_number.l0])
                | succ k3 =>
                  have H := HA.out
                  clear HA
                  simp only [monikerref1_number.l0] at H
                  by_cases c11 : x6_3 < (x4_6.size : Int)
                  · rw [if_pos c11] at H
                    have c11b0 : decide (x6_3 < (x4_6.size : Int)) = true := decide_eq_true c11
                    clear c11
                    by_cases c12 : 0 ≤ x6_3
                    · rw [if_pos c12] at H
                      have c12b0 : decide (0 ≤ x6_3) = true := decide_eq_true c12
                      clear c12
                      by_cases c14 : (bt x4_6 x6_3) < 48
                      · rw [if_pos c14] at H
                        have c14b0 : decide ((bt x4_6 x6_3) < 48) = true := decide_eq_true c14
                        clear c14
                        simp only [Option.some.injEq, Prod.mk.injEq] at H
                        obtain ⟨rfl, rfl⟩ := H
                        have p13 : 0 ≤ (x6_3 : Int) := of_decide_eq_true (by first | (with_reducible assumption) | assumption)
                        have q13 : x6_3 < (x4_6.size : Int) := of_decide_eq_true (by first | (with_reducible assumption) | assumption)
                        have hx13 := bt_at x4_6 x6_3
                        replace p13 := eq_true p13
                        replace q13 := eq_true q13
                        go_wp2
                        go_ret2
                        exact ⟨by first | rfl | (simp; done) | (simp [*]; done), by repeat (first | exact Drawn0.refl _ | apply Drawn0.step)⟩
                      · rw [if_neg c14] at H
                        have c14b0 : decide ((bt x4_6 x6_3) < 48) = false := decide_eq_false c14
                        clear c14
                        by_cases c16 : (bt x4_6 x6_3) > 57
                        · rw [if_pos c16] at H
                          have c16b0 : decide (57 < (bt x4_6 x6_3)) = true := decide_eq_true c16
                          clear c16
                          simp only [Option.some.injEq, Prod.mk.injEq] at H
                          obtain ⟨rfl, rfl⟩ := H
                          have p13 : 0 ≤ (x6_3 : Int) := of_decide_eq_true (by first | (with_reducible assumption) | assumption)
                          have q13 : x6_3 < (x4_6.size : Int) := of_decide_eq_true (by first | (with_reducible assumption) | assumption)
                          have hx13 := bt_at x4_6 x6_3
                          replace p13 := eq_true p13
                          replace q13 := eq_true q13
                          have p15 : 0 ≤ (x6_3 : Int) := of_decide_eq_true (by first | (with_reducible assumption) | assumption)
                          have q15 : x6_3 < (x4_6.size : Int) := of_decide_eq_true (by first | (with_reducible assumption) | assumption)
                          have hx15 := bt_at x4_6 x6_3
                          replace p15 := eq_true p15
                          replace q15 := eq_true q15
                          go_wp2
                          go_ret2
                          exact ⟨by first | rfl | (simp; done) | (simp [*]; done), by repeat (first | exact Drawn0.refl _ | apply Drawn0.step)⟩
                        · rw [if_neg c16] at H
                          have c16b0 : decide (57 < (bt x4_6 x6_3)) = false := decide_eq_false c16
                          clear c16
                          have H' := Aside0.mk H
                          clear H
                          have p13 : 0 ≤ (x6_3 : Int) := of_decide_eq_true (by first | (with_reducible assumption) | assumption)
                          have q13 : x6_3 < (x4_6.size : Int) := of_decide_eq_true (by first | (with_reducible assumption) | assumption)
                          have hx13 := bt_at x4_6 x6_3
                          replace p13 := eq_true p13
                          replace q13 := eq_true q13
                          have p15 : 0 ≤ (x6_3 : Int) := of_decide_eq_true (by first | (with_reducible assumption) | assumption)
                          have q15 : x6_3 < (x4_6.size : Int) := of_decide_eq_true (by first | (with_reducible assumption) | assumption)
                          have hx15 := bt_at x4_6 x6_3
                          replace p15 := eq_true p15
                          replace q15 := eq_true q15
                          go_wp2
                          go_roundg k3
                          case measure => have := HJ1.out; have := HJ6.out; have := HK3.out; omega
                          case rel => exact ⟨(wrap64 (x6_3 + 1)), (by first | rfl | (simp; done) | (simp [*]; done)), H', ⟨by have := HJ1.out; have := HJ6.out; have := HK3.out; omega⟩, by repeat (first | exact Drawn0.refl _ | apply Drawn0.step)⟩
                    · rw [if_neg c12] at H
                      exact absurd H (by simp)
                  · rw [if_neg c11] at H
                    have c11b0 : decide (x6_3 < (x4_6.size : Int)) = false := decide_eq_false c11
                    clear c11
                    by_cases c17 : (x4_6.size : Int) > 1
                    · rw [if_pos c17] at H
                      have c17b0 : decide (1 < (x4_6.size : Int)) = true := decide_eq_true c17
                      have c17b1 : decide (1 < x4_6.size) = true := decide_eq_true (by omega)
                      clear c17
                      by_cases c18 : 0 < (x4_6.size : Int)
                      · rw [if_pos c18] at H
                        have c18b0 : decide (0 < (x4_6.size : Int)) = true := decide_eq_true c18
                        have c18b1 : decide (0 < x4_6.size) = true := decide_eq_true (by omega)
                        clear c18
                        by_cases c20 : (bt x4_6 0) = 48
                        · rw [if_pos c20] at H
                          have c20b0 : ((bt x4_6 0) == 48) = true := beq_iff_eq.mpr c20
                          have c20b1 : ((bt x4_6 0) != 48) = false := bne_eq_false_iff_eq.mpr c20
                          clear c20
                          simp only [Option.some.injEq, Prod.mk.injEq] at H
                          obtain ⟨rfl, rfl⟩ := H
                          have p19 : 0 ≤ (0 : Int) := (by omega)
                          have q19 : 0 < x4_6.size := (by have : (0 : Int) < (x4_6.size : Int) := of_decide_eq_true (by first | (with_reducible assumption) | assumption); omega)
                          have hx19 : ∀ h : 0 < x4_6.size, ((x4_6[0]'h).toNat : Int) = bt x4_6 0 := bt_at x4_6 0
                          clear p19
                          have qi19 : (0 < (x4_6.size : Int)) = True := eq_true (of_decide_eq_true (by first | (with_reducible assumption) | assumption))
                          replace q19 := eq_true q19
                          go_wp2
                          go_ret2
                          exact ⟨by first | rfl | (simp; done) | (simp [*]; done), by repeat (first | exact Drawn0.refl _ | apply Drawn0.step)⟩
                        · rw [if_neg c20] at H
                          have c20b0 : ((bt x4_6 0) == 48) = false := beq_eq_false_iff_ne.mpr c20
                          have c20b1 : ((bt x4_6 0) != 48) = true := bne_iff_ne.mpr c20
                          by_cases c21 : (x4_6.size : Int) > 19
                          · rw [if_pos c21] at H
                            have c21b0 : decide (19 < (x4_6.size : Int)) = true := decide_eq_true c21
                            have c21b1 : decide (19 < x4_6.size) = true := decide_eq_true (by omega)
                            clear c21
                            simp only [Option.some.injEq, Prod.mk.injEq] at H
                            obtain ⟨rfl, rfl⟩ := H
                            have p19 : 0 ≤ (0 : Int) := (by omega)
                            have q19 : 0 < x4_6.size := (by have : (0 : Int) < (x4_6.size : Int) := of_decide_eq_true (by first | (with_reducible assumption) | assumption); omega)
                            have hx19 : ∀ h : 0 < x4_6.size, ((x4_6[0]'h).toNat : Int) = bt x4_6 0 := bt_at x4_6 0
                            clear p19
                            have qi19 : (0 < (x4_6.size : Int)) = True := eq_true (of_decide_eq_true (by first | (with_reducible assumption) | assumption))
                            replace q19 := eq_true q19
                            go_wp2
                            go_ret2
                            exact ⟨by first | rfl | (simp; done) | (simp [*]; done), by repeat (first | exact Drawn0.refl _ | apply Drawn0.step)⟩
                          · rw [if_neg c21] at H
                            have c21b0 : decide (19 < (x4_6.size : Int)) = false := decide_eq_false c21
                            have c21b1 : decide (19 < x4_6.size) = false := decide_eq_false (by omega)
                            clear c21
                            by_cases c22 : (x4_6.size : Int) = 19
                            · rw [if_pos c22] at H
                              have c22b0 : ((x4_6.size : Int) == 19) = true := beq_iff_eq.mpr c22
                              have c22b1 : ((x4_6.size : Int) != 19) = false := bne_eq_false_iff_eq.mpr c22
                              clear c22
                              by_cases c23 : (Op.bytesLess x5_6.toList x4_6.toList) = true
                              · rw [if_pos c23] at H
                                have c23b0 : (Op.bytesLess x5_6.toList x4_6.toList) = true := c23
                                clear c23
                                simp only [Option.some.injEq, Prod.mk.injEq] at H
                                obtain ⟨rfl, rfl⟩ := H
                                have p19 : 0 ≤ (0 : Int) := (by omega)
                                have q19 : 0 < x4_6.size := (by have : (0 : Int) < (x4_6.size : Int) := of_decide_eq_true (by first | (with_reducible assumption) | assumption); omega)
                                have hx19 : ∀ h : 0 < x4_6.size, ((x4_6[0]'h).toNat : Int) = bt x4_6 0 := bt_at x4_6 0
                                clear p19
                                have qi19 : (0 < (x4_6.size : Int)) = True := eq_true (of_decide_eq_true (by first | (with_reducible assumption) | assumption))
                                replace q19 := eq_true q19
                                go_wp2
                                go_ret2
                                exact ⟨by first | rfl | (simp; done) | (simp [*]; done), by repeat (first | exact Drawn0.refl _ | apply Drawn0.step)⟩
                              · rw [if_neg c23] at H
                                have c23b0 : (Op.bytesLess x5_6.toList x4_6.toList) = false := by simpa using c23
                                clear c23
                                simp only [Option.some.injEq, Prod.mk.injEq] at H
                                obtain ⟨rfl, rfl⟩ := H
                                have p19 : 0 ≤ (0 : Int) := (by omega)
                                have q19 : 0 < x4_6.size := (by have : (0 : Int) < (x4_6.size : Int) := of_decide_eq_true (by first | (with_reducible assumption) | assumption); omega)
                                have hx19 : ∀ h : 0 < x4_6.size, ((x4_6[0]'h).toNat : Int) = bt x4_6 0 := bt_at x4_6 0
                                clear p19
                                have qi19 : (0 < (x4_6.size : Int)) = True := eq_true (of_decide_eq_true (by first | (with_reducible assumption) | assumption))
                                replace q19 := eq_true q19
                                go_wp2
                                go_ret2
                                exact ⟨by first | rfl | (simp; done) | (simp [*]; done), by repeat (first | exact Drawn0.refl _ | apply Drawn0.step)⟩
                            · rw [if_neg c22] at H
                              have c22b0 : ((x4_6.size : Int) == 19) = false := beq_eq_false_iff_ne.mpr c22
                              have c22b1 : ((x4_6.size : Int) != 19) = true := bne_iff_ne.mpr c22
                              simp only [Option.some.injEq, Prod.mk.injEq] at H
                              obtain ⟨rfl, rfl⟩ := H
                              have p19 : 0 ≤ (0 : Int) := (by omega)
                              have q19 : 0 < x4_6.size := (by have : (0 : Int) < (x4_6.size : Int) := of_decide_eq_true (by first | (with_reducible assumption) | assumption); omega)
                              have hx19 : ∀ h : 0 < x4_6.size, ((x4_6[0]'h).toNat : Int) = bt x4_6 0 := bt_at x4_6 0
                              clear p19
                              have qi19 : (0 < (x4_6.size : Int)) = True := eq_true (of_decide_eq_true (by first | (with_reducible assumption) | assumption))
                              replace q19 := eq_true q19
                              go_wp2
                              go_ret2
                              exact ⟨by first | rfl | (simp; done) | (simp [*]; done), by repeat (first | exact Drawn0.refl _ | apply Drawn0.step)⟩
                      · rw [if_neg c18] at H
                        exact absurd H (by simp)
                    · rw [if_neg c17] at H
                      have c17b0 : decide (1 < (x4_6.size : Int)) = false := decide_eq_false c17
                      have c17b1 : decide (1 < x4_6.size) = false := decide_eq_false (by omega)
                      clear c17
                      by_cases c24 : (x4_6.size : Int) > 19
                      · rw [if_pos c24] at H
                        have c24b0 : decide (19 < (x4_6.size : Int)) = true := decide_eq_true c24
                        have c24b1 : decide (19 < x4_6.size) = true := decide_eq_true (by omega)
                        clear c24
                        simp only [Option.some.injEq, Prod.mk.injEq] at H
                        obtain ⟨rfl, rfl⟩ := H
                        go_wp2
                        go_ret2
                        exact ⟨by first | rfl | (simp; done) | (simp [*]; done), by repeat (first | exact Drawn0.refl _ | apply Drawn0.step)⟩
                      · rw [if_neg c24] at H
                        have c24b0 : decide (19 < (x4_6.size : Int)) = false := decide_eq_false c24
                        have c24b1 : decide (19 < x4_6.size) = false := decide_eq_false (by omega)
                        clear c24
                        by_cases c25 : (x4_6.size : Int) = 19
                        · rw [if_pos c25] at H
                          have c25b0 : ((x4_6.size : Int) == 19) = true := beq_iff_eq.mpr c25
                          have c25b1 : ((x4_6.size : Int) != 19) = false := bne_eq_false_iff_eq.mpr c25
                          clear c25
                          by_cases c26 : (Op.bytesLess x5_6.toList x4_6.toList) = true
                          · rw [if_pos c26] at H
                            have c26b0 : (Op.bytesLess x5_6.toList x4_6.toList) = true := c26
                            clear c26
                            simp only [Option.some.injEq, Prod.mk.injEq] at H
                            obtain ⟨rfl, rfl⟩ := H
                            go_wp2
                            go_ret2
                            exact ⟨by first | rfl | (simp; done) | (simp [*]; done), by repeat (first | exact Drawn0.refl _ | apply Drawn0.step)⟩
                          · rw [if_neg c26] at H
                            have c26b0 : (Op.bytesLess x5_6.toList x4_6.toList) = false := by simpa using c26
                            clear c26
                            simp only [Option.some.injEq, Prod.mk.injEq] at H
                            obtain ⟨rfl, rfl⟩ := H
                            go_wp2
                            go_ret2
                            exact ⟨by first | rfl | (simp; done) | (simp [*]; done), by repeat (first | exact Drawn0.refl _ | apply Drawn0.step)⟩
                        · rw [if_neg c25] at H
                          have c25b0 : ((x4_6.size : Int) == 19) = false := beq_eq_false_iff_ne.mpr c25
                          have c25b1 : ((x4_6.size : Int) != 19) = true := bne_iff_ne.mpr c25
                          simp only [Option.some.injEq, Prod.mk.injEq] at H
                          obtain ⟨rfl, rfl⟩ := H
                          go_wp2
                          go_ret2
                          exact ⟨by first | rfl | (simp; done) | (simp [*]; done), by repeat (first | exact Drawn0.refl _ | apply Drawn0.step)⟩
        · rw [if_neg c5] at H
          exact absurd H (by simp)

end Go.Proofs.YtaihajmdngoeiaaDoor.F

namespace Go.Proofs.YtaihajmdngoeiaaDoor.Q
open Go.RowKit Go.Proofs.YtaihajmdngoeiaaDoorW.PrintWords Go.Proofs.YtaihajmdngoeiaaDoorW.PrintLast Go.Proofs.YtaihajmdngoeiaaDoorW.PrintMore
open Go.Proofs.YtaihajmdngoeiaaDoor.F
set_option linter.unusedVariables false
set_option linter.unusedSimpArgs false

theorem w64 {x : Int} (h1 : -9223372036854775808 ≤ x) (h2 : x ≤ 9223372036854775807) : wrap64 x = x := by unfold wrap64; omega
theorem bytesOf_ints (s : ByteArray) : bytesOf s = ints s.toList := by rw [Lib.toList_data]; rfl
theorem bt_get (s : ByteArray) (i : Nat) (h : i < s.size) : bt s (i : Int) = (bytesOf s)[i]'(by rw [bytesOf_length]; exact h) := by
  rw [← rd_bytesOf]
  simp [rd, bytesOf_length, h]
theorem dr_cons (s : ByteArray) (i : Nat) (h : i < s.size) : (bytesOf s).drop i = bt s (i : Int) :: (bytesOf s).drop (i + 1) := by
  rw [List.drop_eq_getElem_cons (by rw [bytesOf_length]; exact h), bt_get s i h]
def numTail (M D : ByteArray) : Bool × Bool := if (1 < D.size ∧ bt D 0 = 48) ∨ 19 < D.size ∨ (D.size = 19 ∧ Op.bytesLess M.toList D.toList = true) then (false, false) else (true, true)
theorem numR_loop (M D : ByteArray) (hD : D.size ≤ 9223372036854775806) (d : Nat) : ∀ i : Nat, i ≤ D.size → D.size - i = d →
    Ev (fun k => monikerref1_number.l0 k D M (i : Int)) (if Digs ((bytesOf D).drop i) then numTail M D else (false, false)) := by
  induction d with
  | zero =>
    intro i h1 h2
    refine ⟨1, fun n hn => ?_⟩
    obtain ⟨k, rfl⟩ : ∃ m, n = m + 1 := ⟨n - 1, by omega⟩
    rw [List.drop_eq_nil_of_le (by rw [bytesOf_length]; omega), if_pos (by simp [Digs])]
    simp only [monikerref1_number.l0]
    rw [if_neg (by omega)]
    unfold numTail
    by_cases c1 : 1 < D.size
    · rw [if_pos (show (D.size : Int) > 1 by omega), if_pos (show (0 : Int) < (D.size : Int) by omega)]
      by_cases c2 : bt D 0 = 48
      · rw [if_pos c2, if_pos (Or.inl ⟨c1, c2⟩)]
      · rw [if_neg c2]
        by_cases c3 : 19 < D.size
        · rw [if_pos (show (D.size : Int) > 19 by omega), if_pos (Or.inr (Or.inl c3))]
        · rw [if_neg (show ¬ (D.size : Int) > 19 by omega)]
          by_cases c4 : D.size = 19
          · rw [if_pos (show (D.size : Int) = 19 by omega)]
            by_cases c5 : Op.bytesLess M.toList D.toList = true
            · rw [if_pos c5, if_pos (Or.inr (Or.inr ⟨c4, c5⟩))]
            · rw [if_neg c5, if_neg]
              rintro (h | h | h)
              · exact c2 h.2
              · exact c3 h
              · exact c5 h.2
          · rw [if_neg (show ¬ (D.size : Int) = 19 by omega), if_neg]
            rintro (h | h | h)
            · exact c2 h.2
            · exact c3 h
            · exact c4 h.1
    · rw [if_neg (show ¬ (D.size : Int) > 1 by omega), if_neg (show ¬ (D.size : Int) > 19 by omega), if_neg (show ¬ (D.size : Int) = 19 by omega), if_neg]
      rintro (h | h | h)
      · exact c1 h.1
      · omega
      · omega
  | succ d ih =>
    intro i h1 h2
    have hi : i < D.size := by omega
    have hw : wrap64 ((i : Int) + 1) = ((i + 1 : Nat) : Int) := by rw [w64] <;> omega
    obtain ⟨K, hK⟩ := ih (i + 1) (by omega) (by omega)
    refine ⟨K + 1, fun n hn => ?_⟩
    obtain ⟨k, rfl⟩ : ∃ m, n = m + 1 := ⟨n - 1, by omega⟩
    have g := hK k (by omega)
    simp only at g
    rw [dr_cons D i hi]
    simp only [monikerref1_number.l0]
    rw [if_pos (by omega), if_pos (by omega)]
    by_cases c1 : bt D (i : Int) < 48
    · rw [if_pos c1, if_neg]
      intro h
      have := (Digs.cons.1 h).1
      omega
    · rw [if_neg c1]
      by_cases c2 : bt D (i : Int) > 57
      · rw [if_pos c2, if_neg]
        intro h
        have := (Digs.cons.1 h).1
        omega
      · rw [if_neg c2, hw, g]
        congr 1
        by_cases c3 : Digs ((bytesOf D).drop (i + 1))
        · rw [if_pos c3, if_pos (Digs.cons.2 ⟨by omega, c3⟩)]
        · rw [if_neg c3, if_neg (fun h => c3 (Digs.cons.1 h).2)]
theorem pow_ge (n : Nat) (h : 19 ≤ n) : (10000000000000000000 : Int) ≤ 10 ^ n := by
  obtain ⟨j, rfl⟩ : ∃ j, n = 19 + j := ⟨n - 19, by omega⟩
  rw [Int.pow_add]
  have hp : (1 : Int) ≤ 10 ^ j := Int.pow_pos (by omega)
  have : (10 : Int) ^ 19 * 1 ≤ 10 ^ 19 * 10 ^ j := Int.mul_le_mul_of_nonneg_left hp (by omega)
  omega
theorem pow_le (n : Nat) (h : n ≤ 18) : (10 : Int) ^ n ≤ 1000000000000000000 := by
  obtain ⟨j, hj⟩ : ∃ j, 18 = n + j := ⟨18 - n, by omega⟩
  have h18 : (10 : Int) ^ (n + j) = 1000000000000000000 := by rw [← hj]; rfl
  rw [← h18, Int.pow_add]
  have hp : (1 : Int) ≤ 10 ^ j := Int.pow_pos (by omega)
  have hq : (0 : Int) ≤ 10 ^ n := Int.le_of_lt (Int.pow_pos (by omega))
  have : (10 : Int) ^ n * 1 ≤ 10 ^ n * 10 ^ j := Int.mul_le_mul_of_nonneg_left hp hq
  omega
theorem tail_fits (neg : Bool) (M D : ByteArray) (h0 : 0 < D.size) (hM : M.size = 19) (hMd : Digs (bytesOf M)) (hMv : dv 0 (bytesOf M) = lim neg) (hd : Digs (bytesOf D)) :
    (Fits neg (bytesOf D) → numTail M D = (true, true)) ∧ (¬ Fits neg (bytesOf D) → numTail M D = (false, false)) := by
  have hlen := bytesOf_length D
  obtain ⟨c, l, hcl⟩ : ∃ c l, bytesOf D = c :: l := by
    cases h : bytesOf D with
    | nil => rw [h] at hlen; simp at hlen; omega
    | cons c l => exact ⟨c, l, rfl⟩
  have hb0 : bt D 0 = c := by
    have := bt_get D 0 h0
    simp only [hcl] at this
    simpa using this
  have hl : l.length + 1 = D.size := by rw [← hlen, hcl]; simp
  have hdc := hd
  rw [hcl] at hdc
  obtain ⟨hc, hdl⟩ := Digs.cons.1 hdc
  have hbd := dv_bounds l (c - 48) hdl
  have hv : dv 0 (bytesOf D) = dv (c - 48) l := by rw [hcl, dv_zero]
  have hlim : lim neg = 9223372036854775807 ∨ lim neg = 9223372036854775808 := by cases neg <;> simp [lim]
  have key : Fits neg (bytesOf D) ↔ ¬ ((1 < D.size ∧ bt D 0 = 48) ∨ 19 < D.size ∨ (D.size = 19 ∧ Op.bytesLess M.toList D.toList = true)) := by
    unfold Fits
    rw [hlen, hb0]
    have hhead : (bytesOf D).head? = some c := by rw [hcl]; rfl
    rw [hhead]
    by_cases c1 : 1 < D.size ∧ c = 48
    · constructor
      · intro h; exact absurd (by rw [c1.2]) (h.2.1 c1.1)
      · intro h; exact absurd (Or.inl c1) h
    · have hne : 1 < D.size → some c ≠ some 48 := fun h e => c1 ⟨h, by injection e⟩
      by_cases c2 : 19 < D.size
      · constructor
        · intro h
          have hp := pow_ge l.length (by omega)
          have hc49 : 1 ≤ c - 48 := by
            rcases Decidable.em (c = 48) with e | e
            · exact absurd ⟨by omega, e⟩ c1
            · omega
          have : 1 * (10 : Int) ^ l.length ≤ (c - 48) * 10 ^ l.length := Int.mul_le_mul_of_nonneg_right hc49 (by omega)
          have h3 := h.2.2
          rw [hv] at h3
          omega
        · intro h; exact absurd (Or.inr (Or.inl c2)) h
      · by_cases c3 : D.size = 19
        · have hless := less_dv M.toList D.toList 0 (by rw [Lib.toList_data, Lib.toList_data, data_length, data_length, hM, c3]) (by rw [← bytesOf_ints]; exact hMd) (by rw [← bytesOf_ints]; exact hd)
          rw [← bytesOf_ints, ← bytesOf_ints, hMv] at hless
          constructor
          · rintro ⟨_, _, h3⟩ (h | h | h)
            · exact c1 h
            · exact c2 h
            · have := hless.1 h.2
              omega
          · intro h
            refine ⟨hd, hne, ?_⟩
            have : ¬ (lim neg < dv 0 (bytesOf D)) := fun hx => h (Or.inr (Or.inr ⟨c3, hless.2 hx⟩))
            omega
        · constructor
          · rintro _ (h | h | h)
            · exact c1 h
            · exact c2 h
            · exact c3 h.1
          · intro _
            refine ⟨hd, hne, ?_⟩
            have hb := dv_bounds (bytesOf D) 0 hd
            have hp := pow_le (bytesOf D).length (by omega)
            omega
  unfold numTail
  constructor
  · intro h; rw [if_neg (key.1 h)]
  · intro h; rw [if_pos (Decidable.not_not.1 (fun hx => h (key.2 hx)))]
/-- What the reference says of a number's beginning. -/
def nsay : Option NS → Bool × Bool
  | none => (false, false)
  | some t => (t.isNum, true)
def most7 : ByteArray := ⟨#[57, 50, 50, 51, 51, 55, 50, 48, 51, 54, 56, 53, 52, 55, 55, 53, 56, 48, 55]⟩
def most8 : ByteArray := ⟨#[57, 50, 50, 51, 51, 55, 50, 48, 51, 54, 56, 53, 52, 55, 55, 53, 56, 48, 56]⟩
theorem most_digs : Digs (bytesOf most7) ∧ dv 0 (bytesOf most7) = lim false ∧ Digs (bytesOf most8) ∧ dv 0 (bytesOf most8) = lim true := by decide +kernel
theorem ex_bytes (s : ByteArray) (i j : Nat) : bytesOf (s.extract i j) = ((bytesOf s).drop i).take (j - i) := by
  unfold bytesOf
  rw [ByteArray.data_extract, Array.toList_extract, ← List.map_drop, ← List.map_take]
theorem toList_eq_iff (s : ByteArray) (l : List UInt8) : s.toList = l ↔ bytesOf s = ints l := by
  rw [bytesOf_ints]
  constructor
  · intro h; rw [h]
  · intro h
    have hinj : ∀ (a b : List UInt8), ints a = ints b → a = b := by
      intro a
      induction a with
      | nil => intro b h; cases b with | nil => rfl | cons _ _ => simp [ints] at h
      | cons x a ih =>
        intro b h
        cases b with
        | nil => simp [ints] at h
        | cons y b =>
          simp only [ints, List.map_cons, List.cons.injEq] at h
          have e : x = y := UInt8.toNat_inj.1 (by omega)
          rw [e, ih b h.2]
    exact hinj _ _ h
theorem numR_is (s : ByteArray) (hs : s.size ≤ 9223372036854775806) : Ev (fun k => monikerref1_number.f k s) (nsay (NS.start.run (bytesOf s))) := by
  unfold monikerref1_number.f
  have hlen := bytesOf_length s
  have e0 : (s.toList = ([] : List UInt8)) ↔ bytesOf s = [] := toList_eq_iff s []
  have e45 : (s.toList = ([45] : List UInt8)) ↔ bytesOf s = [45] := toList_eq_iff s [45]
  by_cases c0 : bytesOf s = []
  · refine ⟨1, fun n hn => ?_⟩
    obtain ⟨k, rfl⟩ : ∃ m, n = m + 1 := ⟨n - 1, by omega⟩
    simp only []
    rw [if_pos (e0.2 c0), c0]
    simp [monikerref1_number.j0, NS.run, nsay, NS.isNum]
  by_cases c1 : bytesOf s = [45]
  · refine ⟨1, fun n hn => ?_⟩
    obtain ⟨k, rfl⟩ : ∃ m, n = m + 1 := ⟨n - 1, by omega⟩
    simp only []
    rw [if_neg (fun h => c0 (e0.1 h)), show (s.toList == ([45] : List UInt8)) = true by rw [beq_iff_eq]; exact e45.2 c1, c1]
    simp [monikerref1_number.j0, NS.run, NS.step, nsay, NS.isNum]
  have h0 : 0 < s.size := by
    rcases Nat.eq_zero_or_pos s.size with h | h
    · exact absurd (List.eq_nil_of_length_eq_zero (by omega)) c0
    · exact h
  have hb45 : (s.toList == ([45] : List UInt8)) = false := by rw [beq_eq_false_iff_ne]; exact fun h => c1 (e45.1 h)
  have start : ∀ k, (if s.toList = ([] : List UInt8) then (monikerref1_number.j0 k s true) else (monikerref1_number.j0 k s (s.toList == ([45] : List UInt8)))) = monikerref1_number.j0 k s false := fun k => by
    rw [if_neg (fun h => c0 (e0.1 h)), hb45]
  refine Ev.congr start ?_
  have hb0 : bt s 0 = (bytesOf s)[0]'(by omega) := bt_get s 0 h0
  obtain ⟨c, l, hcl⟩ : ∃ c l, bytesOf s = c :: l := by
    cases h : bytesOf s with
    | nil => exact absurd h c0
    | cons c l => exact ⟨c, l, rfl⟩
  have hb0' : bt s 0 = c := by rw [hb0]; simp [hcl]
  by_cases c2 : c = 45
  · -- a minus
    have hext : bytesOf (s.extract 1 s.size) = l := by
      rw [ex_bytes, hcl]
      simp only [List.drop_succ_cons, List.drop_zero]
      rw [List.take_of_length_le]
      rw [← hlen, hcl]
      simp
    have hrun : NS.start.run (bytesOf s) = NS.minus.run l := by
      rw [hcl, c2]
      simp [NS.run, NS.step]
    have hlne : l ≠ [] := fun e => c1 (by rw [hcl, c2, e])
    have esz : (s.extract 1 s.size).size = s.size - 1 := by rw [ByteArray.size_extract]; omega
    rw [hrun]
    by_cases c3 : l = [48]
    · refine ⟨1, fun n hn => ?_⟩
      obtain ⟨k, rfl⟩ : ∃ m, n = m + 1 := ⟨n - 1, by omega⟩
      simp only [monikerref1_number.j0]
      rw [if_neg (by simp), if_pos (by omega), hb0', if_pos c2, if_pos (by omega), if_pos ((toList_eq_iff _ [48]).2 (by rw [hext, c3]; rfl)), c3]
      simp [NS.run, NS.step, nsay]
    · obtain ⟨K, hK⟩ := numR_loop most8 (s.extract 1 s.size) (by omega) _ 0 (by omega) rfl
      refine ⟨K + 2, fun n hn => ?_⟩
      obtain ⟨k, rfl⟩ : ∃ m, n = m + 2 := ⟨n - 2, by omega⟩
      simp only [monikerref1_number.j0]
      rw [if_neg (by simp), if_pos (by omega), hb0', if_pos c2, if_pos (by omega), if_neg (fun h => c3 (by have := (toList_eq_iff _ [48]).1 h; rw [hext] at this; exact this))]
      simp only [monikerref1_number.j1]
      have g := hK k (by omega)
      simp only [List.drop_zero, Int.ofNat_zero] at g
      refine g.trans ?_
      congr 1
      rw [hext]
      obtain ⟨r1, r2⟩ := run_neg l hlne
      by_cases hd : Digs l
      · rw [if_pos hd]
        have hpos : 0 < (s.extract 1 s.size).size := by
          have h1 : l.length + 1 = s.size := by rw [← hlen, hcl]; simp
          have h2 := List.length_pos_iff.2 hlne
          omega
        obtain ⟨t1, t2⟩ := tail_fits true most8 (s.extract 1 s.size) hpos rfl most_digs.2.2.1 most_digs.2.2.2 (by rw [hext]; exact hd)
        rw [hext] at t1 t2
        by_cases hf : Fits true l
        · rw [t1 hf, r1 hf c3]; rfl
        · rw [t2 hf, r2 (fun h => hf h.1)]; rfl
      · rw [if_neg hd, r2 (fun h => hd h.1.1)]; rfl
  · obtain ⟨K, hK⟩ := numR_loop most7 s hs _ 0 (by omega) rfl
    refine ⟨K + 2, fun n hn => ?_⟩
    obtain ⟨k, rfl⟩ : ∃ m, n = m + 2 := ⟨n - 2, by omega⟩
    simp only [monikerref1_number.j0]
    rw [if_neg (by simp), if_pos (by omega), hb0', if_neg c2]
    simp only [monikerref1_number.j1]
    have g := hK k (by omega)
    simp only [List.drop_zero, Int.ofNat_zero] at g
    refine g.trans ?_
    congr 1
    obtain ⟨r1, r2⟩ := run_pos (bytesOf s) c0 (by rw [hcl]; simp; exact c2)
    by_cases hd : Digs (bytesOf s)
    · rw [if_pos hd]
      obtain ⟨t1, t2⟩ := tail_fits false most7 s h0 rfl most_digs.1 most_digs.2.1 hd
      by_cases hf : Fits false (bytesOf s)
      · rw [t1 hf, r1 hf]; rfl
      · rw [t2 hf, r2 hf]; rfl
    · rw [if_neg hd, r2 (fun h => hd h.1)]; rfl
end Go.Proofs.YtaihajmdngoeiaaDoor.Q

/-
  DERIVED: THE SHELF's CONTRACTS AT THIS DUMP, IN PLAIN WORDS (tools/lay-plain.mjs out of 'TrydShelf.lean', which tools/lay-shelf.mjs wrote): THE SAME DECLARATIONS UNDER THE SAME NAMES: 'import', 'namespace', 'open', 'def', 'theorem' AND NOTHING ELSE: no command of the shelf's: FOR A HAND-IN. Each laying: the table of numbers ('.._ren') and one theorem, a field a fact of the dump's own or the kernel's comparison; each contract: ONE APPLICATION.
-/
namespace Go.Proofs
open Go.Shelf
def Tryd.laysC172_ren : Go.Shelf.Ren := ⟨fun | 172 => 70 | 244 => 75 | 245 => 76 | 247 => 82 | 279 => 83 | 280 => 84 | 281 => 85 | 282 => 86 | 287 => 89 | 316 => 90 | 171 => 28 | 205 => 91 | 321 => 92 | 322 => 93 | 243 => 52 | 246 => 66 | 283 => 71 | 284 => 72 | 285 => 73 | 286 => 74 | 129 => 78 | 317 => 77 | 318 => 79 | 319 => 80 | 320 => 81 | 337 => 87 | 338 => 88 | n => n, fun | 9 => 9 | 3 => 3 | 75 => 127 | 76 => 128 | 4 => 4 | 5 => 5 | 167 => 142 | 37 => 59 | 0 => 0 | 85 => 143 | 2 => 2 | 168 => 145 | 53 => 119 | 175 => 149 | 46 => 140 | 210 => 152 | 127 => 157 | 145 => 160 | 143 => 158 | 21 => 21 | 171 => 130 | 173 => 133 | 212 => 137 | 51 => 138 | 20 => 20 | 213 => 139 | 232 => 154 | 233 => 155 | 80 => 67 | n => n, fun | 15 => 1 | 16 => 2 | 17 => 0 | 18 => 3 | 19 => 4 | n => n⟩
theorem Tryd.laysC172 : Go.Proofs.LaysC.n172 Tryd.prog Tryd.laysC172_ren := {
  mixed := by kernel_rfl
  f129 := Tryd.func78.trans (congrArg some (by kernel_rfl))
  f171 := Tryd.func28.trans (congrArg some (by kernel_rfl))
  f172 := Tryd.func70.trans (congrArg some (by kernel_rfl))
  f205 := Tryd.func91.trans (congrArg some (by kernel_rfl))
  f243 := Tryd.func52.trans (congrArg some (by kernel_rfl))
  f244 := Tryd.func75.trans (congrArg some (by kernel_rfl))
  f245 := Tryd.func76.trans (congrArg some (by kernel_rfl))
  f246 := Tryd.func66.trans (congrArg some (by kernel_rfl))
  f247 := Tryd.func82.trans (congrArg some (by kernel_rfl))
  f279 := Tryd.func83.trans (congrArg some (by kernel_rfl))
  f280 := Tryd.func84.trans (congrArg some (by kernel_rfl))
  f281 := Tryd.func85.trans (congrArg some (by kernel_rfl))
  f282 := Tryd.func86.trans (congrArg some (by kernel_rfl))
  f283 := Tryd.func71.trans (congrArg some (by kernel_rfl))
  f284 := Tryd.func72.trans (congrArg some (by kernel_rfl))
  f285 := Tryd.func73.trans (congrArg some (by kernel_rfl))
  f286 := Tryd.func74.trans (congrArg some (by kernel_rfl))
  f287 := Tryd.func89.trans (congrArg some (by kernel_rfl))
  f316 := Tryd.func90.trans (congrArg some (by kernel_rfl))
  f317 := Tryd.func77.trans (congrArg some (by kernel_rfl))
  f318 := Tryd.func79.trans (congrArg some (by kernel_rfl))
  f319 := Tryd.func80.trans (congrArg some (by kernel_rfl))
  f320 := Tryd.func81.trans (congrArg some (by kernel_rfl))
  f321 := Tryd.func92.trans (congrArg some (by kernel_rfl))
  f322 := Tryd.func93.trans (congrArg some (by kernel_rfl))
  f337 := Tryd.func87.trans (congrArg some (by kernel_rfl))
  f338 := Tryd.func88.trans (congrArg some (by kernel_rfl))
  t0 := Tryd.underlying0
  a0 := Tryd.isAgg0
  z0 := Tryd.sizeOf0
  v0 := Tryd.zeroValue0
  t2 := Tryd.underlying2
  a2 := Tryd.isAgg2
  z2 := Tryd.sizeOf2
  v2 := Tryd.zeroValue2
  t3 := Tryd.underlying3
  a3 := Tryd.isAgg3
  z3 := Tryd.sizeOf3
  v3 := Tryd.zeroValue3
  t4 := Tryd.underlying4
  a4 := Tryd.isAgg4
  z4 := Tryd.sizeOf4
  v4 := Tryd.zeroValue4
  t5 := Tryd.underlying5
  a5 := Tryd.isAgg5
  z5 := Tryd.sizeOf5
  v5 := Tryd.zeroValue5
  t9 := Tryd.underlying9
  a9 := Tryd.isAgg9
  z9 := Tryd.sizeOf9
  v9 := Tryd.zeroValue9
  t20 := Tryd.underlying20
  a20 := Tryd.isAgg20
  z20 := Tryd.sizeOf20
  v20 := Tryd.zeroValue20
  t21 := Tryd.underlying21
  a21 := Tryd.isAgg21
  z21 := Tryd.sizeOf21
  v21 := Tryd.zeroValue21
  t37 := Tryd.underlying59
  a37 := Tryd.isAgg59
  z37 := Tryd.sizeOf59
  v37 := Tryd.zeroValue59
  t46 := Tryd.underlying140
  a46 := Tryd.isAgg140
  z46 := Tryd.sizeOf140
  v46 := Tryd.zeroValue140
  t51 := Tryd.underlying138
  a51 := Tryd.isAgg138
  z51 := Tryd.sizeOf138
  v51 := Tryd.zeroValue138
  t53 := Tryd.underlying119
  a53 := Tryd.isAgg119
  z53 := Tryd.sizeOf119
  v53 := Tryd.zeroValue119
  t75 := Tryd.underlying127
  a75 := Tryd.isAgg127
  z75 := Tryd.sizeOf127
  v75 := Tryd.zeroValue127
  t76 := Tryd.underlying128
  a76 := Tryd.isAgg128
  z76 := Tryd.sizeOf128
  v76 := Tryd.zeroValue128
  t85 := Tryd.underlying143
  a85 := Tryd.isAgg143
  z85 := Tryd.sizeOf143
  v85 := Tryd.zeroValue143
  t127 := Tryd.underlying157
  a127 := Tryd.isAgg157
  z127 := Tryd.sizeOf157
  v127 := Tryd.zeroValue157
  t143 := Tryd.underlying158
  a143 := Tryd.isAgg158
  z143 := Tryd.sizeOf158
  v143 := Tryd.zeroValue158
  t145 := Tryd.underlying160
  a145 := Tryd.isAgg160
  z145 := Tryd.sizeOf160
  v145 := Tryd.zeroValue160
  t167 := Tryd.underlying142
  a167 := Tryd.isAgg142
  z167 := Tryd.sizeOf142
  v167 := Tryd.zeroValue142
  t168 := Tryd.underlying145
  a168 := Tryd.isAgg145
  z168 := Tryd.sizeOf145
  v168 := Tryd.zeroValue145
  t171 := Tryd.underlying130
  a171 := Tryd.isAgg130
  z171 := Tryd.sizeOf130
  v171 := Tryd.zeroValue130
  t173 := Tryd.underlying133
  a173 := Tryd.isAgg133
  z173 := Tryd.sizeOf133
  v173 := Tryd.zeroValue133
  t175 := Tryd.underlying149
  a175 := Tryd.isAgg149
  z175 := Tryd.sizeOf149
  v175 := Tryd.zeroValue149
  t210 := Tryd.underlying152
  a210 := Tryd.isAgg152
  z210 := Tryd.sizeOf152
  v210 := Tryd.zeroValue152
  t212 := Tryd.underlying137
  a212 := Tryd.isAgg137
  z212 := Tryd.sizeOf137
  v212 := Tryd.zeroValue137
  t213 := Tryd.underlying139
  a213 := Tryd.isAgg139
  z213 := Tryd.sizeOf139
  t232 := Tryd.underlying154
  a232 := Tryd.isAgg154
  z232 := Tryd.sizeOf154
  v232 := Tryd.zeroValue154
  t233 := Tryd.underlying155
  a233 := Tryd.isAgg155
  z233 := Tryd.sizeOf155
  v233 := Tryd.zeroValue155
  g15 := by kernel_rfl
  g16 := by kernel_rfl
  g17 := by kernel_rfl
  g18 := by kernel_rfl
  g19 := by kernel_rfl
  t80 := Tryd.underlying67
  a80 := Tryd.isAgg67
  z80 := Tryd.sizeOf67
  v80 := Tryd.zeroValue67
  i0 := by kernel_rfl
  i2 := by kernel_rfl
  i3 := by kernel_rfl
  i4 := by kernel_rfl
  i5 := by kernel_rfl
  i9 := by kernel_rfl
  i20 := by kernel_rfl
  i21 := by kernel_rfl
  i37 := by kernel_rfl
  i46 := by kernel_rfl
  i51 := by kernel_rfl
  i53 := by kernel_rfl
  i75 := by kernel_rfl
  i76 := by kernel_rfl
  i80 := by kernel_rfl
  i85 := by kernel_rfl
  i127 := by kernel_rfl
  i143 := by kernel_rfl
  i145 := by kernel_rfl
  i167 := by kernel_rfl
  i168 := by kernel_rfl
  i171 := by kernel_rfl
  i173 := by kernel_rfl
  i175 := by kernel_rfl
  i210 := by kernel_rfl
  i212 := by kernel_rfl
  i232 := by kernel_rfl
  i233 := by kernel_rfl
  m15 := by kernel_rfl
  m16 := by kernel_rfl
  m17 := by kernel_rfl
  m18 := by kernel_rfl
  m19 := by kernel_rfl
  c0 := by kernel_rfl
  c2 := by kernel_rfl
  c3 := by kernel_rfl
  c4 := by kernel_rfl
  c5 := by kernel_rfl
  c9 := by kernel_rfl
  c20 := by kernel_rfl
  c21 := by kernel_rfl
  c37 := by kernel_rfl
  c46 := by kernel_rfl
  c51 := by kernel_rfl
  c53 := by kernel_rfl
  c75 := by kernel_rfl
  c76 := by kernel_rfl
  c80 := by kernel_rfl
  c85 := by kernel_rfl
  c127 := by kernel_rfl
  c143 := by kernel_rfl
  c145 := by kernel_rfl
  c167 := by kernel_rfl
  c168 := by kernel_rfl
  c171 := by kernel_rfl
  c173 := by kernel_rfl
  c175 := by kernel_rfl
  c210 := by kernel_rfl
  c212 := by kernel_rfl
  c213 := by kernel_rfl
  c232 := by kernel_rfl
  c233 := by kernel_rfl }
open Go.RowKit in
/-- strconv.Atoi, AT EVERY STRING THAT SPELLS AN int ('Lib.atoiAll .. = .ok v'; of whatever length: leading zeros count): v, AND NO ERROR. The world: as it was, or with the one new row that '[]byte(..)' lays. (LAID: no walk: one application.) -/
theorem Tryd.strconv_Atoi_ok (s : ByteArray) (hmax : s.size ≤ 9223372036854775806) (v : Int) (h : Lib.atoiAll s.data.toList = .ok v) (w : World) :
    Calls Tryd.prog 70 #[.string s] w fun e w' => e = .returned (.tuple #[.int .i64 v, .nilIface]) ∧ (w' = w ∨ ∃ t, w' = Lib.bytesWorld w 5 t) := Any.strconv_Atoi_ok Tryd.laysC172 s hmax v h w
end Go.Proofs

-- strconv's Itoa, AppendInt and Atoi at this dump: their meaning in plain Lean, and their contracts out of the shelf's
namespace Go.Proofs.YtaihajmdngoeiaaDoor.F
open Go.RowKit Go.Proofs.YtaihajmdngoeiaaDoorW.PrintWords Go.Proofs.YtaihajmdngoeiaaDoorW.PrintLast Go.Proofs.YtaihajmdngoeiaaDoorW.PrintMore
set_option linter.unusedVariables false
set_option linter.unusedSimpArgs false

/-- The table of strconv that Itoa reads. -/
structure SG (w : World) : Prop where
  tab : Lib.TabIs Tryd.prog w "internal/strconv.uint64pow10" .u64 Lib.pow10Tab
theorem SG.below {w w' : World} (h : SG w) (hb : Below w.heap.size w w') : SG w' := ⟨Lib.tabBelow_of_tabIs h.tab w' hb⟩
theorem SG.far {w w' : World} {B : Nat} (h : SG w) (hb : Below w.heap.size w w') : Lib.TabBelow Tryd.prog w.heap.size w' "internal/strconv.uint64pow10" .u64 Lib.pow10Tab := (Lib.tabBelow_of_tabIs h.tab).on hb

def strconv_Atoi_70.f (k : Nat) (s : ByteArray) : Option (Int × Option Int) :=
  if s.size ≤ 9223372036854775806 then (match Lib.atoiAll s.data.toList with | .ok v => some (v, none) | _ => none) else none
theorem strconv_Atoi_70.calls (k : Nat) (s : ByteArray) (r1 : Int) (r2 : Option Int) (w : World) (h : strconv_Atoi_70.f k s = some (r1, r2)) :
    Calls Tryd.prog 70 #[.string s] w fun e w' => e = .returned (.tuple #[.int .i64 r1, .nilIface]) ∧ Below w.heap.size w w' := by
  unfold strconv_Atoi_70.f at h
  split at h
  · next hs =>
    cases hv : Lib.atoiAll s.data.toList with
    | ok v =>
      rw [hv] at h
      simp only [Option.some.injEq, Prod.mk.injEq] at h
      obtain ⟨rfl, rfl⟩ := h
      refine (Tryd.strconv_Atoi_ok s hs _ hv w).mono ?_
      rintro e w' ⟨rfl, rfl | ⟨t, rfl⟩⟩
      · exact ⟨rfl, Below.refl _ _⟩
      · exact ⟨rfl, Lib.bytesWorld_below w 5 t⟩
    | «syntax» => rw [hv] at h; cases h
    | range => rw [hv] at h; cases h
  · cases h

end Go.Proofs.YtaihajmdngoeiaaDoor.F

-- A text of this session's own program (wip/myprint.sh over a changed print tool): functions and their walks
namespace Go.Proofs.YtaihajmdngoeiaaDoor.F
open Go.RowKit Go.Proofs.YtaihajmdngoeiaaDoorW.PrintWords Go.Proofs.YtaihajmdngoeiaaDoorW.PrintLast Go.Proofs.YtaihajmdngoeiaaDoorW.PrintMore
attribute [local go_sem] max2_int min2_int max_two min_two max_three min_three max_four min_four   -- for this text's walks alone
set_option linter.unusedVariables false
set_option linter.unusedSimpArgs false

/-! ### monikerref1_take: function 57 -/
mutual
def monikerref1_take.l0 : Nat → ByteArray → Int → Int → Int → Option (Int × Int × Bool)
  | 0, _, _, _, _ => none
  | k + 1, x0, x1, x2, x9 => if x9 = (x0.size : Int) then (some (0, x9, false)) else (if 0 ≤ x1 then (if x1 ≤ x9 then (if x9 ≤ (x0.size : Int) then ((monikerref1_number.f k (x0.extract (x1 : Int).toNat (x9 : Int).toNat)).bind fun bt406 => (if 0 ≤ x9 then (if x9 < (x0.size : Int) then (if (bt x0 x9) = x2 then (monikerref1_take.j1 k x0 x1 x2 x9 bt406.1) else (monikerref1_take.j1 k x0 x1 x2 x9 false)) else (none)) else (none))) else (none)) else (none)) else (none))
def monikerref1_take.j1 : Nat → ByteArray → Int → Int → Int → Bool → Option (Int × Int × Bool)
  | 0, _, _, _, _, _ => none
  | k + 1, x0, x1, x2, x9, x37 => if x37 = true then (if 0 ≤ x1 then (if x1 ≤ x9 then (if x9 ≤ (x0.size : Int) then ((strconv_Atoi_70.f k (x0.extract (x1 : Int).toNat (x9 : Int).toNat)).bind fun bt408 => (some (bt408.1, wrap64 (x9 + 1), true))) else (none)) else (none)) else (none)) else (if 0 ≤ x1 then (if x1 ≤ (wrap64 (x9 + 1)) then (if (wrap64 (x9 + 1)) ≤ (x0.size : Int) then ((monikerref1_number.f k (x0.extract (x1 : Int).toNat ((wrap64 (x9 + 1)) : Int).toNat)).bind fun bt410 => (if bt410.2 = true then (monikerref1_take.l0 k x0 x1 x2 (wrap64 (x9 + 1))) else (some (0, x9, false)))) else (none)) else (none)) else (none))
end
def monikerref1_take.f (k : Nat) (a0 : ByteArray) (a1 : Int) (a2 : Int) : Option (Int × Int × Bool) := monikerref1_take.l0 k a0 a1 a2 a1
set_option maxHeartbeats 8000000 in
set_option maxRecDepth 100000 in
theorem monikerref1_take.calls (k : Nat) (a0 : ByteArray) (a1 : Int) (a2 : Int) (r1 : Int) (r2 : Int) (r3 : Bool) (w : World) (h : monikerref1_take.f k a0 a1 a2 = some (r1, r2, r3)) :
    Calls Tryd.prog 57 #[.string a0, .int .i64 a1, .int .u8 a2] w fun e w' => e = .returned (.tuple #[.int .i64 r1, .int .i64 r2, .bool r3]) ∧ Below w.heap.size w w' := by
  have HB := Aside0.mk (Below.refl w.heap.size w)
  have H : (monikerref1_take.l0 k a0 a1 a2 a1) = some (r1, r2, r3) := h
  clear h
  have H' := Aside0.mk H
  clear H
  go_enter Tryd.func57, Tryd.ntmps57
  go_wp2
  go_loopg [9] k (fun kq v9 w' => ∃ (x9_1 : Int), v9 = .int .i64 x9_1 ∧ Aside0 (monikerref1_take.l0 kq a0 a1 a2 x9_1 = some (r1, r2, r3)) ∧ Aside0 (kq ≤ k) ∧ Aside0 (Below w.heap.size w w'))
  case atStart => exact ⟨(a1), (by first | rfl | (simp; done) | (simp [*]; done)), H', ⟨Nat.le_refl _⟩, ⟨by repeat (first | (with_reducible first | exact HB.out | apply below_alloc | apply pw_below_drewN | apply below_drew1) | exact HB.out)⟩⟩
  case round =>
    clear H'
    try clear p2
    obtain ⟨x9_1, rfl, HA, HK1, HB⟩ := hrel
    cases gk with
    | zero => exact absurd HA.out (by simp [monikerref1_take.l0])
    | succ k1 =>
      have H := HA.out
      clear HA
      simp only [monikerref1_take.l0] at H
      by_cases c4 : x9_1 = (a0.size : Int)
      · rw [if_pos c4] at H
        have c4b0 : (x9_1 == (a0.size : Int)) = true := beq_iff_eq.mpr c4
        have c4b1 : (x9_1 != (a0.size : Int)) = false := bne_eq_false_iff_eq.mpr c4
        clear c4
        simp only [Option.some.injEq, Prod.mk.injEq] at H
        obtain ⟨rfl, rfl, rfl⟩ := H
        go_wp2
        go_ret3
        exact ⟨by first | rfl | (simp [errW_none, errW_some] <;> rfl) | (simp [*, errW_none, errW_some] <;> rfl), by repeat (first | (with_reducible first | exact HB.out | apply below_alloc | apply pw_below_drewN | apply below_drew1) | exact HB.out)⟩
      · rw [if_neg c4] at H
        have c4b0 : (x9_1 == (a0.size : Int)) = false := beq_eq_false_iff_ne.mpr c4
        have c4b1 : (x9_1 != (a0.size : Int)) = true := bne_iff_ne.mpr c4
        by_cases c5 : 0 ≤ a1
        · rw [if_pos c5] at H
          have c5b0 := eq_true c5
          have c5b1 : decide (0 ≤ a1) = true := decide_eq_true c5
          clear c5
          by_cases c6 : a1 ≤ x9_1
          · rw [if_pos c6] at H
            have c6b0 := eq_true c6
            have c6b1 : decide (a1 ≤ x9_1) = true := decide_eq_true c6
            clear c6
            by_cases c7 : x9_1 ≤ (a0.size : Int)
            · rw [if_pos c7] at H
              have c7b0 := eq_true c7
              have c7b1 : decide (x9_1 ≤ (a0.size : Int)) = true := decide_eq_true c7
              clear c7
              replace H := Option.bind_eq_some_iff.mp H
              obtain ⟨⟨t406, t407⟩, A80, H⟩ := H
              replace H : (if 0 ≤ x9_1 then (if x9_1 < (a0.size : Int) then (if (bt a0 x9_1) = a2 then (monikerref1_take.j1 k1 a0 a1 a2 x9_1 t406) else (monikerref1_take.j1 k1 a0 a1 a2 x9_1 false)) else (none)) else (none)) = some (r1, r2, r3) := H
              have A8 := Aside0.mk A80
              clear A80
              have HC9 := Aside0.mk H
              clear H
              go_upto_region 5 with (first | ((with_reducible refine gate_callee (f := 69) rfl ?_); refine goesL_ (some 27) rfl rfl Tryd.func69 (by kernel_rfl) rfl #[.string (a0.extract (a1 : Int).toNat (x9_1 : Int).toNat)] rfl (by (try simp only [List.map_toArray, List.map_cons, List.map_nil]); first | done | rfl | (simp only [List.length_drop, List.length_take]; rfl)) ?_; (with_reducible refine (monikerref1_number.calls k1 (a0.extract (a1 : Int).toNat (x9_1 : Int).toNat) t406 t407 _ A8.out).mono ?_); rintro e w' ⟨rfl, ⟨nd, rfl⟩⟩; refine ⟨_, rfl, ?_⟩))
              (try simp only [Act.put, List.setIfInBounds_toArray, List.set_cons_zero, List.set_cons_succ])
              go_cut [37] (fun v37 wc => ∃ (kq : Nat) (x37_8 : Bool), v37 = .bool x37_8 ∧ Aside0 (monikerref1_take.j1 kq a0 a1 a2 x9_1 x37_8 = some (r1, r2, r3)) ∧ Aside0 (kq ≤ k1) ∧ Aside0 (Below w.heap.size w wc))
              case first =>
                have H := HC9.out
                clear HC9
                by_cases c10 : 0 ≤ x9_1
                · rw [if_pos c10] at H
                  have c10b0 : decide (0 ≤ x9_1) = true := decide_eq_true c10
                  clear c10
                  (first | rw [c10b0] | (simp only [i64_w, i32_w]; rw [c10b0]) | skip)
                  by_cases c11 : x9_1 < (a0.size : Int)
                  · rw [if_pos c11] at H
                    have c11b0 : decide (x9_1 < (a0.size : Int)) = true := decide_eq_true c11
                    clear c11
                    by_cases c13 : (bt a0 x9_1) = a2
                    · rw [if_pos c13] at H
                      have c13b0 : ((bt a0 x9_1) == a2) = true := beq_iff_eq.mpr c13
                      have c13b1 : ((bt a0 x9_1) != a2) = false := bne_eq_false_iff_eq.mpr c13
                      clear c13
                      have H' := Aside0.mk H
                      clear H
                      have p12 : 0 ≤ (x9_1 : Int) := of_decide_eq_true (by first | (with_reducible assumption) | assumption)
                      have q12 : x9_1 < (a0.size : Int) := of_decide_eq_true (by first | (with_reducible assumption) | assumption)
                      have hx12 := bt_at a0 x9_1
                      replace p12 := eq_true p12
                      replace q12 := eq_true q12
                      go_wp2
                      go_meet
                      case rel => exact ⟨_, (t406), (by first | rfl | (simp; done) | (simp [*]; done)), H', ⟨by have := HK1.out; first | omega | exact Nat.le_refl _⟩, ⟨by repeat (first | (with_reducible first | exact HB.out | apply below_alloc | apply pw_below_drewN | apply below_drew1) | exact HB.out)⟩⟩
                    · rw [if_neg c13] at H
                      have c13b0 : ((bt a0 x9_1) == a2) = false := beq_eq_false_iff_ne.mpr c13
                      have c13b1 : ((bt a0 x9_1) != a2) = true := bne_iff_ne.mpr c13
                      have H' := Aside0.mk H
                      clear H
                      have p12 : 0 ≤ (x9_1 : Int) := of_decide_eq_true (by first | (with_reducible assumption) | assumption)
                      have q12 : x9_1 < (a0.size : Int) := of_decide_eq_true (by first | (with_reducible assumption) | assumption)
                      have hx12 := bt_at a0 x9_1
                      replace p12 := eq_true p12
                      replace q12 := eq_true q12
                      go_wp2
                      go_meet
                      case rel => exact ⟨_, (false), (by first | rfl | (simp; done) | (simp [*]; done)), H', ⟨by have := HK1.out; first | omega | exact Nat.le_refl _⟩, ⟨by repeat (first | (with_reducible first | exact HB.out | apply below_alloc | apply pw_below_drewN | apply below_drew1) | exact HB.out)⟩⟩
                  · rw [if_neg c11] at H
                    exact absurd H (by simp)
                · rw [if_neg c10] at H
                  exact absurd H (by simp)
              case rest =>
                clear HC9
                try clear c1
                try clear p1
                try clear q1
                try clear hx1
                try clear p2
                try clear c4
                try clear c4b0
                try clear c4b1
                try clear c5
                try clear c5b0
                try clear c5b1
                try clear c6
                try clear c6b0
                try clear c6b1
                try clear c7
                try clear c7b0
                try clear c7b1
                try clear c10
                try clear c10b0
                try clear c11
                try clear c11b0
                try clear p12
                try clear q12
                try clear hx12
                try clear c13
                try clear c13b0
                try clear c13b1
                try clear p12
                try clear p2
                try clear q12
                obtain ⟨kq, x37_8, rfl, HA, HJ8, HB⟩ := hcut
                cases kq with
                | zero => exact absurd HA.out (by simp [monikerref1_take.j1])
                | succ kj8 =>
                  have H := HA.out
                  clear HA
                  simp only [monikerref1_take.j1] at H
                  by_cases c14 : x37_8 = true
                  · subst c14
                    have H1 : (if 0 ≤ a1 then (if a1 ≤ x9_1 then (if x9_1 ≤ (a0.size : Int) then ((strconv_Atoi_70.f kj8 (a0.extract (a1 : Int).toNat (x9_1 : Int).toNat)).bind fun bt408 => (some (bt408.1, wrap64 (x9_1 + 1), true))) else (none)) else (none)) else (none)) = some (r1, r2, r3) := by rw [if_pos rfl] at H; exact H
                    clear H
                    have H := H1
                    clear H1
                    by_cases c15 : 0 ≤ a1
                    · rw [if_pos c15] at H
                      have c15b0 := eq_true c15
                      have c15b1 : decide (0 ≤ a1) = true := decide_eq_true c15
                      clear c15
                      by_cases c16 : a1 ≤ x9_1
                      · rw [if_pos c16] at H
                        have c16b0 := eq_true c16
                        have c16b1 : decide (a1 ≤ x9_1) = true := decide_eq_true c16
                        clear c16
                        by_cases c17 : x9_1 ≤ (a0.size : Int)
                        · rw [if_pos c17] at H
                          have c17b0 := eq_true c17
                          have c17b1 : decide (x9_1 ≤ (a0.size : Int)) = true := decide_eq_true c17
                          clear c17
                          replace H := Option.bind_eq_some_iff.mp H
                          obtain ⟨⟨t408, t409⟩, A180, H⟩ := H
                          replace H : (some (t408, wrap64 (x9_1 + 1), true)) = some (r1, r2, r3) := H
                          have A18 := Aside0.mk A180
                          clear A180
                          simp only [Option.some.injEq, Prod.mk.injEq] at H
                          obtain ⟨rfl, rfl, rfl⟩ := H
                          go_wp2_with (first | ((with_reducible refine gate_callee (f := 70) rfl ?_); refine goesL_ (some 43) rfl rfl Tryd.func70 (by kernel_rfl) rfl #[.string (a0.extract (a1 : Int).toNat (x9_1 : Int).toNat)] rfl (by (try simp only [List.map_toArray, List.map_cons, List.map_nil]); first | done | rfl | (simp only [List.length_drop, List.length_take]; rfl)) ?_; (with_reducible refine (strconv_Atoi_70.calls kj8 (a0.extract (a1 : Int).toNat (x9_1 : Int).toNat) t408 t409 _ A18.out).mono ?_); rintro e w19 ⟨rfl, hb⟩; refine ⟨_, rfl, ?_⟩; have n0_ := Aside0.mk (below_step (by repeat (first | (with_reducible first | exact HB.out | apply below_alloc | apply pw_below_drewN | apply below_drew1) | exact HB.out)) hb); clear HB; have HB := n0_; clear n0_; (try clear hb); (try clear hb2); (try clear hk); (try clear hi); (try simp only [errW_none, errW_some])))
                          go_ret3
                          exact ⟨by first | rfl | (simp [errW_none, errW_some] <;> rfl) | (simp [*, errW_none, errW_some] <;> rfl), by repeat (first | (with_reducible first | exact HB.out | apply below_alloc | apply pw_below_drewN | apply below_drew1) | exact HB.out)⟩
                        · rw [if_neg c17] at H
                          exact absurd H (by simp)
                      · rw [if_neg c16] at H
                        exact absurd H (by simp)
                    · rw [if_neg c15] at H
                      exact absurd H (by simp)
                  · replace c14 := Bool.eq_false_iff.mpr c14
                    subst c14
                    have H1 : (if 0 ≤ a1 then (if a1 ≤ (wrap64 (x9_1 + 1)) then (if (wrap64 (x9_1 + 1)) ≤ (a0.size : Int) then ((monikerref1_number.f kj8 (a0.extract (a1 : Int).toNat ((wrap64 (x9_1 + 1)) : Int).toNat)).bind fun bt410 => (if bt410.2 = true then (monikerref1_take.l0 kj8 a0 a1 a2 (wrap64 (x9_1 + 1))) else (some (0, x9_1, false)))) else (none)) else (none)) else (none)) = some (r1, r2, r3) := by rw [if_neg (show ¬ (false = true) by decide)] at H; exact H
                    clear H
                    have H := H1
                    clear H1
                    by_cases c20 : 0 ≤ a1
                    · rw [if_pos c20] at H
                      have c20b0 := eq_true c20
                      have c20b1 : decide (0 ≤ a1) = true := decide_eq_true c20
                      clear c20
                      by_cases c21 : a1 ≤ (wrap64 (x9_1 + 1))
                      · rw [if_pos c21] at H
                        have c21b0 := eq_true c21
                        have c21b1 : decide (a1 ≤ (wrap64 (x9_1 + 1))) = true := decide_eq_true c21
                        by_cases c22 : (wrap64 (x9_1 + 1)) ≤ (a0.size : Int)
                        · rw [if_pos c22] at H
                          have c22b0 := eq_true c22
                          have c22b1 : decide ((wrap64 (x9_1 + 1)) ≤ (a0.size : Int)) = true := decide_eq_true c22
                          replace H := Option.bind_eq_some_iff.mp H
                          obtain ⟨⟨t410, t411⟩, A230, H⟩ := H
                          replace H : (if t411 = true then (monikerref1_take.l0 kj8 a0 a1 a2 (wrap64 (x9_1 + 1))) else (some (0, x9_1, false))) = some (r1, r2, r3) := H
                          have A23 := Aside0.mk A230
                          clear A230
                          by_cases c24 : t411 = true
                          · subst c24
                            have H1 : (monikerref1_take.l0 kj8 a0 a1 a2 (wrap64 (x9_1 + 1))) = some (r1, r2, r3) := by rw [if_pos rfl] at H; exact H
                            clear H
                            have H := H1
                            clear H1
                            have H' := Aside0.mk H
                            clear H
                            go_wp2_with (first | ((with_reducible refine gate_callee (f := 69) rfl ?_); refine goesL_ (some 55) rfl rfl Tryd.func69 (by kernel_rfl) rfl #[.string (a0.extract (a1 : Int).toNat ((wrap64 (x9_1 + 1)) : Int).toNat)] rfl (by (try simp only [List.map_toArray, List.map_cons, List.map_nil]); first | done | rfl | (simp only [List.length_drop, List.length_take]; rfl)) ?_; (with_reducible refine (monikerref1_number.calls kj8 (a0.extract (a1 : Int).toNat ((wrap64 (x9_1 + 1)) : Int).toNat) t410 true _ A23.out).mono ?_); rintro e w' ⟨rfl, ⟨nd, rfl⟩⟩; refine ⟨_, rfl, ?_⟩))
                            go_roundg kj8
                            case measure => have := HK1.out; have := HJ8.out; omega
                            case rel => exact ⟨(wrap64 (x9_1 + 1)), (by first | rfl | (simp; done) | (simp [*]; done)), H', ⟨by have := HK1.out; have := HJ8.out; omega⟩, ⟨by repeat (first | (with_reducible first | exact HB.out | apply below_alloc | apply pw_below_drewN | apply below_drew1) | exact HB.out)⟩⟩
                          · replace c24 := Bool.eq_false_iff.mpr c24
                            subst c24
                            have H1 : (some (0, x9_1, false)) = some (r1, r2, r3) := by rw [if_neg (show ¬ (false = true) by decide)] at H; exact H
                            clear H
                            have H := H1
                            clear H1
                            simp only [Option.some.injEq, Prod.mk.injEq] at H
                            obtain ⟨rfl, rfl, rfl⟩ := H
                            go_wp2_with (first | ((with_reducible refine gate_callee (f := 69) rfl ?_); refine goesL_ (some 55) rfl rfl Tryd.func69 (by kernel_rfl) rfl #[.string (a0.extract (a1 : Int).toNat ((wrap64 (x9_1 + 1)) : Int).toNat)] rfl (by (try simp only [List.map_toArray, List.map_cons, List.map_nil]); first | done | rfl | (simp only [List.length_drop, List.length_take]; rfl)) ?_; (with_reducible refine (monikerref1_number.calls kj8 (a0.extract (a1 : Int).toNat ((wrap64 (x9_1 + 1)) : Int).toNat) t410 false _ A23.out).mono ?_); rintro e w' ⟨rfl, ⟨nd, rfl⟩⟩; refine ⟨_, rfl, ?_⟩))
                            go_ret3
                            exact ⟨by first | rfl | (simp [errW_none, errW_some] <;> rfl) | (simp [*, errW_none, errW_some] <;> rfl), by repeat (first | (with_reducible first | exact HB.out | apply below_alloc | apply pw_below_drewN | apply below_drew1) | exact HB.out)⟩
                        · rw [if_neg c22] at H
                          exact absurd H (by simp)
                      · rw [if_neg c21] at H
                        exact absurd H (by simp)
                    · rw [if_neg c20] at H
                      exact absurd H (by simp)
            · rw [if_neg c7] at H
              exact absurd H (by simp)
          · rw [if_neg c6] at H
            exact absurd H (by simp)
        · rw [if_neg c5] at H
          exact absurd H (by simp)

end Go.Proofs.YtaihajmdngoeiaaDoor.F

namespace Go.Proofs.YtaihajmdngoeiaaDoor.Q
open Go.RowKit Go.Proofs.YtaihajmdngoeiaaDoorW.PrintWords Go.Proofs.YtaihajmdngoeiaaDoorW.PrintLast Go.Proofs.YtaihajmdngoeiaaDoorW.PrintMore
open Go.Proofs.YtaihajmdngoeiaaDoor.F
set_option linter.unusedVariables false
set_option linter.unusedSimpArgs false

/-- The place where a rest begins. -/
def plc (s : ByteArray) (r : List Int) : Int := (s.size : Int) - r.length
theorem dr_len (s : ByteArray) (i : Nat) : ((bytesOf s).drop i).length = s.size - i := by rw [List.length_drop, bytesOf_length]
theorem plc_dr (s : ByteArray) (i : Nat) (h : i ≤ s.size) : plc s ((bytesOf s).drop i) = i := by
  unfold plc
  rw [dr_len]
  omega
theorem atoi_itoa (n : Int) (h : isI64 n) (s : ByteArray) (hs : bytesOf s = itoaI n) : Lib.atoiAll s.data.toList = .ok n := by
  have he : s.data.toList = Lib.itoa n := by
    have h1 : s.toList = Lib.itoa n := (toList_eq_iff s _).2 hs
    rwa [Lib.toList_data] at h1
  rw [he]
  obtain ⟨h0, h1⟩ := h
  have hd : ∀ (u : Nat), u < 18446744073709551616 → Lib.parseUint10 0 (Lib.decDigits u) = .ok u := by
    have gen : ∀ (u : Nat) (r : List UInt8), u < 18446744073709551616 → Lib.parseUint10 0 (Lib.decDigits u ++ r) = Lib.parseUint10 u r := by
      intro u
      induction u using Nat.strongRecOn with
      | _ u ih =>
        intro r hu
        by_cases hs : u < 10
        · rw [Lib.decDigits, dif_pos hs]
          simp only [List.cons_append, List.nil_append, Lib.parseUint10]
          have e : (UInt8.ofNat (48 + u)).toNat = 48 + u := by rw [UInt8.toNat_ofNat']; omega
          rw [e, if_pos (by omega), if_neg (by omega), if_neg (by omega)]
          congr 1
          omega
        · rw [Lib.decDigits, dif_neg hs, List.append_assoc, ih (u / 10) (by omega) _ (by omega)]
          simp only [List.cons_append, List.nil_append, Lib.parseUint10]
          have e : (UInt8.ofNat (48 + u % 10)).toNat = 48 + u % 10 := by rw [UInt8.toNat_ofNat']; omega
          rw [e, if_pos (by omega), if_neg (by omega), if_neg (by omega)]
          congr 1
          omega
    intro u hu
    have := gen u [] hu
    rw [List.append_nil] at this
    rw [this]
    rfl
  have hne : ∀ u : Nat, Lib.decDigits u ≠ [] := by
    intro u e
    have := Lib.decDigits_length u
    rw [e] at this
    have := Lib.nDigits_pos u
    simp at *
    omega
  by_cases hn : n < 0
  · have ei : Lib.itoa n = 45 :: Lib.decDigits n.natAbs := by unfold Lib.itoa; rw [if_pos hn]
    rw [ei]
    unfold Lib.atoiAll
    simp only []
    rw [if_pos (Or.inr (by rfl))]
    unfold Lib.parseMag
    rw [if_neg (hne _), hd _ (by omega)]
    simp only []
    have e45 : (45 : UInt8).toNat = 45 := rfl
    rw [if_neg (by rw [e45]; simp), if_neg (by rw [e45]; omega), if_pos (by rw [e45])]
    congr 1
    omega
  · have ei : Lib.itoa n = Lib.decDigits n.toNat := by unfold Lib.itoa; rw [if_neg hn]
    rw [ei]
    have h48 : ∀ (u : Nat) (c : UInt8) (r : List UInt8), Lib.decDigits u = c :: r → 48 ≤ c.toNat := by
      intro u
      induction u using Nat.strongRecOn with
      | _ u ih =>
        intro c r h
        by_cases hs : u < 10
        · rw [Lib.decDigits, dif_pos hs] at h
          injection h with h _
          rw [← h, UInt8.toNat_ofNat']
          omega
        · rw [Lib.decDigits, dif_neg hs] at h
          cases hq : Lib.decDigits (u / 10) with
          | nil => exact absurd hq (hne _)
          | cons c' r' =>
            rw [hq, List.cons_append] at h
            injection h with h _
            rw [← h]
            exact ih (u / 10) (by omega) c' r' hq
    cases hq : Lib.decDigits n.toNat with
    | nil => exact absurd hq (hne _)
    | cons c r =>
      have hc := h48 _ _ _ hq
      unfold Lib.atoiAll
      simp only []
      rw [if_neg (by omega), ← hq]
      unfold Lib.parseMag
      rw [if_neg (hne _), hd _ (by omega)]
      simp only []
      rw [if_neg (by omega), if_neg (by omega), if_neg (by omega)]
      congr 1
      omega
theorem atoi_is (n : Int) (h : isI64 n) (s : ByteArray) (hs : bytesOf s = itoaI n) (hz : s.size ≤ 9223372036854775806) (k : Nat) : strconv_Atoi_70.f k s = some (n, none) := by
  unfold strconv_Atoi_70.f
  rw [if_pos hz, atoi_itoa n h s hs]
def resT (s : ByteArray) : Res Int → Int × Int × Bool
  | .ok v r => (v, plc s r, true)
  | .bad r => (0, plc s r, false)
/-- The reference's take: a number and a byte behind it. -/
theorem take_loop (s : ByteArray) (hs : s.size ≤ 140737488351232) (e : Int) (he : ¬(48 ≤ e ∧ e ≤ 57) ∧ e ≠ 45) (i : Nat) (d : Nat) : ∀ (j : Nat) (st : NS), i ≤ j → j ≤ s.size → s.size - j = d → NS.start.run (((bytesOf s).drop i).take (j - i)) = some st →
    Ev (fun k => monikerref1_take.l0 k s (i : Int) e (j : Int)) (resT s (takeL e st ((bytesOf s).drop j))) := by
  have hnum : ∀ j : Nat, i ≤ j → j ≤ s.size → bytesOf (s.extract i j) = ((bytesOf s).drop i).take (j - i) := fun j h1 h2 => ex_bytes s i j
  have hsz : ∀ j : Nat, j ≤ s.size → (s.extract i j).size ≤ 140737488351232 := fun j h => by rw [ByteArray.size_extract]; omega
  induction d with
  | zero =>
    intro j st h1 h2 h3 hr
    have hj : j = s.size := by omega
    refine ⟨1, fun n hn => ?_⟩
    obtain ⟨k, rfl⟩ : ∃ m, n = m + 1 := ⟨n - 1, by omega⟩
    simp only [monikerref1_take.l0]
    rw [if_pos (by omega), List.drop_eq_nil_of_le (by rw [bytesOf_length]; omega)]
    simp [takeL, resT, plc, hj]
  | succ d ih =>
    intro j st h1 h2 h3 hr
    have hj : j < s.size := by omega
    have hw : wrap64 ((j : Int) + 1) = ((j + 1 : Nat) : Int) := by rw [w64] <;> omega
    rw [dr_cons s j hj]
    obtain ⟨K1, hK1⟩ := numR_is (s.extract i j) (by have := hsz j h2; omega)
    rw [hnum j h1 h2, hr] at hK1
    have hnext : NS.start.run (((bytesOf s).drop i).take (j + 1 - i)) = st.step (bt s (j : Int)) := by
      have e1 : ((bytesOf s).drop i).take (j + 1 - i) = ((bytesOf s).drop i).take (j - i) ++ [bt s (j : Int)] := by
        rw [show j + 1 - i = (j - i) + 1 by omega, List.take_add_one, List.getElem?_drop, show i + (j - i) = j by omega, List.getElem?_eq_getElem (by rw [bytesOf_length]; exact hj), ← bt_get s j hj]
        rfl
      rw [e1, run_snoc, hr]
      rfl
    obtain ⟨K2, hK2⟩ := numR_is (s.extract i (j + 1)) (by have := hsz (j + 1) (by omega); omega)
    rw [hnum (j + 1) (by omega) (by omega), hnext] at hK2
    have plcj : plc s (bt s (j : Int) :: (bytesOf s).drop (j + 1)) = j := by rw [← dr_cons s j hj]; exact plc_dr s j h2
    simp only [takeL]
    by_cases hc : st.isNum = true ∧ bt s (j : Int) = e
    · -- done
      rw [if_pos hc]
      have hst : ∃ neg m, st = .num neg m := by cases st with | num a b => exact ⟨a, b, rfl⟩ | start => simp [NS.isNum] at hc | minus => simp [NS.isNum] at hc
      obtain ⟨neg, m, rfl⟩ := hst
      obtain ⟨q1, _, _, _⟩ := run_num hr
      refine ⟨max K1 1 + 3, fun n hn => ?_⟩
      obtain ⟨k, rfl⟩ : ∃ m, n = m + 2 := ⟨n - 2, by omega⟩
      simp only [monikerref1_take.l0]
      have g := hK1 (k + 1) (by omega)
      simp only at g
      rw [if_neg (by omega), if_pos (by omega), if_pos (by omega), if_pos (by omega)]
      simp only [Int.toNat_natCast]
      rw [g]
      simp only [Option.bind_some, nsay]
      rw [if_pos (by omega), if_pos (by omega), if_pos hc.2]
      simp only [monikerref1_take.j1, NS.isNum, if_true]
      rw [if_pos (by omega), if_pos (by omega), if_pos (by omega)]
      simp only [Int.toNat_natCast]
      rw [atoi_is (sgn neg m) (num_i64 hr) (s.extract i j) (by rw [hnum j h1 h2]; exact q1) (by have := hsz j h2; omega)]
      simp only [Option.bind_some, resT, NS.val]
      rw [hw, plc_dr s (j + 1) (by omega)]
    · rw [if_neg hc]
      have hj1 : ∀ k, K1 ≤ k + 1 → monikerref1_take.l0 (k + 2) s (i : Int) e (j : Int) = monikerref1_take.j1 (k + 1) s (i : Int) e (j : Int) false := by
        intro k hk
        simp only [monikerref1_take.l0]
        have g := hK1 (k + 1) (by omega)
        simp only at g
        rw [if_neg (by omega), if_pos (by omega), if_pos (by omega), if_pos (by omega)]
        simp only [Int.toNat_natCast]
        rw [g]
        simp only [Option.bind_some, nsay]
        rw [if_pos (by omega), if_pos (by omega)]
        by_cases hb : bt s (j : Int) = e
        · rw [if_pos hb]
          have : st.isNum = false := by cases h : st.isNum with | false => rfl | true => exact absurd ⟨h, hb⟩ hc
          rw [this]
        · rw [if_neg hb]
      cases hst : st.step (bt s (j : Int)) with
      | none =>
        rw [hst] at hK2
        simp only []
        refine ⟨max K1 K2 + 3, fun n hn => ?_⟩
        obtain ⟨k, rfl⟩ : ∃ m, n = m + 2 := ⟨n - 2, by omega⟩
        refine (hj1 k (by omega)).trans ?_
        simp only [monikerref1_take.j1]
        have g := hK2 k (by omega)
        simp only at g
        rw [if_neg (by simp), if_pos (by omega), hw, if_pos (by omega), if_pos (by omega)]
        simp only [Int.toNat_natCast]
        rw [g]
        simp only [Option.bind_some, nsay, resT]
        rw [if_neg (by simp), plcj]
      | some t =>
        rw [hst] at hK2
        simp only []
        obtain ⟨K3, hK3⟩ := ih (j + 1) t (by omega) (by omega) (by omega) (by rw [hnext, hst])
        refine ⟨max K1 (max K2 K3) + 3, fun n hn => ?_⟩
        obtain ⟨k, rfl⟩ : ∃ m, n = m + 2 := ⟨n - 2, by omega⟩
        refine (hj1 k (by omega)).trans ?_
        simp only [monikerref1_take.j1]
        have g := hK2 k (by omega)
        have g3 := hK3 k (by omega)
        simp only at g g3
        rw [if_neg (by simp), if_pos (by omega), hw, if_pos (by omega), if_pos (by omega)]
        simp only [Int.toNat_natCast]
        rw [g]
        simp only [Option.bind_some, nsay]
        rw [if_pos trivial]
        exact g3
theorem take_is_ref (s : ByteArray) (hs : s.size ≤ 140737488351232) (e : Int) (he : ¬(48 ≤ e ∧ e ≤ 57) ∧ e ≠ 45) (i : Nat) (h : i ≤ s.size) : Ev (fun k => monikerref1_take.f k s (i : Int) e) (resT s (takeL e .start ((bytesOf s).drop i))) := by
  unfold monikerref1_take.f
  exact take_loop s hs e he i _ i .start (Nat.le_refl _) h rfl (by simp [NS.run])
end Go.Proofs.YtaihajmdngoeiaaDoor.Q

namespace Go.Proofs.YtaihajmdngoeiaaDoor.Q
set_option linter.unusedVariables false
set_option linter.unusedSimpArgs false

inductive PR where
  | ok (l : List (Int × Int × List Int))
  | many (r : List Int)
  | bad (r : List Int)
def PR.cons (e : Int × Int × List Int) : PR → PR
  | .ok l => .ok (e :: l)
  | .many r => .many r
  | .bad r => .bad r
/-- The lines of a text, at most m of them. -/
def parseL : Nat → Nat → List Int → PR
  | 0, _, _ => .bad []
  | k + 1, m, l => if l = [] then .ok [] else if m = 0 then .many l else match lineL l with | .bad r => .bad r | .ok e r => (parseL k (m - 1) r).cons e
def lineE (e : Int × Int × List Int) : List Int := lineP e.1 e.2.1 e.2.2
def linesP (es : List (Int × Int × List Int)) : List Int := es.flatMap lineE
def i64E (e : Int × Int × List Int) : Prop := isI64 e.1 ∧ isI64 e.2.1
theorem linesP_cons (e : Int × Int × List Int) (es : List (Int × Int × List Int)) : linesP (e :: es) = lineE e ++ linesP es := by simp [linesP]
theorem lineE_pos (e : Int × Int × List Int) : 0 < (lineE e).length := by
  unfold lineE lineP
  simp only [List.length_append, List.length_cons]
  omega
theorem parse_read : ∀ (k m : Nat) (l : List Int) (es : List (Int × Int × List Int)), parseL k m l = .ok es → l = linesP es ∧ (∀ e ∈ es, i64E e) ∧ es.length ≤ m
  | 0, m, l, es, h => by simp [parseL] at h
  | k + 1, m, l, es, h => by
    simp only [parseL] at h
    split at h
    · next hl =>
      injection h with h
      subst h
      exact ⟨by rw [hl]; rfl, by simp, by simp⟩
    · next hl =>
      split at h
      · cases h
      · next hm =>
        cases h1 : lineL l with
        | bad r => rw [h1] at h; cases h
        | ok e r =>
          rw [h1] at h
          simp only [] at h
          cases h2 : parseL k (m - 1) r with
          | many x => rw [h2] at h; cases h
          | bad x => rw [h2] at h; cases h
          | ok fs =>
            rw [h2] at h
            simp only [PR.cons] at h
            injection h with h
            subst h
            obtain ⟨i1, i2, i3⟩ := parse_read k (m - 1) r fs h2
            obtain ⟨a, b, t⟩ := e
            obtain ⟨j1, j2, j3⟩ := line_read l a b t r h1
            refine ⟨by rw [linesP_cons, j1, i1]; rfl, fun x hx => ?_, by simp only [List.length_cons]; omega⟩
            rcases List.mem_cons.1 hx with rfl | hx
            · exact ⟨j2, j3⟩
            · exact i2 x hx
/-- A reader leaves no more than there was. -/
def Short {α : Type} (P : List Int → Res α) : Prop := ∀ l, (∀ v r, P l = .ok v r → r.length ≤ l.length) ∧ ∀ r, P l = .bad r → r.length ≤ l.length
theorem Short.then {α β : Type} {P : List Int → Res α} {Q : α → List Int → Res β} (hP : Short P) (hQ : ∀ v, Short (Q v)) : Short fun l => (P l).then Q := by
  intro l
  obtain ⟨h1, h2⟩ := hP l
  cases hp : P l with
  | bad x =>
    refine ⟨fun v r h => ?_, fun r h => ?_⟩
    · simp only [hp, Res.then] at h; cases h
    · simp only [hp, Res.then] at h
      injection h with h
      subst h
      exact h2 _ hp
  | ok u x =>
    obtain ⟨h3, h4⟩ := hQ u x
    have := h1 u x hp
    refine ⟨fun v r h => ?_, fun r h => ?_⟩
    · simp only [hp, Res.then] at h
      have := h3 v r h
      omega
    · simp only [hp, Res.then] at h
      have := h4 r h
      omega
theorem takeL_short (e : Int) : ∀ (s : NS), Short (takeL e s) := by
  have : ∀ (l : List Int) (s : NS), (∀ v r, takeL e s l = .ok v r → r.length ≤ l.length) ∧ ∀ r, takeL e s l = .bad r → r.length ≤ l.length := by
    intro l
    induction l with
    | nil => intro s; exact ⟨fun v r h => by simp [takeL] at h, fun r h => by simp [takeL] at h; simp [h]⟩
    | cons c l ih =>
      intro s
      refine ⟨fun v r h => ?_, fun r h => ?_⟩
      · simp only [takeL] at h
        split at h
        · injection h with _ h; subst h; simp
        · cases hs : s.step c with
          | none => rw [hs] at h; cases h
          | some t => rw [hs] at h; have := (ih t).1 v r h; simp; omega
      · simp only [takeL] at h
        split at h
        · cases h
        · cases hs : s.step c with
          | none => rw [hs] at h; injection h with h; subst h; simp
          | some t => rw [hs] at h; have := (ih t).2 r h; simp; omega
  exact fun s l => this l s
end Go.Proofs.YtaihajmdngoeiaaDoor.Q

-- A text of this session's own program (wip/myprint.sh over a changed print tool): functions and their walks
namespace Go.Proofs.YtaihajmdngoeiaaDoor.F
open Go.RowKit Go.Proofs.YtaihajmdngoeiaaDoorW.PrintWords Go.Proofs.YtaihajmdngoeiaaDoorW.PrintLast Go.Proofs.YtaihajmdngoeiaaDoorW.PrintMore
attribute [local go_sem] max2_int min2_int max_two min_two max_three min_three max_four min_four   -- for this text's walks alone
set_option linter.unusedVariables false
set_option linter.unusedSimpArgs false

/-- A state of type 65 at block g of W; what its slices lead to came in by w0. -/
def IsS65 (w0 W : World) (g : Nat) (f0 : ByteArray) (f1 : Int) (f2 : Bool) : Prop := W.heap[g]? = some (.cells #[.string f0, .int .i64 f1, .bool f2] 65 (0, 0)) ∧ w0.heap.size ≤ g
theorem IsS65.grown {w0 W : World} {g : Nat} {f0 : ByteArray} {f1 : Int} {f2 : Bool} {W1 : World} {row : Option Nat} (h : IsS65 w0 W g f0 f1 f2) (hw : W.grownBy W1 row) (hne : some g ≠ row) : IsS65 w0 W1 g f0 f1 f2 := by
  obtain ⟨hb, hg⟩ := h
  exact ⟨blk_grown hb hw hne, hg⟩
theorem IsS65.below {w0 W : World} {g : Nat} {f0 : ByteArray} {f1 : Int} {f2 : Bool} {W1 : World} (h : IsS65 w0 W g f0 f1 f2) (hw : Below W.heap.size W W1) : IsS65 w0 W1 g f0 f1 f2 := h.grown (grown_of_below hw none) (by simp)
theorem IsS65.alloc {w0 W : World} {g : Nat} {f0 : ByteArray} {f1 : Int} {f2 : Bool} (h : IsS65 w0 W g f0 f1 f2) (o : Obj) : IsS65 w0 (W.alloc o) g f0 f1 f2 := h.below (below_alloc (Below.refl _ _) o)
theorem IsS65.drewN {w0 W : World} {g : Nat} {f0 : ByteArray} {f1 : Int} {f2 : Bool} (h : IsS65 w0 W g f0 f1 f2) (m : Nat) : IsS65 w0 (W.drewN m) g f0 f1 f2 := h
theorem IsS65.drew {w0 W : World} {g : Nat} {f0 : ByteArray} {f1 : Int} {f2 : Bool} (h : IsS65 w0 W g f0 f1 f2) : IsS65 w0 W.drew g f0 f1 f2 := h
theorem IsS65.apart {w0 W : World} {g : Nat} {f0 : ByteArray} {f1 : Int} {f2 : Bool} {α : Type} {d : Kd α} {e : Nat} {base : Nat} {ok : Nat → Prop} {v : Value} {xs : List α} (h : IsS65 w0 W g f0 f1 f2) (ho : d.R e W base ok v xs) (ht : ∀ q, q ∈ e :: d.E → q ≠ 65) : d.R e W base (fun k => ok k ∧ k ≠ g) v xs := by
  obtain ⟨hb, hg⟩ := h
  exact Kd.R_types ho hb ht
theorem IsS65.own_ne {w0 W : World} {g : Nat} {f0 : ByteArray} {f1 : Int} {f2 : Bool} {α : Type} {d : Kd α} {e : Nat} {base : Nat} {ok : Nat → Prop} {v : Value} {xs : List α} (h : IsS65 w0 W g f0 f1 f2) (ho : d.R e W base ok v xs) (ht : e ≠ 65) : some g ≠ v.ownBlock := by
  obtain ⟨hb, hg⟩ := h
  exact Kd.R_ne ho hb ht
theorem IsS65.lt {w0 W : World} {g : Nat} {f0 : ByteArray} {f1 : Int} {f2 : Bool} (h : IsS65 w0 W g f0 f1 f2) : g < W.heap.size := by
  obtain ⟨hb, hg⟩ := h
  exact blk_lt hb
theorem IsS65.ge {w0 W : World} {g : Nat} {f0 : ByteArray} {f1 : Int} {f2 : Bool} (h : IsS65 w0 W g f0 f1 f2) : w0.heap.size ≤ g := by
  obtain ⟨hb, hg⟩ := h
  exact hg
theorem IsS65.far {w0 W : World} {g : Nat} {f0 : ByteArray} {f1 : Int} {f2 : Bool} {p : Addr} (h : IsS65 w0 W g f0 f1 f2) (hne : g ≠ p.block) (u : Value) : IsS65 w0 (W.setCell p u) g f0 f1 f2 := by
  obtain ⟨hb, hg⟩ := h
  exact ⟨blk_far hb hne u, hg⟩
theorem cellS65_0 {W : World} {g : Nat} {f0 : ByteArray} {f1 : Int} {f2 : Bool} (h : W.heap[g]? = some (.cells #[.string f0, .int .i64 f1, .bool f2] 65 (0, 0))) : W.cell? ⟨g, 0, none⟩ = some (.string f0) := (blk_cell h 0).trans rfl
theorem IsS65.set_0 {w0 W : World} {g : Nat} {f0 : ByteArray} {f1 : Int} {f2 : Bool} (h : IsS65 w0 W g f0 f1 f2) (x : ByteArray) : IsS65 w0 (W.setCell ⟨g, 0, none⟩ (.string x)) g x f1 f2 := by
  obtain ⟨hb, hg⟩ := h
  exact ⟨by simpa using blk_set hb 0 (.string x), hg⟩
theorem cellS65_1 {W : World} {g : Nat} {f0 : ByteArray} {f1 : Int} {f2 : Bool} (h : W.heap[g]? = some (.cells #[.string f0, .int .i64 f1, .bool f2] 65 (0, 0))) : W.cell? ⟨g, 1, none⟩ = some (.int .i64 f1) := (blk_cell h 1).trans rfl
theorem IsS65.set_1 {w0 W : World} {g : Nat} {f0 : ByteArray} {f1 : Int} {f2 : Bool} (h : IsS65 w0 W g f0 f1 f2) (x : Int) : IsS65 w0 (W.setCell ⟨g, 1, none⟩ (.int .i64 x)) g f0 x f2 := by
  obtain ⟨hb, hg⟩ := h
  exact ⟨by simpa using blk_set hb 1 (.int .i64 x), hg⟩
theorem cellS65_2 {W : World} {g : Nat} {f0 : ByteArray} {f1 : Int} {f2 : Bool} (h : W.heap[g]? = some (.cells #[.string f0, .int .i64 f1, .bool f2] 65 (0, 0))) : W.cell? ⟨g, 2, none⟩ = some (.bool f2) := (blk_cell h 2).trans rfl
theorem IsS65.set_2 {w0 W : World} {g : Nat} {f0 : ByteArray} {f1 : Int} {f2 : Bool} (h : IsS65 w0 W g f0 f1 f2) (x : Bool) : IsS65 w0 (W.setCell ⟨g, 2, none⟩ (.bool x)) g f0 f1 x := by
  obtain ⟨hb, hg⟩ := h
  exact ⟨by simpa using blk_set hb 2 (.bool x), hg⟩
/-! ### edits_scanner_byte: function 32 -/
def edits_scanner_byte.f (s0_0 : ByteArray) (s0_1 : Int) (s0_2 : Bool) (a1 : Int) : Option (ByteArray × Int × Bool) := if s0_2 = true then (some (s0_0, s0_1, true)) else (if s0_1 = (s0_0.size : Int) then (some (s0_0, s0_1, true)) else (if 0 ≤ s0_1 then (if s0_1 < (s0_0.size : Int) then (if (bt s0_0 s0_1) = a1 then (some (s0_0, wrap64 (s0_1 + 1), s0_2)) else (some (s0_0, s0_1, true))) else (none)) else (none)))
set_option maxHeartbeats 8000000 in
set_option maxRecDepth 100000 in
theorem edits_scanner_byte.calls (g : Nat) (s0_0 : ByteArray) (s0_1 : Int) (s0_2 : Bool) (a1 : Int) (r1 : ByteArray) (r2 : Int) (r3 : Bool) (w0 w : World) (hI : IsS65 w0 w g s0_0 s0_1 s0_2) (hB : Below w0.heap.size w0 w) (h : edits_scanner_byte.f s0_0 s0_1 s0_2 a1 = some (r1, r2, r3)) :
    Calls Tryd.prog 32 #[.pointer (some ⟨g, 0, none⟩), .int .u8 a1] w fun e w' => e = .returned (.tuple #[]) ∧ IsS65 w0 w' g r1 r2 r3 ∧ Below w0.heap.size w0 w' ∧ KeepBut w w' g none := by
  have HI0 := Aside0.mk hI
  have HK := Aside0.mk (KeepBut.refl w g none)
  have HL := Aside0.mk hB.size
  clear hI
  have HW0 := Aside0.mk hB.size
  have HB := Aside0.mk hB
  clear hB
  have H : (if s0_2 = true then (some (s0_0, s0_1, true)) else (if s0_1 = (s0_0.size : Int) then (some (s0_0, s0_1, true)) else (if 0 ≤ s0_1 then (if s0_1 < (s0_0.size : Int) then (if (bt s0_0 s0_1) = a1 then (some (s0_0, wrap64 (s0_1 + 1), s0_2)) else (some (s0_0, s0_1, true))) else (none)) else (none)))) = some (r1, r2, r3) := h
  clear h
  by_cases c3 : s0_2 = true
  · subst c3
    have H1 : (some (s0_0, s0_1, true)) = some (r1, r2, r3) := by rw [if_pos rfl] at H; exact H
    clear H
    have H := H1
    clear H1
    simp only [Option.some.injEq, Prod.mk.injEq] at H
    obtain ⟨rfl, rfl, rfl⟩ := H
    obtain ⟨HGz4, hgz4⟩ := HI0.out
    have hcz4_0 := cellS65_0 HGz4
    have hcz4_1 := cellS65_1 HGz4
    have hcz4_2 := cellS65_2 HGz4
    have hfz4_0 := blk_frozen HGz4 0
    have hfz4_1 := blk_frozen HGz4 1
    have hfz4_2 := blk_frozen HGz4 2
    clear HGz4 hgz4
    go_enter Tryd.func32, Tryd.ntmps32
    go_wp2
    repeat (go_quiet (fail); try go_wp2)
    first | go_end0 | ((try simp only [Exit.inBlock, Exit.then]); refine bodyPost_ret (results_none rfl _ _ _) rfl ?_)
    exact ⟨by first | rfl | (simp [errW_none, errW_some] <;> rfl) | (simp [*, errW_none, errW_some] <;> rfl), by repeat (first | (with_reducible first | exact HI0.out | apply IsS65.alloc | apply IsS65.drewN | apply IsS65.drew | apply IsS65.set_0 | apply IsS65.set_1 | apply IsS65.set_2) | exact HI0.out), by repeat (first | (with_reducible first | exact HB.out | apply below_alloc | apply pw_below_drewN | apply below_drew1 | refine below_set ?_ (IsS65.ge HI0.out)) | exact HB.out), by repeat (first | (with_reducible first | exact HK.out | apply KeepBut.set_ | apply keep_drewN | apply keep_drew | apply keep_alloc) | exact HK.out)⟩
  · replace c3 := Bool.eq_false_iff.mpr c3
    subst c3
    have H1 : (if s0_1 = (s0_0.size : Int) then (some (s0_0, s0_1, true)) else (if 0 ≤ s0_1 then (if s0_1 < (s0_0.size : Int) then (if (bt s0_0 s0_1) = a1 then (some (s0_0, wrap64 (s0_1 + 1), false)) else (some (s0_0, s0_1, true))) else (none)) else (none))) = some (r1, r2, r3) := by rw [if_neg (show ¬ (false = true) by decide)] at H; exact H
    clear H
    have H := H1
    clear H1
    by_cases c5 : s0_1 = (s0_0.size : Int)
    · rw [if_pos c5] at H
      have c5b0 : (s0_1 == (s0_0.size : Int)) = true := beq_iff_eq.mpr c5
      have c5b1 : (s0_1 != (s0_0.size : Int)) = false := bne_eq_false_iff_eq.mpr c5
      clear c5
      simp only [Option.some.injEq, Prod.mk.injEq] at H
      obtain ⟨rfl, rfl, rfl⟩ := H
      obtain ⟨HGz6, hgz6⟩ := HI0.out
      have hcz6_0 := cellS65_0 HGz6
      have hcz6_1 := cellS65_1 HGz6
      have hcz6_2 := cellS65_2 HGz6
      have hfz6_0 := blk_frozen HGz6 0
      have hfz6_1 := blk_frozen HGz6 1
      have hfz6_2 := blk_frozen HGz6 2
      clear HGz6 hgz6
      go_enter Tryd.func32, Tryd.ntmps32
      go_wp2
      repeat (go_quiet (fail); try go_wp2)
      first | go_end0 | ((try simp only [Exit.inBlock, Exit.then]); refine bodyPost_ret (results_none rfl _ _ _) rfl ?_)
      exact ⟨by first | rfl | (simp [errW_none, errW_some] <;> rfl) | (simp [*, errW_none, errW_some] <;> rfl), by repeat (first | (with_reducible first | exact HI0.out | apply IsS65.alloc | apply IsS65.drewN | apply IsS65.drew | apply IsS65.set_0 | apply IsS65.set_1 | apply IsS65.set_2) | exact HI0.out), by repeat (first | (with_reducible first | exact HB.out | apply below_alloc | apply pw_below_drewN | apply below_drew1 | refine below_set ?_ (IsS65.ge HI0.out)) | exact HB.out), by repeat (first | (with_reducible first | exact HK.out | apply KeepBut.set_ | apply keep_drewN | apply keep_drew | apply keep_alloc) | exact HK.out)⟩
    · rw [if_neg c5] at H
      have c5b0 : (s0_1 == (s0_0.size : Int)) = false := beq_eq_false_iff_ne.mpr c5
      have c5b1 : (s0_1 != (s0_0.size : Int)) = true := bne_iff_ne.mpr c5
      by_cases c7 : 0 ≤ s0_1
      · rw [if_pos c7] at H
        have c7b0 : decide (0 ≤ s0_1) = true := decide_eq_true c7
        clear c7
        by_cases c8 : s0_1 < (s0_0.size : Int)
        · rw [if_pos c8] at H
          have c8b0 : decide (s0_1 < (s0_0.size : Int)) = true := decide_eq_true c8
          clear c8
          by_cases c10 : (bt s0_0 s0_1) = a1
          · rw [if_pos c10] at H
            have c10b0 : ((bt s0_0 s0_1) == a1) = true := beq_iff_eq.mpr c10
            have c10b1 : ((bt s0_0 s0_1) != a1) = false := bne_eq_false_iff_eq.mpr c10
            clear c10
            simp only [Option.some.injEq, Prod.mk.injEq] at H
            obtain ⟨rfl, rfl, rfl⟩ := H
            obtain ⟨HGz11, hgz11⟩ := HI0.out
            have hcz11_0 := cellS65_0 HGz11
            have hcz11_1 := cellS65_1 HGz11
            have hcz11_2 := cellS65_2 HGz11
            have hfz11_0 := blk_frozen HGz11 0
            have hfz11_1 := blk_frozen HGz11 1
            have hfz11_2 := blk_frozen HGz11 2
            clear HGz11 hgz11
            have p9 : 0 ≤ (s0_1 : Int) := of_decide_eq_true (by first | (with_reducible assumption) | assumption)
            have q9 : s0_1 < (s0_0.size : Int) := of_decide_eq_true (by first | (with_reducible assumption) | assumption)
            have hx9 := bt_at s0_0 s0_1
            replace p9 := eq_true p9
            replace q9 := eq_true q9
            go_enter Tryd.func32, Tryd.ntmps32
            go_wp2
            repeat (go_quiet (fail); try go_wp2)
            first | go_end0 | ((try simp only [Exit.inBlock, Exit.then]); refine bodyPost_ret (results_none rfl _ _ _) rfl ?_)
            exact ⟨by first | rfl | (simp [errW_none, errW_some] <;> rfl) | (simp [*, errW_none, errW_some] <;> rfl), by repeat (first | (with_reducible first | exact HI0.out | apply IsS65.alloc | apply IsS65.drewN | apply IsS65.drew | apply IsS65.set_0 | apply IsS65.set_1 | apply IsS65.set_2) | exact HI0.out), by repeat (first | (with_reducible first | exact HB.out | apply below_alloc | apply pw_below_drewN | apply below_drew1 | refine below_set ?_ (IsS65.ge HI0.out)) | exact HB.out), by repeat (first | (with_reducible first | exact HK.out | apply KeepBut.set_ | apply keep_drewN | apply keep_drew | apply keep_alloc) | exact HK.out)⟩
          · rw [if_neg c10] at H
            have c10b0 : ((bt s0_0 s0_1) == a1) = false := beq_eq_false_iff_ne.mpr c10
            have c10b1 : ((bt s0_0 s0_1) != a1) = true := bne_iff_ne.mpr c10
            simp only [Option.some.injEq, Prod.mk.injEq] at H
            obtain ⟨rfl, rfl, rfl⟩ := H
            obtain ⟨HGz12, hgz12⟩ := HI0.out
            have hcz12_0 := cellS65_0 HGz12
            have hcz12_1 := cellS65_1 HGz12
            have hcz12_2 := cellS65_2 HGz12
            have hfz12_0 := blk_frozen HGz12 0
            have hfz12_1 := blk_frozen HGz12 1
            have hfz12_2 := blk_frozen HGz12 2
            clear HGz12 hgz12
            have p9 : 0 ≤ (s0_1 : Int) := of_decide_eq_true (by first | (with_reducible assumption) | assumption)
            have q9 : s0_1 < (s0_0.size : Int) := of_decide_eq_true (by first | (with_reducible assumption) | assumption)
            have hx9 := bt_at s0_0 s0_1
            replace p9 := eq_true p9
            replace q9 := eq_true q9
            go_enter Tryd.func32, Tryd.ntmps32
            go_wp2
            repeat (go_quiet (fail); try go_wp2)
            first | go_end0 | ((try simp only [Exit.inBlock, Exit.then]); refine bodyPost_ret (results_none rfl _ _ _) rfl ?_)
            exact ⟨by first | rfl | (simp [errW_none, errW_some] <;> rfl) | (simp [*, errW_none, errW_some] <;> rfl), by repeat (first | (with_reducible first | exact HI0.out | apply IsS65.alloc | apply IsS65.drewN | apply IsS65.drew | apply IsS65.set_0 | apply IsS65.set_1 | apply IsS65.set_2) | exact HI0.out), by repeat (first | (with_reducible first | exact HB.out | apply below_alloc | apply pw_below_drewN | apply below_drew1 | refine below_set ?_ (IsS65.ge HI0.out)) | exact HB.out), by repeat (first | (with_reducible first | exact HK.out | apply KeepBut.set_ | apply keep_drewN | apply keep_drew | apply keep_alloc) | exact HK.out)⟩
        · rw [if_neg c8] at H
          exact absurd H (by simp)
      · rw [if_neg c7] at H
        exact absurd H (by simp)

end Go.Proofs.YtaihajmdngoeiaaDoor.F

-- A text of this session's own program (wip/myprint.sh over a changed print tool): functions and their walks
namespace Go.Proofs.YtaihajmdngoeiaaDoor.F
open Go.RowKit Go.Proofs.YtaihajmdngoeiaaDoorW.PrintWords Go.Proofs.YtaihajmdngoeiaaDoorW.PrintLast Go.Proofs.YtaihajmdngoeiaaDoorW.PrintMore
attribute [local go_sem] max2_int min2_int max_two min_two max_three min_three max_four min_four   -- for this text's walks alone
set_option linter.unusedVariables false
set_option linter.unusedSimpArgs false

theorem bt256 (s : ByteArray) (i : Int) : 0 ≤ (bt s i - 48) % 256 ∧ (bt s i - 48) % 256 < 256 := ⟨Int.emod_nonneg _ (by omega), Int.emod_lt_of_pos _ (by omega)⟩
theorem tdiv_lo {d : Int} (h : 0 ≤ d ∧ d < 256) : wrap64 (Int.tdiv (wrap64 ((-9223372036854775808) + d)) 10) = Int.tdiv (-9223372036854775808 + d) 10 := by
  have h1 : wrap64 ((-9223372036854775808) + d) = -9223372036854775808 + d := by unfold wrap64; omega
  rw [h1, Int.tdiv_eq_ediv, show Int.sign 10 = 1 from rfl]
  unfold wrap64
  split <;> omega
theorem tdiv_hi {d : Int} (h : 0 ≤ d ∧ d < 256) : wrap64 (Int.tdiv (wrap64 (9223372036854775807 - d)) 10) = (9223372036854775807 - d) / 10 := by
  have h1 : wrap64 (9223372036854775807 - d) = 9223372036854775807 - d := by unfold wrap64; omega
  rw [h1, Int.tdiv_eq_ediv, if_pos (Or.inl (by omega))]
  unfold wrap64
  omega
/-! ### edits_scanner_number: function 30 -/
mutual
def edits_scanner_number.j0 : Nat → Int → Int → Bool → ByteArray → Int → Bool → Option (Int × ByteArray × Int × Bool)
  | 0, _, _, _, _, _, _ => none
  | k + 1, x1, x5, x6, x1000, x1001, x1002 => if x6 = true then (edits_scanner_number.j1 k x1 x5 x6 x1000 (wrap64 (x1001 + 1)) x1002) else (edits_scanner_number.j1 k x1 x5 x6 x1000 x1001 x1002)
def edits_scanner_number.j1 : Nat → Int → Int → Bool → ByteArray → Int → Bool → Option (Int × ByteArray × Int × Bool)
  | 0, _, _, _, _, _, _ => none
  | k + 1, x1, x5, x6, x1000, x1001, x1002 => edits_scanner_number.l0 k x1 x5 x6 0 x1000 x1001 x1002
def edits_scanner_number.l0 : Nat → Int → Int → Bool → Int → ByteArray → Int → Bool → Option (Int × ByteArray × Int × Bool)
  | 0, _, _, _, _, _, _, _ => none
  | k + 1, x1, x5, x6, x7, x1000, x1001, x1002 => if x1002 = true then (edits_scanner_number.j3 k x1 x5 x6 x7 false x1000 x1001 x1002) else (edits_scanner_number.j3 k x1 x5 x6 x7 (decide (x1001 < (x1000.size : Int))) x1000 x1001 x1002)
def edits_scanner_number.j3 : Nat → Int → Int → Bool → Int → Bool → ByteArray → Int → Bool → Option (Int × ByteArray × Int × Bool)
  | 0, _, _, _, _, _, _, _, _ => none
  | k + 1, x1, x5, x6, x7, x63, x1000, x1001, x1002 => if x63 = true then (if 0 ≤ x1001 then (if x1001 < (x1000.size : Int) then (if (bt x1000 x1001) < 48 then (edits_scanner_number.j4 k x1 x5 x6 x7 (bt x1000 x1001) true x1000 x1001 x1002) else (edits_scanner_number.j4 k x1 x5 x6 x7 (bt x1000 x1001) (decide ((bt x1000 x1001) > 57)) x1000 x1001 x1002)) else (none)) else (none)) else (if x7 = 0 then ((edits_scanner_byte.f x1000 x1001 true x1).bind fun bt179 => (some (x5, bt179.1, bt179.2.1, bt179.2.2))) else ((edits_scanner_byte.f x1000 x1001 x1002 x1).bind fun bt182 => (some (x5, bt182.1, bt182.2.1, bt182.2.2))))
def edits_scanner_number.j4 : Nat → Int → Int → Bool → Int → Int → Bool → ByteArray → Int → Bool → Option (Int × ByteArray × Int × Bool)
  | 0, _, _, _, _, _, _, _, _, _ => none
  | k + 1, x1, x5, x6, x7, x8, x85, x1000, x1001, x1002 => if x85 = true then (if x7 = 0 then ((edits_scanner_byte.f x1000 x1001 true x1).bind fun bt185 => (some (x5, bt185.1, bt185.2.1, bt185.2.2))) else ((edits_scanner_byte.f x1000 x1001 x1002 x1).bind fun bt188 => (some (x5, bt188.1, bt188.2.1, bt188.2.2)))) else (if x7 = 1 then (if x5 = 0 then (edits_scanner_number.j5 k x1 x5 x6 x7 ((x8 - 48) % 256) true x1000 x1001 x1002) else (if x6 = true then (if x7 = 0 then (edits_scanner_number.j5 k x1 x5 x6 x7 ((x8 - 48) % 256) (((x8 - 48) % 256) == 0) x1000 x1001 x1002) else (edits_scanner_number.j5 k x1 x5 x6 x7 ((x8 - 48) % 256) false x1000 x1001 x1002)) else (edits_scanner_number.j5 k x1 x5 x6 x7 ((x8 - 48) % 256) false x1000 x1001 x1002))) else (if x6 = true then (if x7 = 0 then (edits_scanner_number.j5 k x1 x5 x6 x7 ((x8 - 48) % 256) (((x8 - 48) % 256) == 0) x1000 x1001 x1002) else (edits_scanner_number.j5 k x1 x5 x6 x7 ((x8 - 48) % 256) false x1000 x1001 x1002)) else (edits_scanner_number.j5 k x1 x5 x6 x7 ((x8 - 48) % 256) false x1000 x1001 x1002)))
def edits_scanner_number.j5 : Nat → Int → Int → Bool → Int → Int → Bool → ByteArray → Int → Bool → Option (Int × ByteArray × Int × Bool)
  | 0, _, _, _, _, _, _, _, _, _ => none
  | k + 1, x1, x5, x6, x7, x9, x105, x1000, x1001, x1002 => if x105 = true then (some (0, x1000, x1001, true)) else (if x6 = true then (if x5 < (wrap64 (Int.tdiv (wrap64 ((-9223372036854775808) + x9)) 10)) then (some (0, x1000, x1001, true)) else (edits_scanner_number.l0 k x1 (wrap64 ((wrap64 (x5 * 10)) - x9)) x6 (wrap64 (x7 + 1)) x1000 (wrap64 (x1001 + 1)) x1002)) else (if x5 > (wrap64 (Int.tdiv (wrap64 (9223372036854775807 - x9)) 10)) then (some (0, x1000, x1001, true)) else (edits_scanner_number.l0 k x1 (wrap64 ((wrap64 (x5 * 10)) + x9)) x6 (wrap64 (x7 + 1)) x1000 (wrap64 (x1001 + 1)) x1002)))
end
def edits_scanner_number.f (k : Nat) (s0_0 : ByteArray) (s0_1 : Int) (s0_2 : Bool) (a1 : Int) : Option (Int × ByteArray × Int × Bool) := if s0_2 = true then (edits_scanner_number.j0 k a1 0 false s0_0 s0_1 s0_2) else (if s0_1 < (s0_0.size : Int) then (if 0 ≤ s0_1 then (edits_scanner_number.j0 k a1 0 ((bt s0_0 s0_1) == 45) s0_0 s0_1 s0_2) else (none)) else (edits_scanner_number.j0 k a1 0 false s0_0 s0_1 s0_2))
set_option maxHeartbeats 8000000 in
set_option maxRecDepth 100000 in
theorem edits_scanner_number.calls (k : Nat) (g : Nat) (s0_0 : ByteArray) (s0_1 : Int) (s0_2 : Bool) (a1 : Int) (r1 : Int) (r2 : ByteArray) (r3 : Int) (r4 : Bool) (w0 w : World) (hI : IsS65 w0 w g s0_0 s0_1 s0_2) (hB : Below w0.heap.size w0 w) (h : edits_scanner_number.f k s0_0 s0_1 s0_2 a1 = some (r1, r2, r3, r4)) :
    Calls Tryd.prog 30 #[.pointer (some ⟨g, 0, none⟩), .int .u8 a1] w fun e w' => e = .returned (.int .i64 r1) ∧ IsS65 w0 w' g r2 r3 r4 ∧ Below w0.heap.size w0 w' ∧ KeepBut w w' g none := by
  have HI0 := Aside0.mk hI
  have HK := Aside0.mk (KeepBut.refl w g none)
  have HL := Aside0.mk hB.size
  clear hI
  have HW0 := Aside0.mk hB.size
  have HB := Aside0.mk hB
  clear hB
  have H : (if s0_2 = true then (edits_scanner_number.j0 k a1 0 false s0_0 s0_1 s0_2) else (if s0_1 < (s0_0.size : Int) then (if 0 ≤ s0_1 then (edits_scanner_number.j0 k a1 0 ((bt s0_0 s0_1) == 45) s0_0 s0_1 s0_2) else (none)) else (edits_scanner_number.j0 k a1 0 false s0_0 s0_1 s0_2))) = some (r1, r2, r3, r4) := h
  clear h
  have HC3 := Aside0.mk H
  clear H
  go_enter Tryd.func30, Tryd.ntmps30
  go_upto_region 2 with (fail)
  repeat (go_quiet (fail); go_upto_region 2 with (fail))
  go_cut [6] (fun v6 wc => ∃ (kq : Nat) (x6_2 : Bool), v6 = .bool x6_2 ∧ Aside0 (edits_scanner_number.j0 kq a1 0 x6_2 s0_0 s0_1 s0_2 = some (r1, r2, r3, r4)) ∧ Aside0 (kq ≤ k) ∧ Aside0 (IsS65 w0 wc g s0_0 s0_1 s0_2) ∧ Aside0 (KeepBut w wc g none) ∧ Aside0 (Below w0.heap.size w0 wc))
  case first =>
    have H := HC3.out
    clear HC3
    by_cases c4 : s0_2 = true
    · subst c4
      have H1 : (edits_scanner_number.j0 k a1 0 false s0_0 s0_1 true) = some (r1, r2, r3, r4) := by rw [if_pos rfl] at H; exact H
      clear H
      have H := H1
      clear H1
      have H' := Aside0.mk H
      clear H
      obtain ⟨HGz5, hgz5⟩ := HI0.out
      have hcz5_0 := cellS65_0 HGz5
      have hcz5_1 := cellS65_1 HGz5
      have hcz5_2 := cellS65_2 HGz5
      have hfz5_0 := blk_frozen HGz5 0
      have hfz5_1 := blk_frozen HGz5 1
      have hfz5_2 := blk_frozen HGz5 2
      clear HGz5 hgz5
      go_wp2
      repeat (go_quiet (fail); try go_wp2)
      go_meet
      case rel => exact ⟨_, (false), (by first | rfl | (simp; done) | (simp [*]; done)), H', ⟨by first | omega | exact Nat.le_refl _⟩, ⟨by repeat (first | (with_reducible first | exact HI0.out | apply IsS65.alloc | apply IsS65.drewN | apply IsS65.drew | apply IsS65.set_0 | apply IsS65.set_1 | apply IsS65.set_2) | exact HI0.out)⟩, ⟨by repeat (first | (with_reducible first | exact HK.out | apply KeepBut.set_ | apply keep_drewN | apply keep_drew | apply keep_alloc) | exact HK.out)⟩, ⟨by repeat (first | (with_reducible first | exact HB.out | apply below_alloc | apply pw_below_drewN | apply below_drew1 | refine below_set ?_ (IsS65.ge HI0.out)) | exact HB.out)⟩⟩
    · replace c4 := Bool.eq_false_iff.mpr c4
      subst c4
      have H1 : (if s0_1 < (s0_0.size : Int) then (if 0 ≤ s0_1 then (edits_scanner_number.j0 k a1 0 ((bt s0_0 s0_1) == 45) s0_0 s0_1 false) else (none)) else (edits_scanner_number.j0 k a1 0 false s0_0 s0_1 false)) = some (r1, r2, r3, r4) := by rw [if_neg (show ¬ (false = true) by decide)] at H; exact H
      clear H
      have H := H1
      clear H1
      by_cases c6 : s0_1 < (s0_0.size : Int)
      · rw [if_pos c6] at H
        have c6b0 : decide (s0_1 < (s0_0.size : Int)) = true := decide_eq_true c6
        clear c6
        (first | rw [c6b0] | (simp only [i64_w, i32_w]; rw [c6b0]) | skip)
        by_cases c7 : 0 ≤ s0_1
        · rw [if_pos c7] at H
          have c7b0 : decide (0 ≤ s0_1) = true := decide_eq_true c7
          clear c7
          have H' := Aside0.mk H
          clear H
          obtain ⟨HGz9, hgz9⟩ := HI0.out
          have hcz9_0 := cellS65_0 HGz9
          have hcz9_1 := cellS65_1 HGz9
          have hcz9_2 := cellS65_2 HGz9
          have hfz9_0 := blk_frozen HGz9 0
          have hfz9_1 := blk_frozen HGz9 1
          have hfz9_2 := blk_frozen HGz9 2
          clear HGz9 hgz9
          have p8 : 0 ≤ (s0_1 : Int) := of_decide_eq_true (by first | (with_reducible assumption) | assumption)
          have q8 : s0_1 < (s0_0.size : Int) := of_decide_eq_true (by first | (with_reducible assumption) | assumption)
          have hx8 := bt_at s0_0 s0_1
          replace p8 := eq_true p8
          replace q8 := eq_true q8
          go_wp2
          repeat (go_quiet (fail); try go_wp2)
          go_meet
          case rel => exact ⟨_, (((bt s0_0 s0_1) == 45)), (by first | rfl | (simp; done) | (simp [*]; done)), H', ⟨by first | omega | exact Nat.le_refl _⟩, ⟨by repeat (first | (with_reducible first | exact HI0.out | apply IsS65.alloc | apply IsS65.drewN | apply IsS65.drew | apply IsS65.set_0 | apply IsS65.set_1 | apply IsS65.set_2) | exact HI0.out)⟩, ⟨by repeat (first | (with_reducible first | exact HK.out | apply KeepBut.set_ | apply keep_drewN | apply keep_drew | apply keep_alloc) | exact HK.out)⟩, ⟨by repeat (first | (with_reducible first | exact HB.out | apply below_alloc | apply pw_below_drewN | apply below_drew1 | refine below_set ?_ (IsS65.ge HI0.out)) | exact HB.out)⟩⟩
        · rw [if_neg c7] at H
          exact absurd H (by simp)
      · rw [if_neg c6] at H
        have c6b0 : decide (s0_1 < (s0_0.size : Int)) = false := decide_eq_false c6
        clear c6
        (first | rw [c6b0] | (simp only [i64_w, i32_w]; rw [c6b0]) | skip)
        have H' := Aside0.mk H
        clear H
        obtain ⟨HGz10, hgz10⟩ := HI0.out
        have hcz10_0 := cellS65_0 HGz10
        have hcz10_1 := cellS65_1 HGz10
        have hcz10_2 := cellS65_2 HGz10
        have hfz10_0 := blk_frozen HGz10 0
        have hfz10_1 := blk_frozen HGz10 1
        have hfz10_2 := blk_frozen HGz10 2
        clear HGz10 hgz10
        go_wp2
        repeat (go_quiet (fail); try go_wp2)
        go_meet
        case rel => exact ⟨_, (false), (by first | rfl | (simp; done) | (simp [*]; done)), H', ⟨by first | omega | exact Nat.le_refl _⟩, ⟨by repeat (first | (with_reducible first | exact HI0.out | apply IsS65.alloc | apply IsS65.drewN | apply IsS65.drew | apply IsS65.set_0 | apply IsS65.set_1 | apply IsS65.set_2) | exact HI0.out)⟩, ⟨by repeat (first | (with_reducible first | exact HK.out | apply KeepBut.set_ | apply keep_drewN | apply keep_drew | apply keep_alloc) | exact HK.out)⟩, ⟨by repeat (first | (with_reducible first | exact HB.out | apply below_alloc | apply pw_below_drewN | apply below_drew1 | refine below_set ?_ (IsS65.ge HI0.out)) | exact HB.out)⟩⟩
  case rest =>
    clear HC3
    try clear p2
    try clear c3
    try clear c4
    try clear c6
    try clear c6b0
    try clear c7
    try clear c7b0
    try clear p8
    try clear q8
    try clear hx8
    try clear hcz10_0
    try clear hcz10_1
    try clear hcz10_2
    try clear hcz5_0
    try clear hcz5_1
    try clear hcz5_2
    try clear hcz9_0
    try clear hcz9_1
    try clear hcz9_2
    try clear hfz10_0
    try clear hfz10_1
    try clear hfz10_2
    try clear hfz5_0
    try clear hfz5_1
    try clear hfz5_2
    try clear hfz9_0
    try clear hfz9_1
    try clear hfz9_2
    try clear p8
    try clear q8
    obtain ⟨kq, x6_2, rfl, HA, HJ2, HI0, HK, HB⟩ := hcut
    cases kq with
    | zero => exact absurd HA.out (by simp [edits_scanner_number.j0])
    | succ kj2 =>
      have H := HA.out
      clear HA
      simp only [edits_scanner_number.j0] at H
      have HC11 := Aside0.mk H
      clear H
      go_upto_if 39 with (fail)
      repeat (go_quiet (fail); go_upto_if 39 with (fail))
      go_cut [] (fun wc => ∃ (kq : Nat) (x1001_10 : Int), Aside0 (edits_scanner_number.j1 kq a1 0 x6_2 s0_0 x1001_10 s0_2 = some (r1, r2, r3, r4)) ∧ Aside0 (kq ≤ kj2) ∧ Aside0 (IsS65 w0 wc g s0_0 x1001_10 s0_2) ∧ Aside0 (KeepBut w wc g none) ∧ Aside0 (Below w0.heap.size w0 wc))
      case first =>
        have H := HC11.out
        clear HC11
        by_cases c12 : x6_2 = true
        · subst c12
          have H1 : (edits_scanner_number.j1 kj2 a1 0 true s0_0 (wrap64 (s0_1 + 1)) s0_2) = some (r1, r2, r3, r4) := by rw [if_pos rfl] at H; exact H
          clear H
          have H := H1
          clear H1
          have H' := Aside0.mk H
          clear H
          obtain ⟨HGz13, hgz13⟩ := HI0.out
          have hcz13_0 := cellS65_0 HGz13
          have hcz13_1 := cellS65_1 HGz13
          have hcz13_2 := cellS65_2 HGz13
          have hfz13_0 := blk_frozen HGz13 0
          have hfz13_1 := blk_frozen HGz13 1
          have hfz13_2 := blk_frozen HGz13 2
          clear HGz13 hgz13
          go_wp2
          repeat (go_quiet (fail); try go_wp2)
          go_meet
          case rel => exact ⟨_, (wrap64 (s0_1 + 1)), H', ⟨by have := HJ2.out; first | omega | exact Nat.le_refl _⟩, ⟨by repeat (first | (with_reducible first | exact HI0.out | apply IsS65.alloc | apply IsS65.drewN | apply IsS65.drew | apply IsS65.set_0 | apply IsS65.set_1 | apply IsS65.set_2) | exact HI0.out)⟩, ⟨by repeat (first | (with_reducible first | exact HK.out | apply KeepBut.set_ | apply keep_drewN | apply keep_drew | apply keep_alloc) | exact HK.out)⟩, ⟨by repeat (first | (with_reducible first | exact HB.out | apply below_alloc | apply pw_below_drewN | apply below_drew1 | refine below_set ?_ (IsS65.ge HI0.out)) | exact HB.out)⟩⟩
        · replace c12 := Bool.eq_false_iff.mpr c12
          subst c12
          have H1 : (edits_scanner_number.j1 kj2 a1 0 false s0_0 s0_1 s0_2) = some (r1, r2, r3, r4) := by rw [if_neg (show ¬ (false = true) by decide)] at H; exact H
          clear H
          have H := H1
          clear H1
          have H' := Aside0.mk H
          clear H
          go_wp2
          repeat (go_quiet (fail); try go_wp2)
          go_meet
          case rel => exact ⟨_, (s0_1), H', ⟨by have := HJ2.out; first | omega | exact Nat.le_refl _⟩, ⟨by repeat (first | (with_reducible first | exact HI0.out | apply IsS65.alloc | apply IsS65.drewN | apply IsS65.drew | apply IsS65.set_0 | apply IsS65.set_1 | apply IsS65.set_2) | exact HI0.out)⟩, ⟨by repeat (first | (with_reducible first | exact HK.out | apply KeepBut.set_ | apply keep_drewN | apply keep_drew | apply keep_alloc) | exact HK.out)⟩, ⟨by repeat (first | (with_reducible first | exact HB.out | apply below_alloc | apply pw_below_drewN | apply below_drew1 | refine below_set ?_ (IsS65.ge HI0.out)) | exact HB.out)⟩⟩
      case rest =>
        clear HC11
        try clear c1
        try clear p2
        try clear c3
        try clear c4
        try clear c6
        try clear c6b0
        try clear p6
        try clear c7
        try clear c7b0
        try clear p8
        try clear q8
        try clear hx8
        try clear c12
        try clear hcz10_0
        try clear hcz10_1
        try clear hcz10_2
        try clear hcz13_0
        try clear hcz13_1
        try clear hcz13_2
        try clear hcz5_0
        try clear hcz5_1
        try clear hcz5_2
        try clear hcz9_0
        try clear hcz9_1
        try clear hcz9_2
        try clear hfz10_0
        try clear hfz10_1
        try clear hfz10_2
        try clear hfz13_0
        try clear hfz13_1
        try clear hfz13_2
        try clear hfz5_0
        try clear hfz5_1
        try clear hfz5_2
        try clear hfz9_0
        try clear hfz9_1
        try clear hfz9_2
        try clear p2
        try clear p8
        try clear q8
        obtain ⟨kq, x1001_10, HA, HJ10, HI0, HK, HB⟩ := hcut
        cases kq with
        | zero => exact absurd HA.out (by simp [edits_scanner_number.j1])
        | succ kj10 =>
          have H := HA.out
          clear HA
          simp only [edits_scanner_number.j1] at H
          have H' := Aside0.mk H
          clear H
          go_wp2
          repeat (go_quiet (fail); try go_wp2)
          go_loopg [5, 7] kj10 (fun kq v5 v7 w' => ∃ (x5_3 : Int) (x7_3 : Int) (x1001_3 : Int) (x1002_3 : Bool), v5 = .int .i64 x5_3 ∧ v7 = .int .i64 x7_3 ∧ Aside0 (edits_scanner_number.l0 kq a1 x5_3 x6_2 x7_3 s0_0 x1001_3 x1002_3 = some (r1, r2, r3, r4)) ∧ Aside0 (kq ≤ kj10) ∧ Aside0 (IsS65 w0 w' g s0_0 x1001_3 x1002_3) ∧ Aside0 (KeepBut w w' g none) ∧ Aside0 (Below w0.heap.size w0 w'))
          case atStart => exact ⟨(0), (0), (x1001_10), (s0_2), (by first | rfl | (simp; done) | (simp [*]; done)), (by first | rfl | (simp; done) | (simp [*]; done)), H', ⟨Nat.le_refl _⟩, ⟨by repeat (first | (with_reducible first | exact HI0.out | apply IsS65.alloc | apply IsS65.drewN | apply IsS65.drew | apply IsS65.set_0 | apply IsS65.set_1 | apply IsS65.set_2) | exact HI0.out)⟩, ⟨by repeat (first | (with_reducible first | exact HK.out | apply KeepBut.set_ | apply keep_drewN | apply keep_drew | apply keep_alloc) | exact HK.out)⟩, ⟨by repeat (first | (with_reducible first | exact HB.out | apply below_alloc | apply pw_below_drewN | apply below_drew1 | refine below_set ?_ (IsS65.ge HI0.out)) | exact HB.out)⟩⟩
          case round =>
            clear H'
            try clear c1
            try clear p2
            try clear c3
            try clear c4
            try clear c6
            try clear c6b0
            try clear p6
            try clear c7
            try clear c7b0
            try clear p8
            try clear q8
            try clear hx8
            try clear c12
            try clear hcz10_0
            try clear hcz10_1
            try clear hcz10_2
            try clear hcz13_0
            try clear hcz13_1
            try clear hcz13_2
            try clear hcz5_0
            try clear hcz5_1
            try clear hcz5_2
            try clear hcz9_0
            try clear hcz9_1
            try clear hcz9_2
            try clear hfz10_0
            try clear hfz10_1
            try clear hfz10_2
            try clear hfz13_0
            try clear hfz13_1
            try clear hfz13_2
            try clear hfz5_0
            try clear hfz5_1
            try clear hfz5_2
            try clear hfz9_0
            try clear hfz9_1
            try clear hfz9_2
            try clear p2
            try clear p6
            try clear p8
            try clear q8
            obtain ⟨x5_3, x7_3, x1001_3, x1002_3, rfl, rfl, HA, HK3, HI0, HK, HB⟩ := hrel
            cases gk with
            | zero => exact absurd HA.out (by simp [edits_scanner_number.l0])
            | succ k3 =>
              have H := HA.out
              clear HA
              simp only [edits_scanner_number.l0] at H
              have HC14 := Aside0.mk H
              clear H
              go_upto_region 6 with (fail)
              repeat (go_quiet (fail); go_upto_region 6 with (fail))
              go_cut [63] (fun v63 wc => ∃ (kq : Nat) (x63_13 : Bool), v63 = .bool x63_13 ∧ Aside0 (edits_scanner_number.j3 kq a1 x5_3 x6_2 x7_3 x63_13 s0_0 x1001_3 x1002_3 = some (r1, r2, r3, r4)) ∧ Aside0 (kq ≤ k3) ∧ Aside0 (IsS65 w0 wc g s0_0 x1001_3 x1002_3) ∧ Aside0 (KeepBut w wc g none) ∧ Aside0 (Below w0.heap.size w0 wc))
              case first =>
                have H := HC14.out
                clear HC14
                by_cases c15 : x1002_3 = true
                · subst c15
                  have H1 : (edits_scanner_number.j3 k3 a1 x5_3 x6_2 x7_3 false s0_0 x1001_3 true) = some (r1, r2, r3, r4) := by rw [if_pos rfl] at H; exact H
                  clear H
                  have H := H1
                  clear H1
                  have H' := Aside0.mk H
                  clear H
                  obtain ⟨HGz16, hgz16⟩ := HI0.out
                  have hcz16_0 := cellS65_0 HGz16
                  have hcz16_1 := cellS65_1 HGz16
                  have hcz16_2 := cellS65_2 HGz16
                  have hfz16_0 := blk_frozen HGz16 0
                  have hfz16_1 := blk_frozen HGz16 1
                  have hfz16_2 := blk_frozen HGz16 2
                  clear HGz16 hgz16
                  go_wp2
                  repeat (go_quiet (fail); try go_wp2)
                  go_meet
                  case rel => exact ⟨_, (false), (by first | rfl | (simp; done) | (simp [*]; done)), H', ⟨by have := HJ2.out; have := HJ10.out; have := HK3.out; first | omega | exact Nat.le_refl _⟩, ⟨by repeat (first | (with_reducible first | exact HI0.out | apply IsS65.alloc | apply IsS65.drewN | apply IsS65.drew | apply IsS65.set_0 | apply IsS65.set_1 | apply IsS65.set_2) | exact HI0.out)⟩, ⟨by repeat (first | (with_reducible first | exact HK.out | apply KeepBut.set_ | apply keep_drewN | apply keep_drew | apply keep_alloc) | exact HK.out)⟩, ⟨by repeat (first | (with_reducible first | exact HB.out | apply below_alloc | apply pw_below_drewN | apply below_drew1 | refine below_set ?_ (IsS65.ge HI0.out)) | exact HB.out)⟩⟩
                · replace c15 := Bool.eq_false_iff.mpr c15
                  subst c15
                  have H1 : (edits_scanner_number.j3 k3 a1 x5_3 x6_2 x7_3 (decide (x1001_3 < (s0_0.size : Int))) s0_0 x1001_3 false) = some (r1, r2, r3, r4) := by rw [if_neg (show ¬ (false = true) by decide)] at H; exact H
                  clear H
                  have H := H1
                  clear H1
                  have H' := Aside0.mk H
                  clear H
                  obtain ⟨HGz17, hgz17⟩ := HI0.out
                  have hcz17_0 := cellS65_0 HGz17
                  have hcz17_1 := cellS65_1 HGz17
                  have hcz17_2 := cellS65_2 HGz17
                  have hfz17_0 := blk_frozen HGz17 0
                  have hfz17_1 := blk_frozen HGz17 1
                  have hfz17_2 := blk_frozen HGz17 2
                  clear HGz17 hgz17
                  go_wp2
                  repeat (go_quiet (fail); try go_wp2)
                  go_meet
                  case rel => exact ⟨_, (decide (x1001_3 < (s0_0.size : Int))), (by first | rfl | (simp; done) | (simp [*]; done)), H', ⟨by have := HJ2.out; have := HJ10.out; have := HK3.out; first | omega | exact Nat.le_refl _⟩, ⟨by repeat (first | (with_reducible first | exact HI0.out | apply IsS65.alloc | apply IsS65.drewN | apply IsS65.drew | apply IsS65.set_0 | apply IsS65.set_1 | apply IsS65.set_2) | exact HI0.out)⟩, ⟨by repeat (first | (with_reducible first | exact HK.out | apply KeepBut.set_ | apply keep_drewN | apply keep_drew | apply keep_alloc) | exact HK.out)⟩, ⟨by repeat (first | (with_reducible first | exact HB.out | apply below_alloc | apply pw_below_drewN | apply below_drew1 | refine below_set ?_ (IsS65.ge HI0.out)) | exact HB.out)⟩⟩
              case rest =>
                clear HC14
                try clear c1
                try clear p2
                try clear c3
                try clear c4
                try clear c6
                try clear c6b0
                try clear p6
                try clear c7
                try clear c7b0
                try clear p8
                try clear q8
                try clear hx8
                try clear c12
                try clear c15
                try clear hcz10_0
                try clear hcz10_1
                try clear hcz10_2
                try clear hcz13_0
                try clear hcz13_1
                try clear hcz13_2
                try clear hcz16_0
                try clear hcz16_1
                try clear hcz16_2
                try clear hcz17_0
                try clear hcz17_1
                try clear hcz17_2
                try clear hcz5_0
                try clear hcz5_1
                try clear hcz5_2
                try clear hcz9_0
                try clear hcz9_1
                try clear hcz9_2
                try clear hfz10_0
                try clear hfz10_1
                try clear hfz10_2
                try clear hfz13_0
                try clear hfz13_1
                try clear hfz13_2
                try clear hfz16_0
                try clear hfz16_1
                try clear hfz16_2
                try clear hfz17_0
                try clear hfz17_1
                try clear hfz17_2
                try clear hfz5_0
                try clear hfz5_1
                try clear hfz5_2
                try clear hfz9_0
                try clear hfz9_1
                try clear hfz9_2
                try clear p2
                try clear p6
                try clear p8
                try clear q8
                obtain ⟨kq, x63_13, rfl, HA, HJ13, HI0, HK, HB⟩ := hcut
                cases kq with
                | zero => exact absurd HA.out (by simp [edits_scanner_number.j3])
                | succ kj13 =>
                  have H := HA.out
                  clear HA
                  simp only [edits_scanner_number.j3] at H
                  by_cases c18 : x63_13 = true
                  · subst c18
                    have H1 : (if 0 ≤ x1001_3 then (if x1001_3 < (s0_0.size : Int) then (if (bt s0_0 x1001_3) < 48 then (edits_scanner_number.j4 kj13 a1 x5_3 x6_2 x7_3 (bt s0_0 x1001_3) true s0_0 x1001_3 x1002_3) else (edits_scanner_number.j4 kj13 a1 x5_3 x6_2 x7_3 (bt s0_0 x1001_3) (decide ((bt s0_0 x1001_3) > 57)) s0_0 x1001_3 x1002_3)) else (none)) else (none)) = some (r1, r2, r3, r4) := by rw [if_pos rfl] at H; exact H
                    clear H
                    have H := H1
                    clear H1
                    by_cases c19 : 0 ≤ x1001_3
                    · rw [if_pos c19] at H
                      have c19b0 : decide (0 ≤ x1001_3) = true := decide_eq_true c19
                      clear c19
                      by_cases c20 : x1001_3 < (s0_0.size : Int)
                      · rw [if_pos c20] at H
                        have c20b0 : decide (x1001_3 < (s0_0.size : Int)) = true := decide_eq_true c20
                        clear c20
                        have HC22 := Aside0.mk H
                        clear H
                        obtain ⟨HGz23, hgz23⟩ := HI0.out
                        have hcz23_0 := cellS65_0 HGz23
                        have hcz23_1 := cellS65_1 HGz23
                        have hcz23_2 := cellS65_2 HGz23
                        have hfz23_0 := blk_frozen HGz23 0
                        have hfz23_1 := blk_frozen HGz23 1
                        have hfz23_2 := blk_frozen HGz23 2
                        clear HGz23 hgz23
                        have p21 : 0 ≤ (x1001_3 : Int) := of_decide_eq_true (by first | (with_reducible assumption) | assumption)
                        have q21 : x1001_3 < (s0_0.size : Int) := of_decide_eq_true (by first | (with_reducible assumption) | assumption)
                        have hx21 := bt_at s0_0 x1001_3
                        replace p21 := eq_true p21
                        replace q21 := eq_true q21
                        go_upto_region 9 with (fail)
                        repeat (go_quiet (fail); go_upto_region 9 with (fail))
                        go_cut [85] (fun v85 wc => ∃ (kq : Nat) (x85_21 : Bool), v85 = .bool x85_21 ∧ Aside0 (edits_scanner_number.j4 kq a1 x5_3 x6_2 x7_3 (bt s0_0 x1001_3) x85_21 s0_0 x1001_3 x1002_3 = some (r1, r2, r3, r4)) ∧ Aside0 (kq ≤ kj13) ∧ Aside0 (IsS65 w0 wc g s0_0 x1001_3 x1002_3) ∧ Aside0 (KeepBut w wc g none) ∧ Aside0 (Below w0.heap.size w0 wc))
                        case first =>
                          have H := HC22.out
                          clear HC22
                          by_cases c24 : (bt s0_0 x1001_3) < 48
                          · rw [if_pos c24] at H
                            have c24b0 : decide ((bt s0_0 x1001_3) < 48) = true := decide_eq_true c24
                            clear c24
                            (first | rw [c24b0] | (simp only [i64_w, i32_w]; rw [c24b0]) | skip)
                            have H' := Aside0.mk H
                            clear H
                            go_wp2
                            repeat (go_quiet (fail); try go_wp2)
                            go_meet
                            case rel => exact ⟨_, (true), (by first | rfl | (simp; done) | (simp [*]; done)), H', ⟨by have := HJ2.out; have := HJ10.out; have := HK3.out; have := HJ13.out; first | omega | exact Nat.le_refl _⟩, ⟨by repeat (first | (with_reducible first | exact HI0.out | apply IsS65.alloc | apply IsS65.drewN | apply IsS65.drew | apply IsS65.set_0 | apply IsS65.set_1 | apply IsS65.set_2) | exact HI0.out)⟩, ⟨by repeat (first | (with_reducible first | exact HK.out | apply KeepBut.set_ | apply keep_drewN | apply keep_drew | apply keep_alloc) | exact HK.out)⟩, ⟨by repeat (first | (with_reducible first | exact HB.out | apply below_alloc | apply pw_below_drewN | apply below_drew1 | refine below_set ?_ (IsS65.ge HI0.out)) | exact HB.out)⟩⟩
                          · rw [if_neg c24] at H
                            have c24b0 : decide ((bt s0_0 x1001_3) < 48) = false := decide_eq_false c24
                            clear c24
                            (first | rw [c24b0] | (simp only [i64_w, i32_w]; rw [c24b0]) | skip)
                            have H' := Aside0.mk H
                            clear H
                            go_wp2
                            repeat (go_quiet (fail); try go_wp2)
                            go_meet
                            case rel => exact ⟨_, (decide ((bt s0_0 x1001_3) > 57)), (by first | rfl | (simp; done) | (simp [*]; done)), H', ⟨by have := HJ2.out; have := HJ10.out; have := HK3.out; have := HJ13.out; first | omega | exact Nat.le_refl _⟩, ⟨by repeat (first | (with_reducible first | exact HI0.out | apply IsS65.alloc | apply IsS65.drewN | apply IsS65.drew | apply IsS65.set_0 | apply IsS65.set_1 | apply IsS65.set_2) | exact HI0.out)⟩, ⟨by repeat (first | (with_reducible first | exact HK.out | apply KeepBut.set_ | apply keep_drewN | apply keep_drew | apply keep_alloc) | exact HK.out)⟩, ⟨by repeat (first | (with_reducible first | exact HB.out | apply below_alloc | apply pw_below_drewN | apply below_drew1 | refine below_set ?_ (IsS65.ge HI0.out)) | exact HB.out)⟩⟩
                        case rest =>
                          clear HC22
                          try clear c1
                          try clear c2
                          try clear p2
                          try clear q2
                          try clear hx2
                          try clear c3
                          try clear c4
                          try clear c6
                          try clear c6b0
                          try clear p6
                          try clear c7
                          try clear c7b0
                          try clear p8
                          try clear q8
                          try clear hx8
                          try clear c12
                          try clear c15
                          try clear c18
                          try clear c19
                          try clear c19b0
                          try clear c20
                          try clear c20b0
                          try clear p21
                          try clear q21
                          try clear hx21
                          try clear c24
                          try clear c24b0
                          try clear hcz10_0
                          try clear hcz10_1
                          try clear hcz10_2
                          try clear hcz13_0
                          try clear hcz13_1
                          try clear hcz13_2
                          try clear hcz16_0
                          try clear hcz16_1
                          try clear hcz16_2
                          try clear hcz17_0
                          try clear hcz17_1
                          try clear hcz17_2
                          try clear hcz23_0
                          try clear hcz23_1
                          try clear hcz23_2
                          try clear hcz5_0
                          try clear hcz5_1
                          try clear hcz5_2
                          try clear hcz9_0
                          try clear hcz9_1
                          try clear hcz9_2
                          try clear hfz10_0
                          try clear hfz10_1
                          try clear hfz10_2
                          try clear hfz13_0
                          try clear hfz13_1
                          try clear hfz13_2
                          try clear hfz16_0
                          try clear hfz16_1
                          try clear hfz16_2
                          try clear hfz17_0
                          try clear hfz17_1
                          try clear hfz17_2
                          try clear hfz23_0
                          try clear hfz23_1
                          try clear hfz23_2
                          try clear hfz5_0
                          try clear hfz5_1
                          try clear hfz5_2
                          try clear hfz9_0
                          try clear hfz9_1
                          try clear hfz9_2
                          try clear p2
                          try clear p21
                          try clear p6
                          try clear p8
                          try clear q21
                          try clear q8
                          obtain ⟨kq, x85_21, rfl, HA, HJ21, HI0, HK, HB⟩ := hcut
                          cases kq with
                          | zero => exact absurd HA.out (by simp [edits_scanner_number.j4])
                          | succ kj21 =>
                            have H := HA.out
                            clear HA
                            simp only [edits_scanner_number.j4] at H
                            by_cases c25 : x85_21 = true
                            · subst c25
                              have H1 : (if x7_3 = 0 then ((edits_scanner_byte.f s0_0 x1001_3 true a1).bind fun bt185 => (some (x5_3, bt185.1, bt185.2.1, bt185.2.2))) else ((edits_scanner_byte.f s0_0 x1001_3 x1002_3 a1).bind fun bt188 => (some (x5_3, bt188.1, bt188.2.1, bt188.2.2)))) = some (r1, r2, r3, r4) := by rw [if_pos rfl] at H; exact H
                              clear H
                              have H := H1
                              clear H1
                              by_cases c26 : x7_3 = 0
                              · rw [if_pos c26] at H
                                have c26b0 : (x7_3 == 0) = true := beq_iff_eq.mpr c26
                                have c26b1 : (x7_3 != 0) = false := bne_eq_false_iff_eq.mpr c26
                                clear c26
                                replace H := Option.bind_eq_some_iff.mp H
                                obtain ⟨⟨t185, t186, t187⟩, A270, H⟩ := H
                                replace H : (some (x5_3, t185, t186, t187)) = some (r1, r2, r3, r4) := H
                                have A27 := Aside0.mk A270
                                clear A270
                                simp only [Option.some.injEq, Prod.mk.injEq] at H
                                obtain ⟨rfl, rfl, rfl, rfl⟩ := H
                                obtain ⟨HGz28, hgz28⟩ := HI0.out
                                have hcz28_0 := cellS65_0 HGz28
                                have hcz28_1 := cellS65_1 HGz28
                                have hcz28_2 := cellS65_2 HGz28
                                have hfz28_0 := blk_frozen HGz28 0
                                have hfz28_1 := blk_frozen HGz28 1
                                have hfz28_2 := blk_frozen HGz28 2
                                clear HGz28 hgz28
                                go_wp2_with (first | (go_at_call 32; (with_reducible refine (edits_scanner_byte.calls g s0_0 x1001_3 true a1 t185 t186 t187 w0 _ ?side1 ?side2 A27.out).mono ?_); (case side1 => repeat (first | (with_reducible first | exact HI0.out | apply IsS65.alloc | apply IsS65.drewN | apply IsS65.drew | apply IsS65.set_0 | apply IsS65.set_1 | apply IsS65.set_2) | exact HI0.out)); (case side2 => repeat (first | (with_reducible first | exact HB.out | apply below_alloc | apply pw_below_drewN | apply below_drew1 | refine below_set ?_ (IsS65.ge HI0.out)) | exact HB.out)); rintro e w29 ⟨rfl, hi, hb, hk⟩; have n0_ := Aside0.mk (KeepBut.trans (by repeat (first | (with_reducible first | exact HK.out | apply KeepBut.set_ | apply keep_drewN | apply keep_drew | apply keep_alloc) | exact HK.out)) hk (.inl rfl)); have n1_ := Aside0.mk (hb); have n2_ := Aside0.mk (hi); clear HK; clear HB; clear HI0; have HK := n0_; have HB := n1_; have HI0 := n2_; clear n0_ n1_ n2_; (try clear hb); (try clear hb2); (try clear hk); (try clear hi)))
                                repeat (go_quiet (first | (go_at_call 32; (with_reducible refine (edits_scanner_byte.calls g s0_0 x1001_3 true a1 t185 t186 t187 w0 _ ?side1 ?side2 A27.out).mono ?_); (case side1 => repeat (first | (with_reducible first | exact HI0.out | apply IsS65.alloc | apply IsS65.drewN | apply IsS65.drew | apply IsS65.set_0 | apply IsS65.set_1 | apply IsS65.set_2) | exact HI0.out)); (case side2 => repeat (first | (with_reducible first | exact HB.out | apply below_alloc | apply pw_below_drewN | apply below_drew1 | refine below_set ?_ (IsS65.ge HI0.out)) | exact HB.out)); rintro e w29 ⟨rfl, hi, hb, hk⟩; have n0_ := Aside0.mk (KeepBut.trans (by repeat (first | (with_reducible first | exact HK.out | apply KeepBut.set_ | apply keep_drewN | apply keep_drew | apply keep_alloc) | exact HK.out)) hk (.inl rfl)); have n1_ := Aside0.mk (hb); have n2_ := Aside0.mk (hi); clear HK; clear HB; clear HI0; have HK := n0_; have HB := n1_; have HI0 := n2_; clear n0_ n1_ n2_; (try clear hb); (try clear hb2); (try clear hk); (try clear hi))); try go_wp2_with (first | (go_at_call 32; (with_reducible refine (edits_scanner_byte.calls g s0_0 x1001_3 true a1 t185 t186 t187 w0 _ ?side1 ?side2 A27.out).mono ?_); (case side1 => repeat (first | (with_reducible first | exact HI0.out | apply IsS65.alloc | apply IsS65.drewN | apply IsS65.drew | apply IsS65.set_0 | apply IsS65.set_1 | apply IsS65.set_2) | exact HI0.out)); (case side2 => repeat (first | (with_reducible first | exact HB.out | apply below_alloc | apply pw_below_drewN | apply below_drew1 | refine below_set ?_ (IsS65.ge HI0.out)) | exact HB.out)); rintro e w29 ⟨rfl, hi, hb, hk⟩; have n0_ := Aside0.mk (KeepBut.trans (by repeat (first | (with_reducible first | exact HK.out | apply KeepBut.set_ | apply keep_drewN | apply keep_drew | apply keep_alloc) | exact HK.out)) hk (.inl rfl)); have n1_ := Aside0.mk (hb); have n2_ := Aside0.mk (hi); clear HK; clear HB; clear HI0; have HK := n0_; have HB := n1_; have HI0 := n2_; clear n0_ n1_ n2_; (try clear hb); (try clear hb2); (try clear hk); (try clear hi))))
                                go_ret
                                exact ⟨by first | rfl | (simp [errW_none, errW_some] <;> rfl) | (simp [*, errW_none, errW_some] <;> rfl), by repeat (first | (with_reducible first | exact HI0.out | apply IsS65.alloc | apply IsS65.drewN | apply IsS65.drew | apply IsS65.set_0 | apply IsS65.set_1 | apply IsS65.set_2) | exact HI0.out), by repeat (first | (with_reducible first | exact HB.out | apply below_alloc | apply pw_below_drewN | apply below_drew1 | refine below_set ?_ (IsS65.ge HI0.out)) | exact HB.out), by repeat (first | (with_reducible first | exact HK.out | apply KeepBut.set_ | apply keep_drewN | apply keep_drew | apply keep_alloc) | exact HK.out)⟩
                              · rw [if_neg c26] at H
                                have c26b0 : (x7_3 == 0) = false := beq_eq_false_iff_ne.mpr c26
                                have c26b1 : (x7_3 != 0) = true := bne_iff_ne.mpr c26
                                replace H := Option.bind_eq_some_iff.mp H
                                obtain ⟨⟨t188, t189, t190⟩, A300, H⟩ := H
                                replace H : (some (x5_3, t188, t189, t190)) = some (r1, r2, r3, r4) := H
                                have A30 := Aside0.mk A300
                                clear A300
                                simp only [Option.some.injEq, Prod.mk.injEq] at H
                                obtain ⟨rfl, rfl, rfl, rfl⟩ := H
                                go_wp2_with (first | (go_at_call 32; (with_reducible refine (edits_scanner_byte.calls g s0_0 x1001_3 x1002_3 a1 t188 t189 t190 w0 _ ?side1 ?side2 A30.out).mono ?_); (case side1 => repeat (first | (with_reducible first | exact HI0.out | apply IsS65.alloc | apply IsS65.drewN | apply IsS65.drew | apply IsS65.set_0 | apply IsS65.set_1 | apply IsS65.set_2) | exact HI0.out)); (case side2 => repeat (first | (with_reducible first | exact HB.out | apply below_alloc | apply pw_below_drewN | apply below_drew1 | refine below_set ?_ (IsS65.ge HI0.out)) | exact HB.out)); rintro e w31 ⟨rfl, hi, hb, hk⟩; have n0_ := Aside0.mk (KeepBut.trans (by repeat (first | (with_reducible first | exact HK.out | apply KeepBut.set_ | apply keep_drewN | apply keep_drew | apply keep_alloc) | exact HK.out)) hk (.inl rfl)); have n1_ := Aside0.mk (hb); have n2_ := Aside0.mk (hi); clear HK; clear HB; clear HI0; have HK := n0_; have HB := n1_; have HI0 := n2_; clear n0_ n1_ n2_; (try clear hb); (try clear hb2); (try clear hk); (try clear hi)))
                                repeat (go_quiet (first | (go_at_call 32; (with_reducible refine (edits_scanner_byte.calls g s0_0 x1001_3 x1002_3 a1 t188 t189 t190 w0 _ ?side1 ?side2 A30.out).mono ?_); (case side1 => repeat (first | (with_reducible first | exact HI0.out | apply IsS65.alloc | apply IsS65.drewN | apply IsS65.drew | apply IsS65.set_0 | apply IsS65.set_1 | apply IsS65.set_2) | exact HI0.out)); (case side2 => repeat (first | (with_reducible first | exact HB.out | apply below_alloc | apply pw_below_drewN | apply below_drew1 | refine below_set ?_ (IsS65.ge HI0.out)) | exact HB.out)); rintro e w31 ⟨rfl, hi, hb, hk⟩; have n0_ := Aside0.mk (KeepBut.trans (by repeat (first | (with_reducible first | exact HK.out | apply KeepBut.set_ | apply keep_drewN | apply keep_drew | apply keep_alloc) | exact HK.out)) hk (.inl rfl)); have n1_ := Aside0.mk (hb); have n2_ := Aside0.mk (hi); clear HK; clear HB; clear HI0; have HK := n0_; have HB := n1_; have HI0 := n2_; clear n0_ n1_ n2_; (try clear hb); (try clear hb2); (try clear hk); (try clear hi))); try go_wp2_with (first | (go_at_call 32; (with_reducible refine (edits_scanner_byte.calls g s0_0 x1001_3 x1002_3 a1 t188 t189 t190 w0 _ ?side1 ?side2 A30.out).mono ?_); (case side1 => repeat (first | (with_reducible first | exact HI0.out | apply IsS65.alloc | apply IsS65.drewN | apply IsS65.drew | apply IsS65.set_0 | apply IsS65.set_1 | apply IsS65.set_2) | exact HI0.out)); (case side2 => repeat (first | (with_reducible first | exact HB.out | apply below_alloc | apply pw_below_drewN | apply below_drew1 | refine below_set ?_ (IsS65.ge HI0.out)) | exact HB.out)); rintro e w31 ⟨rfl, hi, hb, hk⟩; have n0_ := Aside0.mk (KeepBut.trans (by repeat (first | (with_reducible first | exact HK.out | apply KeepBut.set_ | apply keep_drewN | apply keep_drew | apply keep_alloc) | exact HK.out)) hk (.inl rfl)); have n1_ := Aside0.mk (hb); have n2_ := Aside0.mk (hi); clear HK; clear HB; clear HI0; have HK := n0_; have HB := n1_; have HI0 := n2_; clear n0_ n1_ n2_; (try clear hb); (try clear hb2); (try clear hk); (try clear hi))))
                                go_ret
                                exact ⟨by first | rfl | (simp [errW_none, errW_some] <;> rfl) | (simp [*, errW_none, errW_some] <;> rfl), by repeat (first | (with_reducible first | exact HI0.out | apply IsS65.alloc | apply IsS65.drewN | apply IsS65.drew | apply IsS65.set_0 | apply IsS65.set_1 | apply IsS65.set_2) | exact HI0.out), by repeat (first | (with_reducible first | exact HB.out | apply below_alloc | apply pw_below_drewN | apply below_drew1 | refine below_set ?_ (IsS65.ge HI0.out)) | exact HB.out), by repeat (first | (with_reducible first | exact HK.out | apply KeepBut.set_ | apply keep_drewN | apply keep_drew | apply keep_alloc) | exact HK.out)⟩
                            · replace c25 := Bool.eq_false_iff.mpr c25
                              subst c25
                              have H1 : (if x7_3 = 1 then (if x5_3 = 0 then (edits_scanner_number.j5 kj21 a1 x5_3 x6_2 x7_3 (((bt s0_0 x1001_3) - 48) % 256) true s0_0 x1001_3 x1002_3) else (if x6_2 = true then (if x7_3 = 0 then (edits_scanner_number.j5 kj21 a1 x5_3 x6_2 x7_3 (((bt s0_0 x1001_3) - 48) % 256) ((((bt s0_0 x1001_3) - 48) % 256) == 0) s0_0 x1001_3 x1002_3) else (edits_scanner_number.j5 kj21 a1 x5_3 x6_2 x7_3 (((bt s0_0 x1001_3) - 48) % 256) false s0_0 x1001_3 x1002_3)) else (edits_scanner_number.j5 kj21 a1 x5_3 x6_2 x7_3 (((bt s0_0 x1001_3) - 48) % 256) false s0_0 x1001_3 x1002_3))) else (if x6_2 = true then (if x7_3 = 0 then (edits_scanner_number.j5 kj21 a1 x5_3 x6_2 x7_3 (((bt s0_0 x1001_3) - 48) % 256) ((((bt s0_0 x1001_3) - 48) % 256) == 0) s0_0 x1001_3 x1002_3) else (edits_scanner_number.j5 kj21 a1 x5_3 x6_2 x7_3 (((bt s0_0 x1001_3) - 48) % 256) false s0_0 x1001_3 x1002_3)) else (edits_scanner_number.j5 kj21 a1 x5_3 x6_2 x7_3 (((bt s0_0 x1001_3) - 48) % 256) false s0_0 x1001_3 x1002_3))) = some (r1, r2, r3, r4) := by rw [if_neg (show ¬ (false = true) by decide)] at H; exact H
                              clear H
                              have H := H1
                              clear H1
                              have HC32 := Aside0.mk H
                              clear H
                              go_upto_region 11 with (fail)
                              repeat (go_quiet (fail); go_upto_region 11 with (fail))
                              go_cut [105] (fun v105 wc => ∃ (kq : Nat) (x105_31 : Bool), v105 = .bool x105_31 ∧ Aside0 (edits_scanner_number.j5 kq a1 x5_3 x6_2 x7_3 (((bt s0_0 x1001_3) - 48) % 256) x105_31 s0_0 x1001_3 x1002_3 = some (r1, r2, r3, r4)) ∧ Aside0 (kq ≤ kj21) ∧ Aside0 (IsS65 w0 wc g s0_0 x1001_3 x1002_3) ∧ Aside0 (KeepBut w wc g none) ∧ Aside0 (Below w0.heap.size w0 wc))
                              case first =>
                                have H := HC32.out
                                clear HC32
                                by_cases c33 : x7_3 = 1
                                · rw [if_pos c33] at H
                                  have c33b0 : (x7_3 == 1) = true := beq_iff_eq.mpr c33
                                  have c33b1 : (x7_3 != 1) = false := bne_eq_false_iff_eq.mpr c33
                                  clear c33
                                  (first | rw [c33b0] | (simp only [i64_w, i32_w]; rw [c33b0]) | skip)
                                  by_cases c34 : x5_3 = 0
                                  · rw [if_pos c34] at H
                                    have c34b0 : (x5_3 == 0) = true := beq_iff_eq.mpr c34
                                    have c34b1 : (x5_3 != 0) = false := bne_eq_false_iff_eq.mpr c34
                                    clear c34
                                    have H' := Aside0.mk H
                                    clear H
                                    go_wp2
                                    repeat (go_quiet (fail); try go_wp2)
                                    go_meet
                                    case rel => exact ⟨_, (true), (by first | rfl | (simp; done) | (simp [*]; done)), H', ⟨by have := HJ2.out; have := HJ10.out; have := HK3.out; have := HJ13.out; have := HJ21.out; first | omega | exact Nat.le_refl _⟩, ⟨by repeat (first | (with_reducible first | exact HI0.out | apply IsS65.alloc | apply IsS65.drewN | apply IsS65.drew | apply IsS65.set_0 | apply IsS65.set_1 | apply IsS65.set_2) | exact HI0.out)⟩, ⟨by repeat (first | (with_reducible first | exact HK.out | apply KeepBut.set_ | apply keep_drewN | apply keep_drew | apply keep_alloc) | exact HK.out)⟩, ⟨by repeat (first | (with_reducible first | exact HB.out | apply below_alloc | apply pw_below_drewN | apply below_drew1 | refine below_set ?_ (IsS65.ge HI0.out)) | exact HB.out)⟩⟩
                                  · rw [if_neg c34] at H
                                    have c34b0 : (x5_3 == 0) = false := beq_eq_false_iff_ne.mpr c34
                                    have c34b1 : (x5_3 != 0) = true := bne_iff_ne.mpr c34
                                    by_cases c35 : x6_2 = true
                                    · subst c35
                                      have H1 : (if x7_3 = 0 then (edits_scanner_number.j5 kj21 a1 x5_3 true x7_3 (((bt s0_0 x1001_3) - 48) % 256) ((((bt s0_0 x1001_3) - 48) % 256) == 0) s0_0 x1001_3 x1002_3) else (edits_scanner_number.j5 kj21 a1 x5_3 true x7_3 (((bt s0_0 x1001_3) - 48) % 256) false s0_0 x1001_3 x1002_3)) = some (r1, r2, r3, r4) := by rw [if_pos rfl] at H; exact H
                                      clear H
                                      have H := H1
                                      clear H1
                                      by_cases c36 : x7_3 = 0
                                      · rw [if_pos c36] at H
                                        have c36b0 : (x7_3 == 0) = true := beq_iff_eq.mpr c36
                                        have c36b1 : (x7_3 != 0) = false := bne_eq_false_iff_eq.mpr c36
                                        clear c36
                                        have H' := Aside0.mk H
                                        clear H
                                        go_wp2
                                        repeat (go_quiet (fail); try go_wp2)
                                        go_meet
                                        case rel => exact ⟨_, (((((bt s0_0 x1001_3) - 48) % 256) == 0)), (by first | rfl | (simp; done) | (simp [*]; done)), H', ⟨by have := HJ2.out; have := HJ10.out; have := HK3.out; have := HJ13.out; have := HJ21.out; first | omega | exact Nat.le_refl _⟩, ⟨by repeat (first | (with_reducible first | exact HI0.out | apply IsS65.alloc | apply IsS65.drewN | apply IsS65.drew | apply IsS65.set_0 | apply IsS65.set_1 | apply IsS65.set_2) | exact HI0.out)⟩, ⟨by repeat (first | (with_reducible first | exact HK.out | apply KeepBut.set_ | apply keep_drewN | apply keep_drew | apply keep_alloc) | exact HK.out)⟩, ⟨by repeat (first | (with_reducible first | exact HB.out | apply below_alloc | apply pw_below_drewN | apply below_drew1 | refine below_set ?_ (IsS65.ge HI0.out)) | exact HB.out)⟩⟩
                                      · rw [if_neg c36] at H
                                        have c36b0 : (x7_3 == 0) = false := beq_eq_false_iff_ne.mpr c36
                                        have c36b1 : (x7_3 != 0) = true := bne_iff_ne.mpr c36
                                        have H' := Aside0.mk H
                                        clear H
                                        go_wp2
                                        repeat (go_quiet (fail); try go_wp2)
                                        go_meet
                                        case rel => exact ⟨_, (false), (by first | rfl | (simp; done) | (simp [*]; done)), H', ⟨by have := HJ2.out; have := HJ10.out; have := HK3.out; have := HJ13.out; have := HJ21.out; first | omega | exact Nat.le_refl _⟩, ⟨by repeat (first | (with_reducible first | exact HI0.out | apply IsS65.alloc | apply IsS65.drewN | apply IsS65.drew | apply IsS65.set_0 | apply IsS65.set_1 | apply IsS65.set_2) | exact HI0.out)⟩, ⟨by repeat (first | (with_reducible first | exact HK.out | apply KeepBut.set_ | apply keep_drewN | apply keep_drew | apply keep_alloc) | exact HK.out)⟩, ⟨by repeat (first | (with_reducible first | exact HB.out | apply below_alloc | apply pw_below_drewN | apply below_drew1 | refine below_set ?_ (IsS65.ge HI0.out)) | exact HB.out)⟩⟩
                                    · replace c35 := Bool.eq_false_iff.mpr c35
                                      subst c35
                                      have H1 : (edits_scanner_number.j5 kj21 a1 x5_3 false x7_3 (((bt s0_0 x1001_3) - 48) % 256) false s0_0 x1001_3 x1002_3) = some (r1, r2, r3, r4) := by rw [if_neg (show ¬ (false = true) by decide)] at H; exact H
                                      clear H
                                      have H := H1
                                      clear H1
                                      have H' := Aside0.mk H
                                      clear H
                                      go_wp2
                                      repeat (go_quiet (fail); try go_wp2)
                                      go_meet
                                      case rel => exact ⟨_, (false), (by first | rfl | (simp; done) | (simp [*]; done)), H', ⟨by have := HJ2.out; have := HJ10.out; have := HK3.out; have := HJ13.out; have := HJ21.out; first | omega | exact Nat.le_refl _⟩, ⟨by repeat (first | (with_reducible first | exact HI0.out | apply IsS65.alloc | apply IsS65.drewN | apply IsS65.drew | apply IsS65.set_0 | apply IsS65.set_1 | apply IsS65.set_2) | exact HI0.out)⟩, ⟨by repeat (first | (with_reducible first | exact HK.out | apply KeepBut.set_ | apply keep_drewN | apply keep_drew | apply keep_alloc) | exact HK.out)⟩, ⟨by repeat (first | (with_reducible first | exact HB.out | apply below_alloc | apply pw_below_drewN | apply below_drew1 | refine below_set ?_ (IsS65.ge HI0.out)) | exact HB.out)⟩⟩
                                · rw [if_neg c33] at H
                                  have c33b0 : (x7_3 == 1) = false := beq_eq_false_iff_ne.mpr c33
                                  have c33b1 : (x7_3 != 1) = true := bne_iff_ne.mpr c33
                                  (first | rw [c33b0] | (simp only [i64_w, i32_w]; rw [c33b0]) | skip)
                                  by_cases c37 : x6_2 = true
                                  · subst c37
                                    have H1 : (if x7_3 = 0 then (edits_scanner_number.j5 kj21 a1 x5_3 true x7_3 (((bt s0_0 x1001_3) - 48) % 256) ((((bt s0_0 x1001_3) - 48) % 256) == 0) s0_0 x1001_3 x1002_3) else (edits_scanner_number.j5 kj21 a1 x5_3 true x7_3 (((bt s0_0 x1001_3) - 48) % 256) false s0_0 x1001_3 x1002_3)) = some (r1, r2, r3, r4) := by rw [if_pos rfl] at H; exact H
                                    clear H
                                    have H := H1
                                    clear H1
                                    by_cases c38 : x7_3 = 0
                                    · rw [if_pos c38] at H
                                      have c38b0 : (x7_3 == 0) = true := beq_iff_eq.mpr c38
                                      have c38b1 : (x7_3 != 0) = false := bne_eq_false_iff_eq.mpr c38
                                      clear c38
                                      have H' := Aside0.mk H
                                      clear H
                                      go_wp2
                                      repeat (go_quiet (fail); try go_wp2)
                                      go_meet
                                      case rel => exact ⟨_, (((((bt s0_0 x1001_3) - 48) % 256) == 0)), (by first | rfl | (simp; done) | (simp [*]; done)), H', ⟨by have := HJ2.out; have := HJ10.out; have := HK3.out; have := HJ13.out; have := HJ21.out; first | omega | exact Nat.le_refl _⟩, ⟨by repeat (first | (with_reducible first | exact HI0.out | apply IsS65.alloc | apply IsS65.drewN | apply IsS65.drew | apply IsS65.set_0 | apply IsS65.set_1 | apply IsS65.set_2) | exact HI0.out)⟩, ⟨by repeat (first | (with_reducible first | exact HK.out | apply KeepBut.set_ | apply keep_drewN | apply keep_drew | apply keep_alloc) | exact HK.out)⟩, ⟨by repeat (first | (with_reducible first | exact HB.out | apply below_alloc | apply pw_below_drewN | apply below_drew1 | refine below_set ?_ (IsS65.ge HI0.out)) | exact HB.out)⟩⟩
                                    · rw [if_neg c38] at H
                                      have c38b0 : (x7_3 == 0) = false := beq_eq_false_iff_ne.mpr c38
                                      have c38b1 : (x7_3 != 0) = true := bne_iff_ne.mpr c38
                                      have H' := Aside0.mk H
                                      clear H
                                      go_wp2
                                      repeat (go_quiet (fail); try go_wp2)
                                      go_meet
                                      case rel => exact ⟨_, (false), (by first | rfl | (simp; done) | (simp [*]; done)), H', ⟨by have := HJ2.out; have := HJ10.out; have := HK3.out; have := HJ13.out; have := HJ21.out; first | omega | exact Nat.le_refl _⟩, ⟨by repeat (first | (with_reducible first | exact HI0.out | apply IsS65.alloc | apply IsS65.drewN | apply IsS65.drew | apply IsS65.set_0 | apply IsS65.set_1 | apply IsS65.set_2) | exact HI0.out)⟩, ⟨by repeat (first | (with_reducible first | exact HK.out | apply KeepBut.set_ | apply keep_drewN | apply keep_drew | apply keep_alloc) | exact HK.out)⟩, ⟨by repeat (first | (with_reducible first | exact HB.out | apply below_alloc | apply pw_below_drewN | apply below_drew1 | refine below_set ?_ (IsS65.ge HI0.out)) | exact HB.out)⟩⟩
                                  · replace c37 := Bool.eq_false_iff.mpr c37
                                    subst c37
                                    have H1 : (edits_scanner_number.j5 kj21 a1 x5_3 false x7_3 (((bt s0_0 x1001_3) - 48) % 256) false s0_0 x1001_3 x1002_3) = some (r1, r2, r3, r4) := by rw [if_neg (show ¬ (false = true) by decide)] at H; exact H
                                    clear H
                                    have H := H1
                                    clear H1
                                    have H' := Aside0.mk H
                                    clear H
                                    go_wp2
                                    repeat (go_quiet (fail); try go_wp2)
                                    go_meet
                                    case rel => exact ⟨_, (false), (by first | rfl | (simp; done) | (simp [*]; done)), H', ⟨by have := HJ2.out; have := HJ10.out; have := HK3.out; have := HJ13.out; have := HJ21.out; first | omega | exact Nat.le_refl _⟩, ⟨by repeat (first | (with_reducible first | exact HI0.out | apply IsS65.alloc | apply IsS65.drewN | apply IsS65.drew | apply IsS65.set_0 | apply IsS65.set_1 | apply IsS65.set_2) | exact HI0.out)⟩, ⟨by repeat (first | (with_reducible first | exact HK.out | apply KeepBut.set_ | apply keep_drewN | apply keep_drew | apply keep_alloc) | exact HK.out)⟩, ⟨by repeat (first | (with_reducible first | exact HB.out | apply below_alloc | apply pw_below_drewN | apply below_drew1 | refine below_set ?_ (IsS65.ge HI0.out)) | exact HB.out)⟩⟩
                              case rest =>
                                clear HC32
                                try clear c1
                                try clear c2
                                try clear p2
                                try clear q2
                                try clear hx2
                                try clear c3
                                try clear c4
                                try clear c6
                                try clear c6b0
                                try clear p6
                                try clear c7
                                try clear c7b0
                                try clear p8
                                try clear q8
                                try clear hx8
                                try clear c12
                                try clear c15
                                try clear c18
                                try clear c19
                                try clear c19b0
                                try clear c20
                                try clear c20b0
                                try clear p21
                                try clear q21
                                try clear hx21
                                try clear c24
                                try clear c24b0
                                try clear c25
                                try clear c26
                                try clear c26b0
                                try clear c26b1
                                try clear c33
                                try clear c33b0
                                try clear c33b1
                                try clear c34
                                try clear c34b0
                                try clear c34b1
                                try clear c35
                                try clear c36
                                try clear c36b0
                                try clear c36b1
                                try clear c37
                                try clear c38
                                try clear c38b0
                                try clear c38b1
                                try clear hcz10_0
                                try clear hcz10_1
                                try clear hcz10_2
                                try clear hcz13_0
                                try clear hcz13_1
                                try clear hcz13_2
                                try clear hcz16_0
                                try clear hcz16_1
                                try clear hcz16_2
                                try clear hcz17_0
                                try clear hcz17_1
                                try clear hcz17_2
                                try clear hcz23_0
                                try clear hcz23_1
                                try clear hcz23_2
                                try clear hcz28_0
                                try clear hcz28_1
                                try clear hcz28_2
                                try clear hcz5_0
                                try clear hcz5_1
                                try clear hcz5_2
                                try clear hcz9_0
                                try clear hcz9_1
                                try clear hcz9_2
                                try clear hfz10_0
                                try clear hfz10_1
                                try clear hfz10_2
                                try clear hfz13_0
                                try clear hfz13_1
                                try clear hfz13_2
                                try clear hfz16_0
                                try clear hfz16_1
                                try clear hfz16_2
                                try clear hfz17_0
                                try clear hfz17_1
                                try clear hfz17_2
                                try clear hfz23_0
                                try clear hfz23_1
                                try clear hfz23_2
                                try clear hfz28_0
                                try clear hfz28_1
                                try clear hfz28_2
                                try clear hfz5_0
                                try clear hfz5_1
                                try clear hfz5_2
                                try clear hfz9_0
                                try clear hfz9_1
                                try clear hfz9_2
                                try clear p2
                                try clear p21
                                try clear p6
                                try clear p8
                                try clear q2
                                try clear q21
                                try clear q8
                                obtain ⟨kq, x105_31, rfl, HA, HJ31, HI0, HK, HB⟩ := hcut
                                cases kq with
                                | zero => exact absurd HA.out (by simp [edits_scanner_number.j5])
                                | succ kj31 =>
                                  have H := HA.out
                                  clear HA
                                  simp only [edits_scanner_number.j5] at H
                                  by_cases c39 : x105_31 = true
                                  · subst c39
                                    have H1 : (some (0, s0_0, x1001_3, true)) = some (r1, r2, r3, r4) := by rw [if_pos rfl] at H; exact H
                                    clear H
                                    have H := H1
                                    clear H1
                                    simp only [Option.some.injEq, Prod.mk.injEq] at H
                                    obtain ⟨rfl, rfl, rfl, rfl⟩ := H
                                    obtain ⟨HGz40, hgz40⟩ := HI0.out
                                    have hcz40_0 := cellS65_0 HGz40
                                    have hcz40_1 := cellS65_1 HGz40
                                    have hcz40_2 := cellS65_2 HGz40
                                    have hfz40_0 := blk_frozen HGz40 0
                                    have hfz40_1 := blk_frozen HGz40 1
                                    have hfz40_2 := blk_frozen HGz40 2
                                    clear HGz40 hgz40
                                    go_wp2
                                    repeat (go_quiet (fail); try go_wp2)
                                    go_ret
                                    exact ⟨by first | rfl | (simp [errW_none, errW_some] <;> rfl) | (simp [*, errW_none, errW_some] <;> rfl), by repeat (first | (with_reducible first | exact HI0.out | apply IsS65.alloc | apply IsS65.drewN | apply IsS65.drew | apply IsS65.set_0 | apply IsS65.set_1 | apply IsS65.set_2) | exact HI0.out), by repeat (first | (with_reducible first | exact HB.out | apply below_alloc | apply pw_below_drewN | apply below_drew1 | refine below_set ?_ (IsS65.ge HI0.out)) | exact HB.out), by repeat (first | (with_reducible first | exact HK.out | apply KeepBut.set_ | apply keep_drewN | apply keep_drew | apply keep_alloc) | exact HK.out)⟩
                                  · replace c39 := Bool.eq_false_iff.mpr c39
                                    subst c39
                                    have H1 : (if x6_2 = true then (if x5_3 < (wrap64 (Int.tdiv (wrap64 ((-9223372036854775808) + (((bt s0_0 x1001_3) - 48) % 256))) 10)) then (some (0, s0_0, x1001_3, true)) else (edits_scanner_number.l0 kj31 a1 (wrap64 ((wrap64 (x5_3 * 10)) - (((bt s0_0 x1001_3) - 48) % 256))) x6_2 (wrap64 (x7_3 + 1)) s0_0 (wrap64 (x1001_3 + 1)) x1002_3)) else (if x5_3 > (wrap64 (Int.tdiv (wrap64 (9223372036854775807 - (((bt s0_0 x1001_3) - 48) % 256))) 10)) then (some (0, s0_0, x1001_3, true)) else (edits_scanner_number.l0 kj31 a1 (wrap64 ((wrap64 (x5_3 * 10)) + (((bt s0_0 x1001_3) - 48) % 256))) x6_2 (wrap64 (x7_3 + 1)) s0_0 (wrap64 (x1001_3 + 1)) x1002_3))) = some (r1, r2, r3, r4) := by rw [if_neg (show ¬ (false = true) by decide)] at H; exact H
                                    clear H
                                    have H := H1
                                    clear H1
                                    by_cases c41 : x6_2 = true
                                    · subst c41
                                      have H1 : (if x5_3 < (wrap64 (Int.tdiv (wrap64 ((-9223372036854775808) + (((bt s0_0 x1001_3) - 48) % 256))) 10)) then (some (0, s0_0, x1001_3, true)) else (edits_scanner_number.l0 kj31 a1 (wrap64 ((wrap64 (x5_3 * 10)) - (((bt s0_0 x1001_3) - 48) % 256))) true (wrap64 (x7_3 + 1)) s0_0 (wrap64 (x1001_3 + 1)) x1002_3)) = some (r1, r2, r3, r4) := by rw [if_pos rfl] at H; exact H
                                      clear H
                                      have H := H1
                                      clear H1
                                      by_cases c42 : x5_3 < (wrap64 (Int.tdiv (wrap64 ((-9223372036854775808) + (((bt s0_0 x1001_3) - 48) % 256))) 10))
                                      · rw [if_pos c42] at H
                                        have c42b0 : decide (x5_3 < (wrap64 (Int.tdiv (wrap64 ((-9223372036854775808) + (((bt s0_0 x1001_3) - 48) % 256))) 10))) = true := decide_eq_true c42
                                        have c42b9 : decide (x5_3 < (Int.tdiv (-9223372036854775808 + (((bt s0_0 x1001_3) - 48) % 256)) 10)) = true := by rw [← tdiv_lo (bt256 s0_0 x1001_3)]; exact c42b0
                                        clear c42
                                        simp only [Option.some.injEq, Prod.mk.injEq] at H
                                        obtain ⟨rfl, rfl, rfl, rfl⟩ := H
                                        obtain ⟨HGz43, hgz43⟩ := HI0.out
                                        have hcz43_0 := cellS65_0 HGz43
                                        have hcz43_1 := cellS65_1 HGz43
                                        have hcz43_2 := cellS65_2 HGz43
                                        have hfz43_0 := blk_frozen HGz43 0
                                        have hfz43_1 := blk_frozen HGz43 1
                                        have hfz43_2 := blk_frozen HGz43 2
                                        clear HGz43 hgz43
                                        go_wp2
                                        repeat (go_quiet (fail); try go_wp2)
                                        go_ret
                                        exact ⟨by first | rfl | (simp [errW_none, errW_some] <;> rfl) | (simp [*, errW_none, errW_some] <;> rfl), by repeat (first | (with_reducible first | exact HI0.out | apply IsS65.alloc | apply IsS65.drewN | apply IsS65.drew | apply IsS65.set_0 | apply IsS65.set_1 | apply IsS65.set_2) | exact HI0.out), by repeat (first | (with_reducible first | exact HB.out | apply below_alloc | apply pw_below_drewN | apply below_drew1 | refine below_set ?_ (IsS65.ge HI0.out)) | exact HB.out), by repeat (first | (with_reducible first | exact HK.out | apply KeepBut.set_ | apply keep_drewN | apply keep_drew | apply keep_alloc) | exact HK.out)⟩
                                      · rw [if_neg c42] at H
                                        have c42b0 : decide (x5_3 < (wrap64 (Int.tdiv (wrap64 ((-9223372036854775808) + (((bt s0_0 x1001_3) - 48) % 256))) 10))) = false := decide_eq_false c42
                                        have c42b9 : decide (x5_3 < (Int.tdiv (-9223372036854775808 + (((bt s0_0 x1001_3) - 48) % 256)) 10)) = false := by rw [← tdiv_lo (bt256 s0_0 x1001_3)]; exact c42b0
                                        clear c42
                                        have H' := Aside0.mk H
                                        clear H
                                        obtain ⟨HGz44, hgz44⟩ := HI0.out
                                        have hcz44_0 := cellS65_0 HGz44
                                        have hcz44_1 := cellS65_1 HGz44
                                        have hcz44_2 := cellS65_2 HGz44
                                        have hfz44_0 := blk_frozen HGz44 0
                                        have hfz44_1 := blk_frozen HGz44 1
                                        have hfz44_2 := blk_frozen HGz44 2
                                        clear HGz44 hgz44
                                        go_wp2
                                        repeat (go_quiet (fail); try go_wp2)
                                        go_roundg kj31
                                        case measure => have := HJ2.out; have := HJ10.out; have := HK3.out; have := HJ13.out; have := HJ21.out; have := HJ31.out; omega
                                        case rel => exact ⟨(wrap64 ((wrap64 (x5_3 * 10)) - (((bt s0_0 x1001_3) - 48) % 256))), (wrap64 (x7_3 + 1)), (wrap64 (x1001_3 + 1)), (x1002_3), (by first | rfl | (simp; done) | (simp [*]; done)), (by first | rfl | (simp; done) | (simp [*]; done)), H', ⟨by have := HJ2.out; have := HJ10.out; have := HK3.out; have := HJ13.out; have := HJ21.out; have := HJ31.out; omega⟩, ⟨by repeat (first | (with_reducible first | exact HI0.out | apply IsS65.alloc | apply IsS65.drewN | apply IsS65.drew | apply IsS65.set_0 | apply IsS65.set_1 | apply IsS65.set_2) | exact HI0.out)⟩, ⟨by repeat (first | (with_reducible first | exact HK.out | apply KeepBut.set_ | apply keep_drewN | apply keep_drew | apply keep_alloc) | exact HK.out)⟩, ⟨by repeat (first | (with_reducible first | exact HB.out | apply below_alloc | apply pw_below_drewN | apply below_drew1 | refine below_set ?_ (IsS65.ge HI0.out)) | exact HB.out)⟩⟩
                                    · replace c41 := Bool.eq_false_iff.mpr c41
                                      subst c41
                                      have H1 : (if x5_3 > (wrap64 (Int.tdiv (wrap64 (9223372036854775807 - (((bt s0_0 x1001_3) - 48) % 256))) 10)) then (some (0, s0_0, x1001_3, true)) else (edits_scanner_number.l0 kj31 a1 (wrap64 ((wrap64 (x5_3 * 10)) + (((bt s0_0 x1001_3) - 48) % 256))) false (wrap64 (x7_3 + 1)) s0_0 (wrap64 (x1001_3 + 1)) x1002_3)) = some (r1, r2, r3, r4) := by rw [if_neg (show ¬ (false = true) by decide)] at H; exact H
                                      clear H
                                      have H := H1
                                      clear H1
                                      by_cases c45 : x5_3 > (wrap64 (Int.tdiv (wrap64 (9223372036854775807 - (((bt s0_0 x1001_3) - 48) % 256))) 10))
                                      · rw [if_pos c45] at H
                                        have c45b0 : decide ((wrap64 (Int.tdiv (wrap64 (9223372036854775807 - (((bt s0_0 x1001_3) - 48) % 256))) 10)) < x5_3) = true := decide_eq_true c45
                                        have c45b9 : decide (((9223372036854775807 - (((bt s0_0 x1001_3) - 48) % 256)) / 10) < x5_3) = true := by rw [← tdiv_hi (bt256 s0_0 x1001_3)]; exact c45b0
                                        clear c45
                                        simp only [Option.some.injEq, Prod.mk.injEq] at H
                                        obtain ⟨rfl, rfl, rfl, rfl⟩ := H
                                        obtain ⟨HGz46, hgz46⟩ := HI0.out
                                        have hcz46_0 := cellS65_0 HGz46
                                        have hcz46_1 := cellS65_1 HGz46
                                        have hcz46_2 := cellS65_2 HGz46
                                        have hfz46_0 := blk_frozen HGz46 0
                                        have hfz46_1 := blk_frozen HGz46 1
                                        have hfz46_2 := blk_frozen HGz46 2
                                        clear HGz46 hgz46
                                        go_wp2
                                        repeat (go_quiet (fail); try go_wp2)
                                        go_ret
                                        exact ⟨by first | rfl | (simp [errW_none, errW_some] <;> rfl) | (simp [*, errW_none, errW_some] <;> rfl), by repeat (first | (with_reducible first | exact HI0.out | apply IsS65.alloc | apply IsS65.drewN | apply IsS65.drew | apply IsS65.set_0 | apply IsS65.set_1 | apply IsS65.set_2) | exact HI0.out), by repeat (first | (with_reducible first | exact HB.out | apply below_alloc | apply pw_below_drewN | apply below_drew1 | refine below_set ?_ (IsS65.ge HI0.out)) | exact HB.out), by repeat (first | (with_reducible first | exact HK.out | apply KeepBut.set_ | apply keep_drewN | apply keep_drew | apply keep_alloc) | exact HK.out)⟩
                                      · rw [if_neg c45] at H
                                        have c45b0 : decide ((wrap64 (Int.tdiv (wrap64 (9223372036854775807 - (((bt s0_0 x1001_3) - 48) % 256))) 10)) < x5_3) = false := decide_eq_false c45
                                        have c45b9 : decide (((9223372036854775807 - (((bt s0_0 x1001_3) - 48) % 256)) / 10) < x5_3) = false := by rw [← tdiv_hi (bt256 s0_0 x1001_3)]; exact c45b0
                                        clear c45
                                        have H' := Aside0.mk H
                                        clear H
                                        obtain ⟨HGz47, hgz47⟩ := HI0.out
                                        have hcz47_0 := cellS65_0 HGz47
                                        have hcz47_1 := cellS65_1 HGz47
                                        have hcz47_2 := cellS65_2 HGz47
                                        have hfz47_0 := blk_frozen HGz47 0
                                        have hfz47_1 := blk_frozen HGz47 1
                                        have hfz47_2 := blk_frozen HGz47 2
                                        clear HGz47 hgz47
                                        go_wp2
                                        repeat (go_quiet (fail); try go_wp2)
                                        go_roundg kj31
                                        case measure => have := HJ2.out; have := HJ10.out; have := HK3.out; have := HJ13.out; have := HJ21.out; have := HJ31.out; omega
                                        case rel => exact ⟨(wrap64 ((wrap64 (x5_3 * 10)) + (((bt s0_0 x1001_3) - 48) % 256))), (wrap64 (x7_3 + 1)), (wrap64 (x1001_3 + 1)), (x1002_3), (by first | rfl | (simp; done) | (simp [*]; done)), (by first | rfl | (simp; done) | (simp [*]; done)), H', ⟨by have := HJ2.out; have := HJ10.out; have := HK3.out; have := HJ13.out; have := HJ21.out; have := HJ31.out; omega⟩, ⟨by repeat (first | (with_reducible first | exact HI0.out | apply IsS65.alloc | apply IsS65.drewN | apply IsS65.drew | apply IsS65.set_0 | apply IsS65.set_1 | apply IsS65.set_2) | exact HI0.out)⟩, ⟨by repeat (first | (with_reducible first | exact HK.out | apply KeepBut.set_ | apply keep_drewN | apply keep_drew | apply keep_alloc) | exact HK.out)⟩, ⟨by repeat (first | (with_reducible first | exact HB.out | apply below_alloc | apply pw_below_drewN | apply below_drew1 | refine below_set ?_ (IsS65.ge HI0.out)) | exact HB.out)⟩⟩
                      · rw [if_neg c20] at H
                        exact absurd H (by simp)
                    · rw [if_neg c19] at H
                      exact absurd H (by simp)
                  · replace c18 := Bool.eq_false_iff.mpr c18
                    subst c18
                    have H1 : (if x7_3 = 0 then ((edits_scanner_byte.f s0_0 x1001_3 true a1).bind fun bt179 => (some (x5_3, bt179.1, bt179.2.1, bt179.2.2))) else ((edits_scanner_byte.f s0_0 x1001_3 x1002_3 a1).bind fun bt182 => (some (x5_3, bt182.1, bt182.2.1, bt182.2.2)))) = some (r1, r2, r3, r4) := by rw [if_neg (show ¬ (false = true) by decide)] at H; exact H
                    clear H
                    have H := H1
                    clear H1
                    by_cases c48 : x7_3 = 0
                    · rw [if_pos c48] at H
                      have c48b0 : (x7_3 == 0) = true := beq_iff_eq.mpr c48
                      have c48b1 : (x7_3 != 0) = false := bne_eq_false_iff_eq.mpr c48
                      clear c48
                      replace H := Option.bind_eq_some_iff.mp H
                      obtain ⟨⟨t179, t180, t181⟩, A490, H⟩ := H
                      replace H : (some (x5_3, t179, t180, t181)) = some (r1, r2, r3, r4) := H
                      have A49 := Aside0.mk A490
                      clear A490
                      simp only [Option.some.injEq, Prod.mk.injEq] at H
                      obtain ⟨rfl, rfl, rfl, rfl⟩ := H
                      obtain ⟨HGz50, hgz50⟩ := HI0.out
                      have hcz50_0 := cellS65_0 HGz50
                      have hcz50_1 := cellS65_1 HGz50
                      have hcz50_2 := cellS65_2 HGz50
                      have hfz50_0 := blk_frozen HGz50 0
                      have hfz50_1 := blk_frozen HGz50 1
                      have hfz50_2 := blk_frozen HGz50 2
                      clear HGz50 hgz50
                      go_wp2_with (first | (go_at_call 32; (with_reducible refine (edits_scanner_byte.calls g s0_0 x1001_3 true a1 t179 t180 t181 w0 _ ?side1 ?side2 A49.out).mono ?_); (case side1 => repeat (first | (with_reducible first | exact HI0.out | apply IsS65.alloc | apply IsS65.drewN | apply IsS65.drew | apply IsS65.set_0 | apply IsS65.set_1 | apply IsS65.set_2) | exact HI0.out)); (case side2 => repeat (first | (with_reducible first | exact HB.out | apply below_alloc | apply pw_below_drewN | apply below_drew1 | refine below_set ?_ (IsS65.ge HI0.out)) | exact HB.out)); rintro e w51 ⟨rfl, hi, hb, hk⟩; have n0_ := Aside0.mk (KeepBut.trans (by repeat (first | (with_reducible first | exact HK.out | apply KeepBut.set_ | apply keep_drewN | apply keep_drew | apply keep_alloc) | exact HK.out)) hk (.inl rfl)); have n1_ := Aside0.mk (hb); have n2_ := Aside0.mk (hi); clear HK; clear HB; clear HI0; have HK := n0_; have HB := n1_; have HI0 := n2_; clear n0_ n1_ n2_; (try clear hb); (try clear hb2); (try clear hk); (try clear hi)))
                      repeat (go_quiet (first | (go_at_call 32; (with_reducible refine (edits_scanner_byte.calls g s0_0 x1001_3 true a1 t179 t180 t181 w0 _ ?side1 ?side2 A49.out).mono ?_); (case side1 => repeat (first | (with_reducible first | exact HI0.out | apply IsS65.alloc | apply IsS65.drewN | apply IsS65.drew | apply IsS65.set_0 | apply IsS65.set_1 | apply IsS65.set_2) | exact HI0.out)); (case side2 => repeat (first | (with_reducible first | exact HB.out | apply below_alloc | apply pw_below_drewN | apply below_drew1 | refine below_set ?_ (IsS65.ge HI0.out)) | exact HB.out)); rintro e w51 ⟨rfl, hi, hb, hk⟩; have n0_ := Aside0.mk (KeepBut.trans (by repeat (first | (with_reducible first | exact HK.out | apply KeepBut.set_ | apply keep_drewN | apply keep_drew | apply keep_alloc) | exact HK.out)) hk (.inl rfl)); have n1_ := Aside0.mk (hb); have n2_ := Aside0.mk (hi); clear HK; clear HB; clear HI0; have HK := n0_; have HB := n1_; have HI0 := n2_; clear n0_ n1_ n2_; (try clear hb); (try clear hb2); (try clear hk); (try clear hi))); try go_wp2_with (first | (go_at_call 32; (with_reducible refine (edits_scanner_byte.calls g s0_0 x1001_3 true a1 t179 t180 t181 w0 _ ?side1 ?side2 A49.out).mono ?_); (case side1 => repeat (first | (with_reducible first | exact HI0.out | apply IsS65.alloc | apply IsS65.drewN | apply IsS65.drew | apply IsS65.set_0 | apply IsS65.set_1 | apply IsS65.set_2) | exact HI0.out)); (case side2 => repeat (first | (with_reducible first | exact HB.out | apply below_alloc | apply pw_below_drewN | apply below_drew1 | refine below_set ?_ (IsS65.ge HI0.out)) | exact HB.out)); rintro e w51 ⟨rfl, hi, hb, hk⟩; have n0_ := Aside0.mk (KeepBut.trans (by repeat (first | (with_reducible first | exact HK.out | apply KeepBut.set_ | apply keep_drewN | apply keep_drew | apply keep_alloc) | exact HK.out)) hk (.inl rfl)); have n1_ := Aside0.mk (hb); have n2_ := Aside0.mk (hi); clear HK; clear HB; clear HI0; have HK := n0_; have HB := n1_; have HI0 := n2_; clear n0_ n1_ n2_; (try clear hb); (try clear hb2); (try clear hk); (try clear hi))))
                      go_ret
                      exact ⟨by first | rfl | (simp [errW_none, errW_some] <;> rfl) | (simp [*, errW_none, errW_some] <;> rfl), by repeat (first | (with_reducible first | exact HI0.out | apply IsS65.alloc | apply IsS65.drewN | apply IsS65.drew | apply IsS65.set_0 | apply IsS65.set_1 | apply IsS65.set_2) | exact HI0.out), by repeat (first | (with_reducible first | exact HB.out | apply below_alloc | apply pw_below_drewN | apply below_drew1 | refine below_set ?_ (IsS65.ge HI0.out)) | exact HB.out), by repeat (first | (with_reducible first | exact HK.out | apply KeepBut.set_ | apply keep_drewN | apply keep_drew | apply keep_alloc) | exact HK.out)⟩
                    · rw [if_neg c48] at H
                      have c48b0 : (x7_3 == 0) = false := beq_eq_false_iff_ne.mpr c48
                      have c48b1 : (x7_3 != 0) = true := bne_iff_ne.mpr c48
                      replace H := Option.bind_eq_some_iff.mp H
                      obtain ⟨⟨t182, t183, t184⟩, A520, H⟩ := H
                      replace H : (some (x5_3, t182, t183, t184)) = some (r1, r2, r3, r4) := H
                      have A52 := Aside0.mk A520
                      clear A520
                      simp only [Option.some.injEq, Prod.mk.injEq] at H
                      obtain ⟨rfl, rfl, rfl, rfl⟩ := H
                      go_wp2_with (first | (go_at_call 32; (with_reducible refine (edits_scanner_byte.calls g s0_0 x1001_3 x1002_3 a1 t182 t183 t184 w0 _ ?side1 ?side2 A52.out).mono ?_); (case side1 => repeat (first | (with_reducible first | exact HI0.out | apply IsS65.alloc | apply IsS65.drewN | apply IsS65.drew | apply IsS65.set_0 | apply IsS65.set_1 | apply IsS65.set_2) | exact HI0.out)); (case side2 => repeat (first | (with_reducible first | exact HB.out | apply below_alloc | apply pw_below_drewN | apply below_drew1 | refine below_set ?_ (IsS65.ge HI0.out)) | exact HB.out)); rintro e w53 ⟨rfl, hi, hb, hk⟩; have n0_ := Aside0.mk (KeepBut.trans (by repeat (first | (with_reducible first | exact HK.out | apply KeepBut.set_ | apply keep_drewN | apply keep_drew | apply keep_alloc) | exact HK.out)) hk (.inl rfl)); have n1_ := Aside0.mk (hb); have n2_ := Aside0.mk (hi); clear HK; clear HB; clear HI0; have HK := n0_; have HB := n1_; have HI0 := n2_; clear n0_ n1_ n2_; (try clear hb); (try clear hb2); (try clear hk); (try clear hi)))
                      repeat (go_quiet (first | (go_at_call 32; (with_reducible refine (edits_scanner_byte.calls g s0_0 x1001_3 x1002_3 a1 t182 t183 t184 w0 _ ?side1 ?side2 A52.out).mono ?_); (case side1 => repeat (first | (with_reducible first | exact HI0.out | apply IsS65.alloc | apply IsS65.drewN | apply IsS65.drew | apply IsS65.set_0 | apply IsS65.set_1 | apply IsS65.set_2) | exact HI0.out)); (case side2 => repeat (first | (with_reducible first | exact HB.out | apply below_alloc | apply pw_below_drewN | apply below_drew1 | refine below_set ?_ (IsS65.ge HI0.out)) | exact HB.out)); rintro e w53 ⟨rfl, hi, hb, hk⟩; have n0_ := Aside0.mk (KeepBut.trans (by repeat (first | (with_reducible first | exact HK.out | apply KeepBut.set_ | apply keep_drewN | apply keep_drew | apply keep_alloc) | exact HK.out)) hk (.inl rfl)); have n1_ := Aside0.mk (hb); have n2_ := Aside0.mk (hi); clear HK; clear HB; clear HI0; have HK := n0_; have HB := n1_; have HI0 := n2_; clear n0_ n1_ n2_; (try clear hb); (try clear hb2); (try clear hk); (try clear hi))); try go_wp2_with (first | (go_at_call 32; (with_reducible refine (edits_scanner_byte.calls g s0_0 x1001_3 x1002_3 a1 t182 t183 t184 w0 _ ?side1 ?side2 A52.out).mono ?_); (case side1 => repeat (first | (with_reducible first | exact HI0.out | apply IsS65.alloc | apply IsS65.drewN | apply IsS65.drew | apply IsS65.set_0 | apply IsS65.set_1 | apply IsS65.set_2) | exact HI0.out)); (case side2 => repeat (first | (with_reducible first | exact HB.out | apply below_alloc | apply pw_below_drewN | apply below_drew1 | refine below_set ?_ (IsS65.ge HI0.out)) | exact HB.out)); rintro e w53 ⟨rfl, hi, hb, hk⟩; have n0_ := Aside0.mk (KeepBut.trans (by repeat (first | (with_reducible first | exact HK.out | apply KeepBut.set_ | apply keep_drewN | apply keep_drew | apply keep_alloc) | exact HK.out)) hk (.inl rfl)); have n1_ := Aside0.mk (hb); have n2_ := Aside0.mk (hi); clear HK; clear HB; clear HI0; have HK := n0_; have HB := n1_; have HI0 := n2_; clear n0_ n1_ n2_; (try clear hb); (try clear hb2); (try clear hk); (try clear hi))))
                      go_ret
                      exact ⟨by first | rfl | (simp [errW_none, errW_some] <;> rfl) | (simp [*, errW_none, errW_some] <;> rfl), by repeat (first | (with_reducible first | exact HI0.out | apply IsS65.alloc | apply IsS65.drewN | apply IsS65.drew | apply IsS65.set_0 | apply IsS65.set_1 | apply IsS65.set_2) | exact HI0.out), by repeat (first | (with_reducible first | exact HB.out | apply below_alloc | apply pw_below_drewN | apply below_drew1 | refine below_set ?_ (IsS65.ge HI0.out)) | exact HB.out), by repeat (first | (with_reducible first | exact HK.out | apply KeepBut.set_ | apply keep_drewN | apply keep_drew | apply keep_alloc) | exact HK.out)⟩

end Go.Proofs.YtaihajmdngoeiaaDoor.F
