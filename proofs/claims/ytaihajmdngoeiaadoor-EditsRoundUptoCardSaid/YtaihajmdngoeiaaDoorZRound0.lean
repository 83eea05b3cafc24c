/- Texts of the proof of one law (Round), part 0: functions printed as Lean functions with their walks, and what is proved of them. Conditions: those of each theorem. -/
import Derived.Lib.ItoaLen
import Derived.Sort.Walk0
import Derived.Test.YtaihajmdngoeiaaDoorProg
import Derived.Below
import Derived.Deep.Draws
import Derived.Deep.AppendLies
import Derived.Maps.AppendAt
import Derived.OwnWalk
import Derived.Laws.BytesArg
import Derived.Laws.MakeOwn
import Derived.Laws.OwnMore
import Derived.Deep.OwnRows
import Derived.Tactics
import Derived.Lib.ConvBytes
import Derived.Laws.Slices
import Derived.WalkKit
import Derived.KernelRfl
import Derived.RowKit3
import Derived.Deep.LoopGhost
import Derived.Deep.QuietTactic
import Derived.BigQuiet
import Derived.WideLaws
import Derived.Deep.DeepCutAuto
import Derived.Deep.CutBlock
import Derived.Deep.RegionHeld3
import Derived.Laws.Rows
import Derived.Lib.AppendStr
import Derived.ArgAppend
import Derived.Laws.IdiomCopy
import Derived.OrdersHeld
import Derived.Laws.BitsLemmas
import Derived.WalkMore
import Derived.RowKit
import Derived.Test.YtaihajmdngoeiaaDoorWWords
import Derived.Test.YtaihajmdngoeiaaDoorWLast
import Derived.Test.YtaihajmdngoeiaaDoorWTab
import Derived.Test.YtaihajmdngoeiaaDoorWFour
import Derived.Test.YtaihajmdngoeiaaDoorWQPut
import Derived.Test.YtaihajmdngoeiaaDoorWApart
import Derived.Test.YtaihajmdngoeiaaDoorWArr
import Derived.Test.YtaihajmdngoeiaaDoorWZeros
import Derived.Test.YtaihajmdngoeiaaDoorWFoot
import Derived.Test.YtaihajmdngoeiaaDoorWKept
import Derived.Test.YtaihajmdngoeiaaDoorWShare
import Derived.Test.YtaihajmdngoeiaaDoorWN
import Derived.Test.YtaihajmdngoeiaaDoorWFootNe
import Derived.Test.YtaihajmdngoeiaaDoorWAt
import Derived.Test.YtaihajmdngoeiaaDoorWEqStruct
import Derived.Test.YtaihajmdngoeiaaDoorWRepsOne
import Derived.Test.YtaihajmdngoeiaaDoorWInv
import Derived.Test.YtaihajmdngoeiaaDoorWInvWords
import Derived.Test.YtaihajmdngoeiaaDoorWGuard
import Derived.Test.YtaihajmdngoeiaaDoorWNEv
import Derived.Test.YtaihajmdngoeiaaDoorWMore
import Derived.Shelf.Strconv.Atoi
import Derived.Shelf.Strconv.Itoa0
import Derived.Shelf.Strconv.Itoa1
import Derived.Shelf.LaysM
import Derived.Shelf.Strconv.Itoa2
import Derived.Shelf.Strconv.Itoa3
import Derived.Shelf.Strconv.AtoiErrFast
import Derived.Shelf.Strconv.ParseIntEmpty
import Derived.Shelf.Strconv.AtoiFail
import Derived.Shelf.Strconv.Clone
import Derived.Shelf.Strconv.SyntaxError
import Derived.Shelf.LaysC
import Derived.Shelf.Strconv.ToError
import Derived.Shelf.Strconv.Lower
import Derived.Shelf.Strconv.ParseUint10
import Derived.Shelf.Strconv.ParseUint10Empty
import Derived.Shelf.Strconv.ParseUint10Any
import Derived.Shelf.Strconv.ParseInt10
import Derived.Shelf.Strconv.AtoiLong
import Derived.Shelf.Strconv.AtoiInnerAll
import Derived.Shelf.Strconv.RangeError
import Derived.Shelf.Strconv.ToErrorRange
import Derived.Shelf.Strconv.AtoiAll
import Derived.Shelf.Strconv.AppendUint10
import Derived.Shelf.Strconv.AppendInt10
import Derived.Shelf.Strconv.AppendIntPublic10
import Derived.Lib.AtoiErrMem
namespace Go.Proofs.YtaihajmdngoeiaaDoor.Q
set_option linter.unusedVariables false
set_option linter.unusedSimpArgs false

/-- How far a number has been read: nothing, a minus alone, or digits that spell m. -/
inductive NS where
  | start
  | minus
  | num (neg : Bool) (m : Int)
  deriving DecidableEq

def lim (neg : Bool) : Int := if neg then 9223372036854775808 else 9223372036854775807
def NS.step : NS → Int → Option NS
  | .start, c => if c = 45 then some .minus else if 48 ≤ c ∧ c ≤ 57 then some (.num false (c - 48)) else none
  | .minus, c => if 49 ≤ c ∧ c ≤ 57 then some (.num true (c - 48)) else none
  | .num neg m, c => if 48 ≤ c ∧ c ≤ 57 ∧ m ≠ 0 ∧ m * 10 + (c - 48) ≤ lim neg then some (.num neg (m * 10 + (c - 48))) else none
def NS.run : NS → List Int → Option NS
  | s, [] => some s
  | s, c :: r => (s.step c).bind fun t => t.run r
theorem run_append (a b : List Int) : ∀ s : NS, s.run (a ++ b) = (s.run a).bind fun t => t.run b := by
  induction a with
  | nil => intro s; rfl
  | cons c a ih =>
    intro s
    simp only [List.cons_append, NS.run]
    cases s.step c with
    | none => rfl
    | some t => exact ih t
theorem run_one (s : NS) (c : Int) : s.run [c] = s.step c := by
  simp only [NS.run]
  cases s.step c <;> rfl
theorem run_snoc (s : NS) (a : List Int) (c : Int) : s.run (a ++ [c]) = (s.run a).bind fun t => t.step c := by
  rw [run_append]
  congr 1
  funext t
  exact run_one t c
def sgn (neg : Bool) (m : Int) : Int := if neg then -m else m
def ints (l : List UInt8) : List Int := l.map fun b => (b.toNat : Int)
def itoaI (n : Int) : List Int := ints (Lib.itoa n)
def dec (u : Nat) : List Int := ints (Lib.decDigits u)
theorem dec_small {u : Nat} (h : u < 10) : dec u = [48 + (u : Int)] := by
  unfold dec ints
  rw [Lib.decDigits, dif_pos h]
  simp only [List.map_cons, List.map_nil]
  congr 1
  rw [UInt8.toNat_ofNat']
  omega
theorem dec_big {u : Nat} (h : ¬ u < 10) : dec u = dec (u / 10) ++ [48 + ((u % 10 : Nat) : Int)] := by
  unfold dec ints
  rw [Lib.decDigits, dif_neg h, List.map_append]
  simp only [List.map_cons, List.map_nil]
  congr 2
  rw [UInt8.toNat_ofNat']
  omega
theorem dec_run : ∀ (u : Nat), (u : Int) ≤ lim false → NS.start.run (dec u) = some (.num false u) := by
  intro u
  induction u using Nat.strongRecOn with
  | _ u ih =>
    intro hl
    simp only [lim, Bool.false_eq_true, if_false] at hl
    by_cases h : u < 10
    · rw [dec_small h, run_one]
      simp only [NS.step]
      rw [if_neg (by omega), if_pos (by omega)]
      congr 2
      omega
    · rw [dec_big h, run_snoc, ih (u / 10) (by omega) (by simp only [lim, Bool.false_eq_true, if_false]; omega)]
      simp only [Option.bind_some, NS.step, lim, Bool.false_eq_true, if_false]
      rw [if_pos (by omega)]
      congr 2
      omega
theorem dec_run_minus : ∀ (u : Nat), 0 < u → (u : Int) ≤ lim true → NS.minus.run (dec u) = some (.num true u) := by
  intro u
  induction u using Nat.strongRecOn with
  | _ u ih =>
    intro h0 hl
    simp only [lim, if_true] at hl
    by_cases h : u < 10
    · rw [dec_small h, run_one]
      simp only [NS.step]
      rw [if_pos (by omega)]
      congr 2
      omega
    · rw [dec_big h, run_snoc, ih (u / 10) (by omega) (by omega) (by simp only [lim, if_true]; omega)]
      simp only [Option.bind_some, NS.step, lim, if_true]
      rw [if_pos (by omega)]
      congr 2
      omega
def isI64 (n : Int) : Prop := -9223372036854775808 ≤ n ∧ n ≤ 9223372036854775807
theorem itoaI_neg (n : Int) (h : n < 0) : itoaI n = 45 :: dec n.natAbs := by
  unfold itoaI Lib.itoa
  rw [if_pos h]
  rfl
theorem itoaI_pos (n : Int) (h : ¬ n < 0) : itoaI n = dec n.toNat := by
  unfold itoaI Lib.itoa
  rw [if_neg h]
  rfl
/-- A written number is read. -/
theorem itoa_run (n : Int) (h : isI64 n) : NS.start.run (itoaI n) = some (.num (decide (n < 0)) (n.natAbs : Int)) := by
  obtain ⟨h0, h1⟩ := h
  by_cases hn : n < 0
  · rw [itoaI_neg n hn]
    simp only [NS.run, NS.step, if_true, Option.bind_some]
    rw [dec_run_minus n.natAbs (by omega) (by simp only [lim, if_true]; omega)]
    simp [hn]
  · rw [itoaI_pos n hn, dec_run n.toNat (by simp only [lim, Bool.false_eq_true, if_false]; omega)]
    simp only [hn, decide_false]
    congr 2
    omega
theorem sgn_abs (n : Int) : sgn (decide (n < 0)) (n.natAbs : Int) = n := by
  unfold sgn
  by_cases h : n < 0 <;> simp [h] <;> omega
/-- What is read is a written number. -/
theorem run_back : ∀ (k : Nat) (t : List Int) (s : NS), t.length = k → NS.start.run t = some s →
    match s with
    | .start => t = []
    | .minus => t = [45]
    | .num neg m => t = itoaI (sgn neg m) ∧ 0 ≤ m ∧ m ≤ lim neg ∧ (neg = true → 0 < m) := by
  intro k
  induction k with
  | zero =>
    intro t s hk h
    obtain rfl := List.eq_nil_of_length_eq_zero hk
    simp only [NS.run] at h
    injection h with h
    subst h
    rfl
  | succ k ih =>
    intro t s hk h
    have hne : t ≠ [] := by intro e; rw [e] at hk; simp at hk
    obtain ⟨a, c, rfl⟩ : ∃ a c, t = a ++ [c] := ⟨t.dropLast, t.getLast hne, (List.dropLast_concat_getLast hne).symm⟩
    rw [run_snoc] at h
    cases ha : NS.start.run a with
    | none => rw [ha] at h; cases h
    | some q =>
      rw [ha] at h
      simp only [Option.bind_some] at h
      have hi := ih a q (by simp at hk; omega) ha
      cases q with
      | start =>
        subst hi
        simp only [NS.step] at h
        split at h
        · next e => injection h with h; subst h; subst e; rfl
        · split at h
          · next e2 =>
            injection h with h
            subst h
            refine ⟨?_, by omega, by simp only [lim, Bool.false_eq_true, if_false]; omega, by simp⟩
            rw [show sgn false (c - 48) = c - 48 from rfl, itoaI_pos _ (by omega), dec_small (by omega)]
            simp
            omega
          · cases h
      | minus =>
        subst hi
        simp only [NS.step] at h
        split at h
        · next e2 =>
          injection h with h
          subst h
          refine ⟨?_, by omega, by simp only [lim, if_true]; omega, fun _ => by omega⟩
          rw [show sgn true (c - 48) = -(c - 48) from rfl, itoaI_neg _ (by omega), dec_small (by omega)]
          simp
          omega
        · cases h
      | num neg m =>
        obtain ⟨i1, i2, i3, i4⟩ := hi
        simp only [NS.step] at h
        split at h
        · next e2 =>
          obtain ⟨e3, e4, e5, e6⟩ := e2
          injection h with h
          subst h
          refine ⟨?_, by omega, e6, fun _ => by omega⟩
          subst i1
          cases neg with
          | false =>
            rw [show sgn false m = m from rfl, show sgn false (m * 10 + (c - 48)) = m * 10 + (c - 48) from rfl, itoaI_pos _ (by omega), itoaI_pos _ (by omega), dec_big (u := (m * 10 + (c - 48)).toNat) (by omega)]
            congr 2
            · congr 1; omega
            · omega
          | true =>
            rw [show sgn true m = -m from rfl, show sgn true (m * 10 + (c - 48)) = -(m * 10 + (c - 48)) from rfl, itoaI_neg _ (by omega), itoaI_neg _ (by omega), dec_big (u := (-(m * 10 + (c - 48))).natAbs) (by omega)]
            rw [List.cons_append]
            congr 3
            · congr 1; omega
            · omega
        · cases h
theorem run_num {t : List Int} {neg : Bool} {m : Int} (h : NS.start.run t = some (.num neg m)) : t = itoaI (sgn neg m) ∧ 0 ≤ m ∧ m ≤ lim neg ∧ (neg = true → 0 < m) := run_back _ t _ rfl h
theorem num_i64 {t : List Int} {neg : Bool} {m : Int} (h : NS.start.run t = some (.num neg m)) : isI64 (sgn neg m) := by
  obtain ⟨_, h0, h1, h2⟩ := run_num h
  unfold isI64
  cases neg <;> simp only [lim, sgn, if_true, if_false, Bool.false_eq_true] at * <;> omega
end Go.Proofs.YtaihajmdngoeiaaDoor.Q

namespace Go.Proofs.YtaihajmdngoeiaaDoor.Q
set_option linter.unusedVariables false
set_option linter.unusedSimpArgs false

def Digs (l : List Int) : Prop := ∀ c ∈ l, 48 ≤ c ∧ c ≤ 57
instance decDigs (l : List Int) : Decidable (Digs l) := inferInstanceAs (Decidable (∀ c ∈ l, 48 ≤ c ∧ c ≤ 57))
theorem Digs.cons {c : Int} {l : List Int} : Digs (c :: l) ↔ (48 ≤ c ∧ c ≤ 57) ∧ Digs l := by simp [Digs]
end Go.Proofs.YtaihajmdngoeiaaDoor.Q

namespace Go.Proofs.YtaihajmdngoeiaaDoor.Q
set_option linter.unusedVariables false
set_option linter.unusedSimpArgs false

/-- What a reader finds at a place: something, and what is left; or a fault, and what stands there. -/
inductive Res (α : Type) where
  | ok (v : α) (r : List Int)
  | bad (r : List Int)
def Res.then {α β : Type} (x : Res α) (f : α → List Int → Res β) : Res β := match x with | .ok v r => f v r | .bad r => .bad r
/-- A reader takes what stands there, whatever stands behind, and finds a fault at the end of a part of it. -/
def Good {α : Type} (P : List Int → Res α) : Prop :=
  ∀ l v r, P l = .ok v r → ∃ c, l = c ++ r ∧ (∀ r', P (c ++ r') = .ok v r') ∧ ∀ q d, c = q ++ d → d ≠ [] → P q = .bad []
theorem Good.then {α β : Type} {P : List Int → Res α} {Q : α → List Int → Res β} (hP : Good P) (hQ : ∀ v, Good (Q v)) : Good fun l => (P l).then Q := by
  intro l v r h
  replace h : (P l).then Q = .ok v r := h
  cases hp : P l with
  | bad x => rw [hp] at h; simp [Res.then] at h
  | ok u x =>
    rw [hp] at h
    simp only [Res.then] at h
    obtain ⟨c, rfl, h1, h2⟩ := hP l u x hp
    obtain ⟨d, rfl, h3, h4⟩ := hQ u x v r h
    refine ⟨c ++ d, by simp, fun r' => ?_, fun q e he hne => ?_⟩
    · simp only [List.append_assoc]
      rw [h1]
      simp only [Res.then]
      exact h3 r'
    · rcases List.append_eq_append_iff.1 he with ⟨a, rfl, ha⟩ | ⟨a, ha, hb⟩
      · simp only []
        rw [h1]
        simp only [Res.then]
        exact h4 a e ha hne
      · by_cases hz : a = []
        · subst hz
          simp at ha hb
          subst ha
          have := h1 []
          simp at this
          simp only []
          rw [this]
          simp only [Res.then]
          exact h4 [] e (by simp [hb]) hne
        · simp only []
          rw [h2 q a ha hz]
          rfl

def NS.isNum : NS → Bool | .num _ _ => true | _ => false
def NS.val : NS → Int | .num n m => sgn n m | _ => 0
/-- A number, and the byte e behind it. -/
def takeL (e : Int) : NS → List Int → Res Int
  | s, [] => .bad []
  | s, c :: r => if s.isNum = true ∧ c = e then .ok s.val r else match s.step c with | none => .bad (c :: r) | some t => takeL e t r
theorem takeL_good (e : Int) : ∀ (s : NS), Good (takeL e s) := by
  have : ∀ (l : List Int) (s : NS) v r, takeL e s l = .ok v r → ∃ c, l = c ++ r ∧ (∀ r', takeL e s (c ++ r') = .ok v r') ∧ ∀ q d, c = q ++ d → d ≠ [] → takeL e s q = .bad [] := by
    intro l
    induction l with
    | nil => intro s v r h; simp [takeL] at h
    | cons c l ih =>
      intro s v r h
      simp only [takeL] at h
      split at h
      · next hc =>
        injection h with h1 h2
        subst h1; subst h2
        refine ⟨[c], rfl, fun r' => by simp only [List.cons_append, List.nil_append, takeL]; rw [if_pos hc], fun q d hq hd => ?_⟩
        cases q with
        | nil => rfl
        | cons x q =>
          rw [List.cons_append] at hq
          injection hq with _ hq
          have := List.append_eq_nil_iff.1 hq.symm
          exact absurd this.2 hd
      · next hc =>
        cases hs : s.step c with
        | none => rw [hs] at h; cases h
        | some t =>
          rw [hs] at h
          obtain ⟨x, rfl, h1, h2⟩ := ih t v r h
          refine ⟨c :: x, rfl, fun r' => ?_, fun q d hq hd => ?_⟩
          · simp only [List.cons_append, takeL]
            rw [if_neg hc, hs]
            exact h1 r'
          · cases q with
            | nil => rfl
            | cons y q =>
              rw [List.cons_append] at hq
              injection hq with hy hq
              subst hy
              simp only [takeL]
              rw [if_neg hc, hs]
              exact h2 q d hq hd
  intro s l v r h
  exact this l s v r h
theorem takeL_run (e : Int) (he : ¬(48 ≤ e ∧ e ≤ 57) ∧ e ≠ 45) : ∀ (t : List Int) (s : NS) (neg : Bool) (m : Int) (r : List Int), s.run t = some (.num neg m) → takeL e s (t ++ e :: r) = .ok (sgn neg m) r
  | [], s, neg, m, r, h => by
    simp only [NS.run] at h
    injection h with h
    subst h
    simp [takeL, NS.isNum, NS.val]
  | c :: t, s, neg, m, r, h => by
    simp only [NS.run] at h
    cases hs : s.step c with
    | none => rw [hs] at h; cases h
    | some q =>
      rw [hs] at h
      simp only [Option.bind_some] at h
      have hc : c ≠ e := by
        intro hce
        subst hce
        cases s <;> simp only [NS.step] at hs
        · rw [if_neg he.2, if_neg he.1] at hs; cases hs
        · rw [if_neg (by omega)] at hs; cases hs
        · rw [if_neg (fun x => he.1 ⟨x.1, x.2.1⟩)] at hs; cases hs
      simp only [List.cons_append, takeL]
      rw [if_neg (fun x => hc x.2), hs]
      exact takeL_run e he t q neg m r h
theorem takeL_back (e : Int) : ∀ (l : List Int) (s : NS) (v : Int) (r : List Int), takeL e s l = .ok v r → ∃ t neg m, l = t ++ e :: r ∧ s.run t = some (.num neg m) ∧ v = sgn neg m
  | [], s, v, r, h => by simp [takeL] at h
  | c :: l, s, v, r, h => by
    simp only [takeL] at h
    split at h
    · next hc =>
      injection h with h1 h2
      subst h1; subst h2
      cases s with
      | num neg m => exact ⟨[], neg, m, by simp [hc.2], rfl, rfl⟩
      | start => simp [NS.isNum] at hc
      | minus => simp [NS.isNum] at hc
    · cases hs : s.step c with
      | none => rw [hs] at h; cases h
      | some q =>
        rw [hs] at h
        obtain ⟨t, neg, m, rfl, h2, h3⟩ := takeL_back e l q v r h
        refine ⟨c :: t, neg, m, rfl, ?_, h3⟩
        simp only [NS.run]
        rw [hs]
        exact h2
theorem take_itoa (e : Int) (he : ¬(48 ≤ e ∧ e ≤ 57) ∧ e ≠ 45) (n : Int) (h : isI64 n) (r : List Int) : takeL e .start (itoaI n ++ e :: r) = .ok n r := by
  rw [takeL_run e he _ _ _ _ r (itoa_run n h), sgn_abs]
theorem take_is (e : Int) (l : List Int) (v : Int) (r : List Int) (h : takeL e .start l = .ok v r) : l = itoaI v ++ e :: r ∧ isI64 v := by
  obtain ⟨t, neg, m, rfl, h2, rfl⟩ := takeL_back e l _ v r h
  exact ⟨by rw [(run_num h2).1], num_i64 h2⟩

/-- A text behind its quotation mark; esc: a backslash stood ahead. -/
def quotL : Bool → List Int → List Int → Res (List Int)
  | _, _, [] => .bad []
  | false, acc, c :: r => if c = 10 then .bad (c :: r) else if c = 34 then .ok acc r else if c = 92 then quotL true acc r else quotL false (acc ++ [c]) r
  | true, acc, c :: r => if c = 34 ∨ c = 92 then quotL false (acc ++ [c]) r else if c = 110 then quotL false (acc ++ [10]) r else .bad (c :: r)
theorem quotL_good : ∀ (x : Bool) (acc : List Int), Good (quotL x acc) := by
  have : ∀ (l : List Int) (x : Bool) (acc : List Int) v r, quotL x acc l = .ok v r → ∃ c, l = c ++ r ∧ (∀ r', quotL x acc (c ++ r') = .ok v r') ∧ ∀ q d, c = q ++ d → d ≠ [] → quotL x acc q = .bad [] := by
    intro l
    induction l with
    | nil => intro x acc v r h; cases x <;> simp [quotL] at h
    | cons c l ih =>
      intro x acc v r h
      have go : ∀ (y : Bool) (acc' : List Int), (∀ z, quotL x acc (c :: z) = quotL y acc' z) → quotL y acc' l = .ok v r → ∃ d, c :: l = d ++ r ∧ (∀ r', quotL x acc (d ++ r') = .ok v r') ∧ ∀ q e, d = q ++ e → e ≠ [] → quotL x acc q = .bad [] := by
        intro y acc' hz hy
        obtain ⟨d, rfl, h1, h2⟩ := ih y acc' v r hy
        refine ⟨c :: d, rfl, fun r' => ?_, fun q e hq he => ?_⟩
        · rw [List.cons_append, hz]
          exact h1 r'
        · cases q with
          | nil => cases x <;> rfl
          | cons y' q =>
            rw [List.cons_append] at hq
            injection hq with hy' hq
            subst hy'
            rw [hz]
            exact h2 q e hq he
      cases x with
      | false =>
        by_cases h10 : c = 10
        · simp only [quotL] at h; rw [if_pos h10] at h; cases h
        by_cases h34 : c = 34
        · simp only [quotL] at h
          rw [if_neg h10, if_pos h34] at h
          injection h with e1 e2
          subst e1; subst e2
          refine ⟨[c], rfl, fun r' => by simp only [List.cons_append, List.nil_append, quotL]; rw [if_neg h10, if_pos h34], fun q d hq hd => ?_⟩
          cases q with
          | nil => rfl
          | cons x q =>
            rw [List.cons_append] at hq
            injection hq with _ hq
            exact absurd (List.append_eq_nil_iff.1 hq.symm).2 hd
        by_cases h92 : c = 92
        · refine go true acc (fun z => by simp only [quotL]; rw [if_neg h10, if_neg h34, if_pos h92]) ?_
          simp only [quotL] at h
          rw [if_neg h10, if_neg h34, if_pos h92] at h
          exact h
        · refine go false (acc ++ [c]) (fun z => by simp only [quotL]; rw [if_neg h10, if_neg h34, if_neg h92]) ?_
          simp only [quotL] at h
          rw [if_neg h10, if_neg h34, if_neg h92] at h
          exact h
      | true =>
        by_cases h34 : c = 34 ∨ c = 92
        · refine go false (acc ++ [c]) (fun z => by simp only [quotL]; rw [if_pos h34]) ?_
          simp only [quotL] at h
          rw [if_pos h34] at h
          exact h
        by_cases h110 : c = 110
        · refine go false (acc ++ [10]) (fun z => by simp only [quotL]; rw [if_neg h34, if_pos h110]) ?_
          simp only [quotL] at h
          rw [if_neg h34, if_pos h110] at h
          exact h
        · simp only [quotL] at h
          rw [if_neg h34, if_neg h110] at h
          cases h
  intro x acc l v r h
  exact this l x acc v r h
/-- How a byte of a text is written. -/
def escB (c : Int) : List Int := if c = 34 ∨ c = 92 then [92, c] else if c = 10 then [92, 110] else [c]
def esc (l : List Int) : List Int := l.flatMap escB
theorem esc_cons (c : Int) (t : List Int) : esc (c :: t) = escB c ++ esc t := by simp [esc]
theorem esc_nil : esc [] = [] := rfl
theorem quot_esc : ∀ (t acc r : List Int), quotL false acc (esc t ++ 34 :: r) = .ok (acc ++ t) r
  | [], acc, r => by simp [esc, quotL]
  | c :: t, acc, r => by
    have ih := fun a => quot_esc t a r
    rw [esc_cons]
    by_cases h1 : c = 34 ∨ c = 92
    · rw [escB, if_pos h1]
      simp only [List.cons_append, List.nil_append]
      rw [quotL, if_neg (by omega), if_neg (by omega), if_pos rfl, quotL, if_pos h1, ih]
      simp
    · rw [escB, if_neg h1]
      by_cases h2 : c = 10
      · rw [if_pos h2]
        subst h2
        simp only [List.cons_append, List.nil_append]
        rw [quotL, if_neg (by omega), if_neg (by omega), if_pos rfl, quotL, if_neg (by omega), if_pos rfl, ih]
        simp
      · rw [if_neg h2]
        simp only [List.cons_append, List.nil_append]
        rw [quotL, if_neg h2, if_neg (by omega), if_neg (by omega), ih]
        simp
theorem quot_is : ∀ (l : List Int) (x : Bool) (acc v r : List Int), quotL x acc l = .ok v r → ∃ t, v = acc ++ t ∧ (if x then 92 :: l else l) = esc t ++ 34 :: r
  | [], x, acc, v, r, h => by cases x <;> simp [quotL] at h
  | c :: l, false, acc, v, r, h => by
    simp only [quotL] at h
    split at h
    · cases h
    · next h10 =>
      split at h
      · next h34 =>
        injection h with e1 e2
        subst e1; subst e2; subst h34
        exact ⟨[], by simp, by simp [esc]⟩
      · next h34 =>
        split at h
        · next h92 =>
          obtain ⟨t, h1, h2⟩ := quot_is l true acc v r h
          subst h92
          exact ⟨t, h1, by simpa using h2⟩
        · next h92 =>
          obtain ⟨t, h1, h2⟩ := quot_is l false (acc ++ [c]) v r h
          refine ⟨c :: t, by simp [h1], ?_⟩
          simp only [Bool.false_eq_true, if_false] at h2 ⊢
          rw [h2]
          rw [esc_cons, escB, if_neg (by omega), if_neg h10]
          rfl
  | c :: l, true, acc, v, r, h => by
    simp only [quotL] at h
    split at h
    · next h34 =>
      obtain ⟨t, h1, h2⟩ := quot_is l false (acc ++ [c]) v r h
      refine ⟨c :: t, by simp [h1], ?_⟩
      simp only [Bool.false_eq_true, if_false, if_true] at h2 ⊢
      rw [h2]
      rw [esc_cons, escB, if_pos h34]
      rfl
    · split at h
      · next h110 =>
        obtain ⟨t, h1, h2⟩ := quot_is l false (acc ++ [10]) v r h
        refine ⟨10 :: t, by simp [h1], ?_⟩
        simp only [Bool.false_eq_true, if_false, if_true] at h2 ⊢
        rw [h2, h110]
        rw [esc_cons, escB, if_neg (by omega), if_pos rfl]
        rfl
      · cases h
/-- One byte. -/
def byteL (c : Int) (l : List Int) : Res Unit := match l with | [] => .bad [] | d :: r => if d = c then .ok () r else .bad (d :: r)
theorem byteL_good (c : Int) : Good (byteL c) := by
  intro l v r h
  cases l with
  | nil => simp [byteL] at h
  | cons d l =>
    simp only [byteL] at h
    split at h
    · next e =>
      injection h with _ e2
      subst e2; subst e
      refine ⟨[d], rfl, fun r' => by simp [byteL], fun q x hq hx => ?_⟩
      cases q with
      | nil => rfl
      | cons y q =>
        rw [List.cons_append] at hq
        injection hq with _ hq
        exact absurd (List.append_eq_nil_iff.1 hq.symm).2 hx
    · cases h
theorem byteL_is {c : Int} {l r : List Int} {v : Unit} (h : byteL c l = .ok v r) : l = c :: r := by
  cases l with
  | nil => simp [byteL] at h
  | cons d l =>
    simp only [byteL] at h
    split at h
    · next e => injection h with _ e2; rw [e, e2]
    · cases h
/-- A line: an edit's two places and its text. -/
def lineL (l : List Int) : Res (Int × Int × List Int) :=
  (takeL 44 .start l).then fun a l => (takeL 32 .start l).then fun b l => (byteL 34 l).then fun _ l => (quotL false [] l).then fun t l => (byteL 10 l).then fun _ l => .ok (a, b, t) l
theorem ret_good {α : Type} (v : α) : Good fun l => Res.ok v l := by
  intro l u r h
  injection h with h1 h2
  subst h1; subst h2
  refine ⟨[], rfl, fun r' => rfl, fun q d hq hd => ?_⟩
  exact absurd (List.append_eq_nil_iff.1 hq.symm).2 hd
theorem lineL_good : Good lineL :=
  Good.then (takeL_good 44 _) fun a => Good.then (takeL_good 32 _) fun b => Good.then (byteL_good 34) fun _ => Good.then (quotL_good false []) fun t => Good.then (byteL_good 10) fun _ => ret_good _
def lineP (a b : Int) (t : List Int) : List Int := itoaI a ++ 44 :: (itoaI b ++ 32 :: 34 :: (esc t ++ 34 :: [10]))
theorem line_printed (a b : Int) (ha : isI64 a) (hb : isI64 b) (t r : List Int) : lineL (lineP a b t ++ r) = .ok (a, b, t) r := by
  unfold lineL lineP
  simp only [List.append_assoc, List.cons_append, List.nil_append]
  rw [take_itoa 44 (by omega) a ha]
  simp only [Res.then]
  rw [take_itoa 32 (by omega) b hb]
  simp only [Res.then, byteL, if_true]
  rw [quot_esc]
  simp [byteL]
theorem line_read (l : List Int) (a b : Int) (t r : List Int) (h : lineL l = .ok (a, b, t) r) : l = lineP a b t ++ r ∧ isI64 a ∧ isI64 b := by
  unfold lineL at h
  cases h1 : takeL 44 .start l with
  | bad x => rw [h1] at h; cases h
  | ok a' l1 =>
    rw [h1] at h
    simp only [Res.then] at h
    cases h2 : takeL 32 .start l1 with
    | bad x => rw [h2] at h; cases h
    | ok b' l2 =>
      rw [h2] at h
      simp only [Res.then] at h
      cases h3 : byteL 34 l2 with
      | bad x => rw [h3] at h; cases h
      | ok u l3 =>
        rw [h3] at h
        simp only [Res.then] at h
        cases h4 : quotL false [] l3 with
        | bad x => rw [h4] at h; cases h
        | ok t' l4 =>
          rw [h4] at h
          simp only [Res.then] at h
          cases h5 : byteL 10 l4 with
          | bad x => rw [h5] at h; cases h
          | ok u' l5 =>
            rw [h5] at h
            simp only [Res.then] at h
            injection h with e1 e2
            injection e1 with e3 e4
            injection e4 with e5 e6
            subst e2; subst e3; subst e5; subst e6
            obtain ⟨p1, q1⟩ := take_is _ _ _ _ h1
            obtain ⟨p2, q2⟩ := take_is _ _ _ _ h2
            obtain ⟨t2, p4, p5⟩ := quot_is _ _ _ _ _ h4
            have p3 := byteL_is h3
            have p6 := byteL_is h5
            simp only [List.nil_append, Bool.false_eq_true, if_false] at p4 p5
            subst p4
            refine ⟨?_, q1, q2⟩
            unfold lineP
            rw [p1, p2, p3, p5, p6]
            simp
end Go.Proofs.YtaihajmdngoeiaaDoor.Q

-- A text of this session's own program (wip/myprint.sh over a changed print tool): functions and their walks
namespace Go.Proofs.YtaihajmdngoeiaaDoor.F
open Go.RowKit Go.Proofs.YtaihajmdngoeiaaDoorW.PrintWords Go.Proofs.YtaihajmdngoeiaaDoorW.PrintLast Go.Proofs.YtaihajmdngoeiaaDoorW.PrintMore
attribute [local go_sem] max2_int min2_int max_two min_two max_three min_three max_four min_four   -- for this text's walks alone
set_option linter.unusedVariables false
set_option linter.unusedSimpArgs false



def errW : Option Int → Value
  | none => .nilIface
  | some c => .iface 142 (.int .i64 c)
theorem errW_none : errW none = .nilIface := rfl
theorem errW_some (c : Int) : errW (some c) = .iface 142 (.int .i64 c) := rfl

theorem info5 : (Tryd.prog.info? 5).map (fun i => (i.zero, i.size, i.bytes)) = some (some (.int .u8 0), 1, 1) := by kernel_rfl
theorem info42 : (Tryd.prog.info? 42).map (fun i => (i.zero, i.size, i.bytes)) = some (some (.agg #[(.int .i64 0), (.int .i64 0), (.string ⟨#[]⟩)]), 3, 32) := by kernel_rfl
-- the values' own types
/-! #### struct type 42 -/
structure S42 where
  f0 : Int
  f1 : Int
  f2 : ByteArray
def z42 : S42 := ⟨(0 : Int), (0 : Int), (⟨#[]⟩ : ByteArray)⟩
def k42 : Kd S42 := Kd.iso (Kd.pair (Kd.int .i64) (Kd.pair (Kd.int .i64) Kd.string)) (fun x : S42 => (x.f0, x.f1, x.f2))
theorem k42_open {w : World} {x : S42} {cs : List Value} (h : k42.K w x cs) : cs = [.int .i64 x.f0, .int .i64 x.f1, .string x.f2] := by
  obtain ⟨_, _, rfl, rfl, ⟨_, _, rfl, rfl, rfl⟩⟩ := h
  exact rfl
theorem k42_mk (w : World) (x : S42)  : k42.K w x [.int .i64 x.f0, .int .i64 x.f1, .string x.f2] := ⟨[.int .i64 x.f0], [.int .i64 x.f1, .string x.f2], rfl, rfl, ⟨[.int .i64 x.f1], [.string x.f2], rfl, rfl, rfl⟩⟩
theorem k42_mkM (w : World) (base : Nat) (ok : Nat → Prop) (x : S42)  : k42.M w base ok x [.int .i64 x.f0, .int .i64 x.f1, .string x.f2] := ⟨[.int .i64 x.f0], [.int .i64 x.f1, .string x.f2], rfl, rfl, ⟨[.int .i64 x.f1], [.string x.f2], rfl, rfl, rfl⟩⟩
def rd_T42 (xs : List S42) (i : Int) : S42 := xs.getD i.toNat z42
theorem at_T42 {w : World} {A : Option Addr} {n : Nat} {xs : List S42} (h : Kd.C k42 w A n xs) (i : Int) (h0 : 0 ≤ i) (h1 : i < n) : ∃ ad , A = some ad ∧ w.cell? (ad.add (i.toNat * 3)) = some (.int .i64 (rd_T42 xs i).f0) ∧ w.cell? ⟨(ad.add (i.toNat * 3)).block, (ad.add (i.toNat * 3)).off + 1, none⟩ = some (.int .i64 (rd_T42 xs i).f1) ∧ w.cell? ⟨(ad.add (i.toNat * 3)).block, (ad.add (i.toNat * 3)).off + 2, none⟩ = some (.string (rd_T42 xs i).f2) := by
  obtain ⟨ad, c, e, _, hK, hc0⟩ := Kd.C_get h z42 i h0 h1
  have hc : ∀ j u, c[j]? = some u → w.cell? (ad.add (i.toNat * 3 + j)) = some u := hc0
  obtain rfl := k42_open hK
  exact ⟨ad, e, hc 0 _ rfl, by rw [← add_field _ _ 1 (by omega)]; exact hc 1 _ rfl, by rw [← add_field _ _ 2 (by omega)]; exact hc 2 _ rfl⟩

/-! #### struct type 86 -/
/-! #### struct type 111 -/
/-! #### struct type 114 -/
/-! #### struct type 116 -/
/-! #### struct type 118 -/
end Go.Proofs.YtaihajmdngoeiaaDoor.F

namespace Go.Proofs.YtaihajmdngoeiaaDoor.Q
open Go.RowKit Go.Proofs.YtaihajmdngoeiaaDoorW.PrintWords Go.Proofs.YtaihajmdngoeiaaDoorW.PrintLast Go.Proofs.YtaihajmdngoeiaaDoorW.PrintMore
open Go.Proofs.YtaihajmdngoeiaaDoor.F
set_option linter.unusedVariables false
set_option linter.unusedSimpArgs false

theorem w64 {x : Int} (h1 : -9223372036854775808 ≤ x) (h2 : x ≤ 9223372036854775807) : wrap64 x = x := by unfold wrap64; omega
theorem bt_get (s : ByteArray) (i : Nat) (h : i < s.size) : bt s (i : Int) = (bytesOf s)[i]'(by rw [bytesOf_length]; exact h) := by
  rw [← rd_bytesOf]
  simp [rd, bytesOf_length, h]
theorem dr_cons (s : ByteArray) (i : Nat) (h : i < s.size) : (bytesOf s).drop i = bt s (i : Int) :: (bytesOf s).drop (i + 1) := by
  rw [List.drop_eq_getElem_cons (by rw [bytesOf_length]; exact h), bt_get s i h]
theorem ex_bytes (s : ByteArray) (i j : Nat) : bytesOf (s.extract i j) = ((bytesOf s).drop i).take (j - i) := by
  unfold bytesOf
  rw [ByteArray.data_extract, Array.toList_extract, ← List.map_drop, ← List.map_take]
end Go.Proofs.YtaihajmdngoeiaaDoor.Q

/-
  DERIVED: THE SHELF's CONTRACTS AT THIS DUMP, IN PLAIN WORDS (tools/lay-plain.mjs out of 'TrydShelf.lean', which tools/lay-shelf.mjs wrote): THE SAME DECLARATIONS UNDER THE SAME NAMES: 'import', 'namespace', 'open', 'def', 'theorem' AND NOTHING ELSE: no command of the shelf's: FOR A HAND-IN. Each laying: the table of numbers ('.._ren') and one theorem, a field a fact of the dump's own or the kernel's comparison; each contract: ONE APPLICATION.
-/
namespace Go.Proofs
open Go.Shelf
def Tryd.laysM176_ren : Go.Shelf.Ren := ⟨fun | 176 => 27 | 249 => 51 | 288 => 65 | 283 => 71 | 284 => 72 | 285 => 73 | 286 => 74 | 129 => 78 | 317 => 77 | 318 => 79 | 319 => 80 | 320 => 81 | 337 => 87 | 338 => 88 | n => n, fun | 37 => 59 | 2 => 2 | 3 => 3 | 53 => 119 | 4 => 4 | 9 => 9 | 171 => 130 | 0 => 0 | 173 => 133 | 212 => 137 | 51 => 138 | 5 => 5 | 20 => 20 | 213 => 139 | 46 => 140 | 232 => 154 | 233 => 155 | n => n, fun | 17 => 0 | 18 => 3 | 19 => 4 | n => n⟩
theorem Tryd.laysM176 : Go.Proofs.LaysM.n176 Tryd.prog Tryd.laysM176_ren := {
  mixed := by kernel_rfl
  f129 := Tryd.func78.trans (congrArg some (by kernel_rfl))
  f176 := Tryd.func27.trans (congrArg some (by kernel_rfl))
  f249 := Tryd.func51.trans (congrArg some (by kernel_rfl))
  f283 := Tryd.func71.trans (congrArg some (by kernel_rfl))
  f284 := Tryd.func72.trans (congrArg some (by kernel_rfl))
  f285 := Tryd.func73.trans (congrArg some (by kernel_rfl))
  f286 := Tryd.func74.trans (congrArg some (by kernel_rfl))
  f288 := Tryd.func65.trans (congrArg some (by kernel_rfl))
  f317 := Tryd.func77.trans (congrArg some (by kernel_rfl))
  f318 := Tryd.func79.trans (congrArg some (by kernel_rfl))
  f319 := Tryd.func80.trans (congrArg some (by kernel_rfl))
  f320 := Tryd.func81.trans (congrArg some (by kernel_rfl))
  f337 := Tryd.func87.trans (congrArg some (by kernel_rfl))
  f338 := Tryd.func88.trans (congrArg some (by kernel_rfl))
  t0 := Tryd.underlying0
  a0 := Tryd.isAgg0
  z0 := Tryd.sizeOf0
  v0 := Tryd.zeroValue0
  t2 := Tryd.underlying2
  a2 := Tryd.isAgg2
  z2 := Tryd.sizeOf2
  v2 := Tryd.zeroValue2
  t3 := Tryd.underlying3
  a3 := Tryd.isAgg3
  z3 := Tryd.sizeOf3
  v3 := Tryd.zeroValue3
  t4 := Tryd.underlying4
  a4 := Tryd.isAgg4
  z4 := Tryd.sizeOf4
  v4 := Tryd.zeroValue4
  t5 := Tryd.underlying5
  a5 := Tryd.isAgg5
  z5 := Tryd.sizeOf5
  v5 := Tryd.zeroValue5
  t9 := Tryd.underlying9
  a9 := Tryd.isAgg9
  z9 := Tryd.sizeOf9
  v9 := Tryd.zeroValue9
  t20 := Tryd.underlying20
  a20 := Tryd.isAgg20
  z20 := Tryd.sizeOf20
  v20 := Tryd.zeroValue20
  t37 := Tryd.underlying59
  a37 := Tryd.isAgg59
  z37 := Tryd.sizeOf59
  v37 := Tryd.zeroValue59
  t46 := Tryd.underlying140
  a46 := Tryd.isAgg140
  z46 := Tryd.sizeOf140
  v46 := Tryd.zeroValue140
  t51 := Tryd.underlying138
  a51 := Tryd.isAgg138
  z51 := Tryd.sizeOf138
  v51 := Tryd.zeroValue138
  t53 := Tryd.underlying119
  a53 := Tryd.isAgg119
  z53 := Tryd.sizeOf119
  v53 := Tryd.zeroValue119
  t171 := Tryd.underlying130
  a171 := Tryd.isAgg130
  z171 := Tryd.sizeOf130
  v171 := Tryd.zeroValue130
  t173 := Tryd.underlying133
  a173 := Tryd.isAgg133
  z173 := Tryd.sizeOf133
  v173 := Tryd.zeroValue133
  t212 := Tryd.underlying137
  a212 := Tryd.isAgg137
  z212 := Tryd.sizeOf137
  v212 := Tryd.zeroValue137
  t213 := Tryd.underlying139
  a213 := Tryd.isAgg139
  z213 := Tryd.sizeOf139
  t232 := Tryd.underlying154
  a232 := Tryd.isAgg154
  z232 := Tryd.sizeOf154
  v232 := Tryd.zeroValue154
  t233 := Tryd.underlying155
  a233 := Tryd.isAgg155
  z233 := Tryd.sizeOf155
  v233 := Tryd.zeroValue155
  g17 := by kernel_rfl
  g18 := by kernel_rfl
  g19 := by kernel_rfl
  i0 := by kernel_rfl
  i2 := by kernel_rfl
  i3 := by kernel_rfl
  i4 := by kernel_rfl
  i5 := by kernel_rfl
  i9 := by kernel_rfl
  i20 := by kernel_rfl
  i37 := by kernel_rfl
  i46 := by kernel_rfl
  i51 := by kernel_rfl
  i53 := by kernel_rfl
  i171 := by kernel_rfl
  i173 := by kernel_rfl
  i212 := by kernel_rfl
  i232 := by kernel_rfl
  i233 := by kernel_rfl
  m17 := by kernel_rfl
  m18 := by kernel_rfl
  m19 := by kernel_rfl }
open Go.RowKit Go.Sort Go.Lib in
/-- strconv.AppendInt: "AppendInt appends the string form of the integer i, as generated by FormatInt, to dst and returns the extended buffer.": AT BASE 10: WHAT COMES BACK OWNS dst's CELLS AND, BEHIND THEM, i's DECIMAL NUMERAL ('Lib.itoa i': at most 20 bytes), for every int64. Below the call's own blocks nothing has turned. (LAID: no walk: one application.) -/
theorem Tryd.strconv_AppendInt_10 (B n : Nat) (i : Int) (h0 : -9223372036854775808 ≤ i) (h1 : i ≤ 9223372036854775807) (sv : Value) (xs : List Value) (w : World) (hown : w.ownsRow B 5 1 sv n xs) (hBw : B ≤ w.heap.size) (hlim : n + 21 ≤ 140737488355328) (htab : Lib.TabBelow Tryd.prog B w "internal/strconv.uint64pow10" .u64 Lib.pow10Tab) :
    Calls Tryd.prog 27 #[sv, .int .i64 i, .int .i64 10] w fun e w' => ∃ v', e = .returned v' ∧ w'.ownsRow B 5 1 v' (n + (Lib.itoa i).length) (xs ++ Lib.byteCells (Lib.itoa i)) ∧ Below B w w' ∧ Lib.OthersKept 5 none w w' := Any.strconv_AppendInt_10 Tryd.laysM176 B n i h0 h1 sv xs w hown hBw hlim htab
end Go.Proofs

-- strconv's Itoa, AppendInt and Atoi at this dump: their meaning in plain Lean, and their contracts out of the shelf's
namespace Go.Proofs.YtaihajmdngoeiaaDoor.F
open Go.RowKit Go.Proofs.YtaihajmdngoeiaaDoorW.PrintWords Go.Proofs.YtaihajmdngoeiaaDoorW.PrintLast Go.Proofs.YtaihajmdngoeiaaDoorW.PrintMore
set_option linter.unusedVariables false
set_option linter.unusedSimpArgs false

/-- The table of strconv that Itoa reads. -/
structure SG (w : World) : Prop where
  tab : Lib.TabIs Tryd.prog w "internal/strconv.uint64pow10" .u64 Lib.pow10Tab
theorem SG.below {w w' : World} (h : SG w) (hb : Below w.heap.size w w') : SG w' := ⟨Lib.tabBelow_of_tabIs h.tab w' hb⟩
theorem SG.far {w w' : World} {B : Nat} (h : SG w) (hb : Below w.heap.size w w') : Lib.TabBelow Tryd.prog w.heap.size w' "internal/strconv.uint64pow10" .u64 Lib.pow10Tab := (Lib.tabBelow_of_tabIs h.tab).on hb

def strconv_AppendInt_27.f (k : Nat) (l : List Int) (n : Int) (b : Int) : Option (List Int) :=
  if b = 10 ∧ (-9223372036854775808 ≤ n ∧ n ≤ 9223372036854775807) ∧ l.length + 21 ≤ 140737488355328 then some (l ++ Q.itoaI n) else none
theorem reps_ints {R : Int → List Value → Prop} (hR : ∀ x cs, R x cs ↔ cs = [.int .u8 x]) : ∀ (l : List Int) (inner : List Value), Reps R 1 l inner → inner = l.map (Value.int .u8) := by
  intro l inner h
  apply List.ext_getElem?
  intro j
  obtain ⟨h1, h2⟩ := h
  rcases Nat.lt_or_ge j l.length with hj | hj
  · have := (hR _ _).1 (h2 j l[j] (List.getElem?_eq_getElem hj))
    have h3 : (inner.drop (j * 1)).take 1 = [inner[j]'(by omega)] := by
      rw [Nat.mul_one, List.drop_eq_getElem_cons (by omega)]
      rfl
    rw [h3] at this
    simp only [List.cons.injEq, and_true] at this
    rw [List.getElem?_eq_getElem (by omega), this, List.getElem?_map, List.getElem?_eq_getElem hj]
    rfl
  · rw [List.getElem?_eq_none (by omega), List.getElem?_eq_none (by simp; omega)]
theorem ints_reps {R : Int → List Value → Prop} (hR : ∀ x cs, R x cs ↔ cs = [.int .u8 x]) : ∀ (l : List Int), Reps R 1 l (l.map (Value.int .u8)) := by
  intro l
  induction l with
  | nil => exact Reps.none _ _
  | cons c l ih => exact Reps.one ((hR _ _).2 rfl) ih
theorem cells_ints (n : Int) : Lib.byteCells (Lib.itoa n) = (Q.itoaI n).map (Value.int .u8) := by
  unfold Lib.byteCells Q.itoaI Q.ints
  rw [List.map_map]
  rfl
theorem itoaI_length (n : Int) : (Q.itoaI n).length = (Lib.itoa n).length := by
  unfold Q.itoaI Q.ints
  simp
/-- AppendInt onto a row of bytes of the call's own. -/
theorem appendInt_own (k : Nat) (l : List Int) (n : Int) (r : List Int) (v : Value) (base : Nat) (w : World) (h : strconv_AppendInt_27.f k l n 10 = some r) (ho : Kd.R (Kd.int .u8) 5 w base (fun _ => True) v l) (hb : base ≤ w.heap.size)
    (ht : Lib.TabBelow Tryd.prog base w "internal/strconv.uint64pow10" .u64 Lib.pow10Tab) :
    Calls Tryd.prog 27 #[v, .int .i64 n, .int .i64 10] w fun e w' => ∃ v', e = .returned v' ∧ Kd.R (Kd.int .u8) 5 w' base (fun _ => True) v' r ∧ Below base w w' ∧ Lib.OthersKept 5 none w w' := by
  unfold strconv_AppendInt_27.f at h
  split at h
  · next hn =>
    simp only [Option.some.injEq] at h
    subst h
    obtain ⟨_, inner, hw, hi⟩ := ho
    obtain rfl := reps_ints (fun x cs => Iff.rfl) l inner hi
    refine (Tryd.strconv_AppendInt_10 base l.length n hn.2.1.1 hn.2.1.2 v _ w hw hb hn.2.2 ht).mono ?_
    rintro e w' ⟨v', rfl, hw', hb', hk⟩
    refine ⟨v', rfl, ⟨fun _ _ => trivial, _, ?_, ints_reps (fun x cs => Iff.rfl) _⟩, hb', hk⟩
    rw [List.length_append, itoaI_length, List.map_append, ← cells_ints]
    exact hw'
  · cases h
end Go.Proofs.YtaihajmdngoeiaaDoor.F

namespace Go.Proofs.YtaihajmdngoeiaaDoor.Q
open Go.RowKit Go.Proofs.YtaihajmdngoeiaaDoorW.PrintWords Go.Proofs.YtaihajmdngoeiaaDoorW.PrintLast Go.Proofs.YtaihajmdngoeiaaDoorW.PrintMore
open Go.Proofs.YtaihajmdngoeiaaDoor.F
set_option linter.unusedVariables false
set_option linter.unusedSimpArgs false

/-- The place where a rest begins. -/
def plc (s : ByteArray) (r : List Int) : Int := (s.size : Int) - r.length
theorem dr_len (s : ByteArray) (i : Nat) : ((bytesOf s).drop i).length = s.size - i := by rw [List.length_drop, bytesOf_length]
theorem plc_dr (s : ByteArray) (i : Nat) (h : i ≤ s.size) : plc s ((bytesOf s).drop i) = i := by
  unfold plc
  rw [dr_len]
  omega
end Go.Proofs.YtaihajmdngoeiaaDoor.Q

namespace Go.Proofs.YtaihajmdngoeiaaDoor.Q
set_option linter.unusedVariables false
set_option linter.unusedSimpArgs false

inductive PR where
  | ok (l : List (Int × Int × List Int))
  | many (r : List Int)
  | bad (r : List Int)
def PR.cons (e : Int × Int × List Int) : PR → PR
  | .ok l => .ok (e :: l)
  | .many r => .many r
  | .bad r => .bad r
/-- The lines of a text, at most m of them. -/
def parseL : Nat → Nat → List Int → PR
  | 0, _, _ => .bad []
  | k + 1, m, l => if l = [] then .ok [] else if m = 0 then .many l else match lineL l with | .bad r => .bad r | .ok e r => (parseL k (m - 1) r).cons e
def lineE (e : Int × Int × List Int) : List Int := lineP e.1 e.2.1 e.2.2
def linesP (es : List (Int × Int × List Int)) : List Int := es.flatMap lineE
def i64E (e : Int × Int × List Int) : Prop := isI64 e.1 ∧ isI64 e.2.1
theorem linesP_cons (e : Int × Int × List Int) (es : List (Int × Int × List Int)) : linesP (e :: es) = lineE e ++ linesP es := by simp [linesP]
theorem lineE_pos (e : Int × Int × List Int) : 0 < (lineE e).length := by
  unfold lineE lineP
  simp only [List.length_append, List.length_cons]
  omega
theorem lineE_ne (e : Int × Int × List Int) : lineE e ≠ [] := by
  have := lineE_pos e
  intro h
  rw [h] at this
  simp at this
theorem parse_printed : ∀ (es : List (Int × Int × List Int)) (k m : Nat), es.length < k → es.length ≤ m → (∀ e ∈ es, i64E e) → parseL k m (linesP es) = .ok es
  | [], k, m, hk, hm, h => by
    obtain ⟨k, rfl⟩ : ∃ j, k = j + 1 := ⟨k - 1, by simp at hk; omega⟩
    simp [parseL, linesP]
  | e :: es, k, m, hk, hm, h => by
    obtain ⟨k, rfl⟩ : ∃ j, k = j + 1 := ⟨k - 1, by simp at hk; omega⟩
    simp only [List.length_cons] at hk hm
    obtain ⟨h1, h2⟩ := h e List.mem_cons_self
    rw [linesP_cons]
    simp only [parseL]
    rw [if_neg (by simp [lineE_ne]), if_neg (by omega)]
    unfold lineE
    rw [line_printed _ _ h1 h2]
    simp only []
    rw [parse_printed es k (m - 1) (by omega) (by omega) (fun x hx => h x (List.mem_cons_of_mem _ hx))]
    rfl
theorem parse_read : ∀ (k m : Nat) (l : List Int) (es : List (Int × Int × List Int)), parseL k m l = .ok es → l = linesP es ∧ (∀ e ∈ es, i64E e) ∧ es.length ≤ m
  | 0, m, l, es, h => by simp [parseL] at h
  | k + 1, m, l, es, h => by
    simp only [parseL] at h
    split at h
    · next hl =>
      injection h with h
      subst h
      exact ⟨by rw [hl]; rfl, by simp, by simp⟩
    · next hl =>
      split at h
      · cases h
      · next hm =>
        cases h1 : lineL l with
        | bad r => rw [h1] at h; cases h
        | ok e r =>
          rw [h1] at h
          simp only [] at h
          cases h2 : parseL k (m - 1) r with
          | many x => rw [h2] at h; cases h
          | bad x => rw [h2] at h; cases h
          | ok fs =>
            rw [h2] at h
            simp only [PR.cons] at h
            injection h with h
            subst h
            obtain ⟨i1, i2, i3⟩ := parse_read k (m - 1) r fs h2
            obtain ⟨a, b, t⟩ := e
            obtain ⟨j1, j2, j3⟩ := line_read l a b t r h1
            refine ⟨by rw [linesP_cons, j1, i1]; rfl, fun x hx => ?_, by simp only [List.length_cons]; omega⟩
            rcases List.mem_cons.1 hx with rfl | hx
            · exact ⟨j2, j3⟩
            · exact i2 x hx
/-- A reader leaves no more than there was. -/
def Short {α : Type} (P : List Int → Res α) : Prop := ∀ l, (∀ v r, P l = .ok v r → r.length ≤ l.length) ∧ ∀ r, P l = .bad r → r.length ≤ l.length
theorem Short.then {α β : Type} {P : List Int → Res α} {Q : α → List Int → Res β} (hP : Short P) (hQ : ∀ v, Short (Q v)) : Short fun l => (P l).then Q := by
  intro l
  obtain ⟨h1, h2⟩ := hP l
  cases hp : P l with
  | bad x =>
    refine ⟨fun v r h => ?_, fun r h => ?_⟩
    · simp only [hp, Res.then] at h; cases h
    · simp only [hp, Res.then] at h
      injection h with h
      subst h
      exact h2 _ hp
  | ok u x =>
    obtain ⟨h3, h4⟩ := hQ u x
    have := h1 u x hp
    refine ⟨fun v r h => ?_, fun r h => ?_⟩
    · simp only [hp, Res.then] at h
      have := h3 v r h
      omega
    · simp only [hp, Res.then] at h
      have := h4 r h
      omega
theorem takeL_short (e : Int) : ∀ (s : NS), Short (takeL e s) := by
  have : ∀ (l : List Int) (s : NS), (∀ v r, takeL e s l = .ok v r → r.length ≤ l.length) ∧ ∀ r, takeL e s l = .bad r → r.length ≤ l.length := by
    intro l
    induction l with
    | nil => intro s; exact ⟨fun v r h => by simp [takeL] at h, fun r h => by simp [takeL] at h; simp [h]⟩
    | cons c l ih =>
      intro s
      refine ⟨fun v r h => ?_, fun r h => ?_⟩
      · simp only [takeL] at h
        split at h
        · injection h with _ h; subst h; simp
        · cases hs : s.step c with
          | none => rw [hs] at h; cases h
          | some t => rw [hs] at h; have := (ih t).1 v r h; simp; omega
      · simp only [takeL] at h
        split at h
        · cases h
        · cases hs : s.step c with
          | none => rw [hs] at h; injection h with h; subst h; simp
          | some t => rw [hs] at h; have := (ih t).2 r h; simp; omega
  exact fun s l => this l s
theorem byteL_short (c : Int) : Short (byteL c) := by
  intro l
  cases l with
  | nil => exact ⟨fun v r h => by simp [byteL] at h, fun r h => by simp [byteL] at h; simp [h]⟩
  | cons d l =>
    refine ⟨fun v r h => ?_, fun r h => ?_⟩ <;> simp only [byteL] at h <;> split at h
    · injection h with _ h; subst h; simp
    · cases h
    · cases h
    · injection h with h; subst h; simp
theorem quotL_short : ∀ (x : Bool) (acc : List Int), Short (quotL x acc) := by
  have : ∀ (l : List Int) (x : Bool) (acc : List Int), (∀ v r, quotL x acc l = .ok v r → r.length ≤ l.length) ∧ ∀ r, quotL x acc l = .bad r → r.length ≤ l.length := by
    intro l
    induction l with
    | nil => intro x acc; exact ⟨fun v r h => by simp [quotL] at h, fun r h => by simp [quotL] at h; simp [h]⟩
    | cons c l ih =>
      intro x acc
      have lift : ∀ (y : Bool) (a : List Int), (quotL x acc (c :: l) = quotL y a l) → (∀ v r, quotL x acc (c :: l) = .ok v r → r.length ≤ (c :: l).length) ∧ ∀ r, quotL x acc (c :: l) = .bad r → r.length ≤ (c :: l).length := by
        intro y a hq
        rw [hq]
        refine ⟨fun v r h => ?_, fun r h => ?_⟩
        · have := (ih y a).1 v r h; simp; omega
        · have := (ih y a).2 r h; simp; omega
      have badh : (quotL x acc (c :: l) = .bad (c :: l)) → (∀ v r, quotL x acc (c :: l) = .ok v r → r.length ≤ (c :: l).length) ∧ ∀ r, quotL x acc (c :: l) = .bad r → r.length ≤ (c :: l).length := by
        intro hq
        rw [hq]
        exact ⟨(fun v r h => by cases h), (fun r h => by injection h with h; subst h; exact Nat.le_refl _)⟩
      cases x with
      | false =>
        by_cases h10 : c = 10
        · exact badh (by rw [quotL, if_pos h10])
        by_cases h34 : c = 34
        · have hq : quotL false acc (c :: l) = .ok acc l := by rw [quotL, if_neg h10, if_pos h34]
          rw [hq]
          exact ⟨fun v r h => by injection h with _ h; subst h; simp, fun r h => by cases h⟩
        by_cases h92 : c = 92
        · exact lift _ _ (by rw [quotL, if_neg h10, if_neg h34, if_pos h92])
        · exact lift _ _ (by rw [quotL, if_neg h10, if_neg h34, if_neg h92])
      | true =>
        by_cases h34 : c = 34 ∨ c = 92
        · exact lift _ _ (by rw [quotL, if_pos h34])
        by_cases h110 : c = 110
        · exact lift _ _ (by rw [quotL, if_neg h34, if_pos h110])
        · exact badh (by rw [quotL, if_neg h34, if_neg h110])
  exact fun x acc l => this l x acc
theorem lineL_short : Short lineL :=
  Short.then (takeL_short 44 _) fun a => Short.then (takeL_short 32 _) fun b => Short.then (byteL_short 34) fun _ => Short.then (quotL_short false []) fun t => Short.then (byteL_short 10) fun _ => fun l => ⟨fun v r h => by injection h with _ h; subst h; exact Nat.le_refl _, fun r h => by cases h⟩
theorem parse_bad : ∀ (k m : Nat) (l r : List Int), l.length < k → (parseL k m l = .bad r ∨ parseL k m l = .many r) → r.length ≤ l.length := by
  intro k
  induction k with
  | zero => intro m l r hk; omega
  | succ k ih =>
    intro m l r hk h
    simp only [parseL] at h
    split at h
    · rcases h with h | h <;> cases h
    · split at h
      · rcases h with h | h
        · cases h
        · injection h with h; subst h; exact Nat.le_refl _
      · cases h1 : lineL l with
        | bad x =>
          rw [h1] at h
          rcases h with h | h
          · injection h with h
            subst h
            exact (lineL_short l).2 _ h1
          · cases h
        | ok e x =>
          rw [h1] at h
          simp only [] at h
          obtain ⟨a, b, t⟩ := e
          have hx := (line_read l a b t x h1).1
          have hp := lineE_pos (a, b, t)
          have hxl : x.length < l.length := by
            rw [hx]
            simp only [List.length_append]
            unfold lineE at hp
            simp only at hp
            omega
          have := ih (m - 1) x r (by omega)
          cases h2 : parseL k (m - 1) x with
          | ok z => rw [h2] at h; rcases h with h | h <;> cases h
          | many z =>
            rw [h2] at h this
            rcases h with h | h
            · cases h
            · injection h with h
              subst h
              have := this (Or.inr rfl)
              omega
          | bad z =>
            rw [h2] at h this
            rcases h with h | h
            · injection h with h
              subst h
              have := this (Or.inl rfl)
              omega
            · cases h
theorem dec_no10 : ∀ u : Nat, (10 : Int) ∉ dec u := by
  intro u
  induction u using Nat.strongRecOn with
  | _ u ih =>
    by_cases h : u < 10
    · rw [dec_small h]
      simp
      omega
    · rw [dec_big h]
      simp only [List.mem_append, List.mem_singleton, not_or]
      exact ⟨ih (u / 10) (by omega), by omega⟩
theorem itoa_no10 (n : Int) : (10 : Int) ∉ itoaI n := by
  by_cases h : n < 0
  · rw [itoaI_neg n h]
    simp only [List.mem_cons, not_or]
    exact ⟨by omega, dec_no10 _⟩
  · rw [itoaI_pos n h]
    exact dec_no10 _
theorem esc_no10 : ∀ t : List Int, (10 : Int) ∉ esc t
  | [] => by simp [esc_nil]
  | c :: t => by
    rw [esc_cons]
    simp only [List.mem_append, not_or]
    refine ⟨?_, esc_no10 t⟩
    unfold escB
    split
    · simp; omega
    · split
      · simp
      · simp; omega
theorem line_10 (e : Int × Int × List Int) : ∃ b, lineE e = b ++ [10] ∧ (10 : Int) ∉ b := by
  refine ⟨itoaI e.1 ++ 44 :: (itoaI e.2.1 ++ 32 :: 34 :: (esc e.2.2 ++ [34])), by simp [lineE, lineP], ?_⟩
  have h1 := itoa_no10 e.1
  have h2 := itoa_no10 e.2.1
  have h3 := esc_no10 e.2.2
  simp [h1, h2, h3]
/-- A printed text that is cut. -/
theorem parse_cut : ∀ (es : List (Int × Int × List Int)) (k m : Nat) (q d : List Int), q.length < k → es.length ≤ m → (∀ e ∈ es, i64E e) → linesP es = q ++ d → d ≠ [] →
    if q = [] ∨ q.getLast? = some 10 then ∃ fs, parseL k m q = .ok fs else parseL k m q = .bad []
  | [], k, m, q, d, hk, hm, h, hq, hd => by
    have := List.append_eq_nil_iff.1 (hq.symm.trans rfl : q ++ d = [])
    exact absurd this.2 hd
  | e :: es, k, m, q, d, hk, hm, h, hq, hd => by
    obtain ⟨k, rfl⟩ : ∃ j, k = j + 1 := ⟨k - 1, by omega⟩
    simp only [List.length_cons] at hm
    obtain ⟨h1, h2⟩ := h e List.mem_cons_self
    rw [linesP_cons] at hq
    by_cases hz : q = []
    · rw [if_pos (Or.inl hz)]
      exact ⟨[], by simp [parseL, hz]⟩
    have hl := line_printed e.1 e.2.1 h1 h2 e.2.2 (linesP es)
    have hl0 := line_printed e.1 e.2.1 h1 h2 e.2.2 []
    obtain ⟨c, hc, _, hpre⟩ := lineL_good _ _ _ hl0
    rw [List.append_cancel_right_eq] at hc
    rcases List.append_eq_append_iff.1 hq.symm with ⟨a, ha, hb⟩ | ⟨a, ha, hb⟩
    · -- q = (a part of) the line
      by_cases hza : a = []
      · subst hza
        simp at ha hb
        have : q.getLast? = some 10 := by
          obtain ⟨b, hb1, _⟩ := line_10 e
          rw [← ha, hb1]
          simp
        rw [if_pos (Or.inr this)]
        refine ⟨[e], ?_⟩
        simp only [parseL]
        rw [if_neg hz, if_neg (by omega), ← ha]
        have hl0' : lineL (lineE e) = .ok e [] := by
          have := hl0
          rw [List.append_nil] at this
          exact this
        rw [hl0']
        simp only []
        obtain ⟨k, rfl⟩ : ∃ j, k = j + 1 := ⟨k - 1, by have := List.length_pos_iff.2 hz; omega⟩
        simp [parseL, PR.cons]
      · have hn : q.getLast? ≠ some 10 := by
          intro hg
          obtain ⟨b, hb1, hb2⟩ := line_10 e
          rw [hb1] at ha
          obtain ⟨a', x, rfl⟩ : ∃ a' x, a = a' ++ [x] := ⟨a.dropLast, a.getLast hza, (List.dropLast_concat_getLast hza).symm⟩
          rw [← List.append_assoc] at ha
          have := List.append_inj' ha rfl
          apply hb2
          rw [this.1]
          have hm := List.mem_of_getLast? hg
          simp [hm]
        rw [if_neg (by simp [hz, hn])]
        simp only [parseL]
        rw [if_neg hz, if_neg (by omega), hpre q a (by rw [← hc]; exact ha) hza]
    · -- the line, and a part of the others
      subst ha
      have hq2 := parse_cut es k (m - 1) a d (by have := lineE_pos e; simp at hk; omega) (by omega) (fun x hx => h x (List.mem_cons_of_mem _ hx)) hb hd
      have hstep : parseL (k + 1) m (lineE e ++ a) = (parseL k (m - 1) a).cons e := by
        simp only [parseL]
        rw [if_neg hz, if_neg (by omega)]
        have := line_printed e.1 e.2.1 h1 h2 e.2.2 a
        unfold lineE
        rw [this]
      have hlast : (lineE e ++ a = [] ∨ (lineE e ++ a).getLast? = some 10) ↔ (a = [] ∨ a.getLast? = some 10) := by
        by_cases hza : a = []
        · subst hza
          obtain ⟨b, hb1, _⟩ := line_10 e
          simp [hb1]
        · rw [List.getLast?_append]
          cases hg : a.getLast? with
          | none => rw [List.getLast?_eq_none_iff] at hg; exact absurd hg hza
          | some x => simp [hza, lineE_ne]
      rw [hstep]
      split
      · next hx =>
        rw [if_pos (hlast.1 hx)] at hq2
        obtain ⟨fs, hfs⟩ := hq2
        exact ⟨e :: fs, by rw [hfs]; rfl⟩
      · next hx =>
        rw [if_neg (fun y => hx (hlast.2 y))] at hq2
        rw [hq2]
        rfl
end Go.Proofs.YtaihajmdngoeiaaDoor.Q

-- edits.Print: made by wip/mkprint9.py out of what the changed print tool prints of it
namespace Go.Proofs.YtaihajmdngoeiaaDoor.F
open Go.RowKit Go.Proofs.YtaihajmdngoeiaaDoorW.PrintWords Go.Proofs.YtaihajmdngoeiaaDoorW.PrintLast Go.Proofs.YtaihajmdngoeiaaDoorW.PrintMore
attribute [local go_sem] max2_int min2_int max_two min_two max_three min_three max_four min_four   -- for this text's walks alone
set_option linter.unusedVariables false
set_option linter.unusedSimpArgs false

/-! ### edits_Print: function 9 -/
mutual
def edits_Print.l0 : Nat → List Int → List (S42) → Int → Int → Option (ByteArray)
  | 0, _, _, _, _ => none
  | k + 1, x3, x11, x12, x13 => if x13 < x12 then (if 0 ≤ x13 then (if x13 < (x11.length : Int) then ((strconv_AppendInt_27.f k x3 ((rd_T42 x11 x13).f0) 10).bind fun t143 => (if t143.length < 140737488355328 then ((strconv_AppendInt_27.f k (t143 ++ [44]) ((rd_T42 x11 x13).f1) 10).bind fun t149 => ((some (([32, 34] : List Int) : List Int)).bind fun y152 => (if t149.length + y152.length < 140737488355328 then (edits_Print.l1 k (t149 ++ y152) x11 x12 x13 (((rd_T42 x11 x13).f2).size : Int) 0 ((rd_T42 x11 x13).f0) ((rd_T42 x11 x13).f1) ((rd_T42 x11 x13).f2)) else (none)))) else (none))) else (none)) else (none)) else (some (strOfNums x3))
def edits_Print.l1 : Nat → List Int → List (S42) → Int → Int → Int → Int → Int → Int → ByteArray → Option (ByteArray)
  | 0, _, _, _, _, _, _, _, _, _ => none
  | k + 1, x3, x11, x12, x13, x33, x34, x143000, x143001, x143002 => if x34 < x33 then (if 0 ≤ x34 then (if x34 < (x143002.size : Int) then (if (bt x143002 x34) = 34 then (edits_Print.j2 k x3 (bt x143002 x34) x11 x12 x13 x33 x34 (bt x143002 x34) ((bt x143002 x34) == 34) x143000 x143001 x143002) else (edits_Print.j2 k x3 (bt x143002 x34) x11 x12 x13 x33 x34 (bt x143002 x34) ((bt x143002 x34) == 92) x143000 x143001 x143002)) else (none)) else (none)) else ((some (([34, 10] : List Int) : List Int)).bind fun y158 => (if x3.length + y158.length < 140737488355328 then (edits_Print.l0 k (x3 ++ y158) x11 x12 (wrap64 (x13 + 1))) else (none)))
def edits_Print.j2 : Nat → List Int → Int → List (S42) → Int → Int → Int → Int → Int → Bool → Int → Int → ByteArray → Option (ByteArray)
  | 0, _, _, _, _, _, _, _, _, _, _, _, _ => none
  | k + 1, x3, x7, x11, x12, x13, x33, x34, x41, x46, x143000, x143001, x143002 => if x46 = true then ((some (([92, x7] : List Int) : List Int)).bind fun y164 => (if x3.length + y164.length < 140737488355328 then (edits_Print.l1 k (x3 ++ y164) x11 x12 x13 x33 (wrap64 (x34 + 1)) x143000 x143001 x143002) else (none))) else (if x41 = 10 then ((some (([92, 110] : List Int) : List Int)).bind fun y170 => (if x3.length + y170.length < 140737488355328 then (edits_Print.l1 k (x3 ++ y170) x11 x12 x13 x33 (wrap64 (x34 + 1)) x143000 x143001 x143002) else (none))) else (if x3.length < 140737488355328 then (edits_Print.l1 k (x3 ++ [x7]) x11 x12 x13 x33 (wrap64 (x34 + 1)) x143000 x143001 x143002) else (none)))
end
def edits_Print.f (k : Nat) (l0 : List (S42)) : Option (ByteArray) := if (l0.length : Int) > 65536 then (some (⟨#[]⟩ : ByteArray)) else (edits_Print.l0 k ([] : List Int) l0 (l0.length : Int) 0)
set_option maxHeartbeats 8000000 in
set_option maxRecDepth 100000 in
theorem edits_Print.calls (k : Nat) (A0 : Option Addr) (c0 : Nat) (l0 : List (S42)) (r : ByteArray) (w : World) (hr0 : Kd.C k42 w A0 l0.length l0) (hc0 : l0.length ≤ c0) (h : edits_Print.f k l0 = some r) (hs_ : SG w) :
    Calls Tryd.prog 9 #[.slice A0 l0.length c0] w fun e w' => e = .returned (.string r) ∧ Below w.heap.size w w' := by
  have hu42 := Tryd.underlying42
  have HR0 := Aside0.mk hr0
  have HC0 := Aside0.mk hc0
  clear hr0 hc0
  have HSG := Aside0.mk hs_
  clear hs_
  have HB := Aside0.mk (Below.refl w.heap.size w)
  have H : (if (l0.length : Int) > 65536 then (some (⟨#[]⟩ : ByteArray)) else (edits_Print.l0 k ([] : List Int) l0 (l0.length : Int) 0)) = some r := h
  clear h
  by_cases c2 : (l0.length : Int) > 65536
  · rw [if_pos c2] at H
    have c2b0 : decide (65536 < (l0.length : Int)) = true := decide_eq_true c2
    have c2b1 : decide (65536 < l0.length) = true := decide_eq_true (by omega)
    clear c2
    obtain rfl := Option.some.inj H
    go_enter Tryd.func9, Tryd.ntmps9
    go_wp2
    go_ret
    exact ⟨by first | rfl | (simp [errW_none, errW_some] <;> rfl) | (simp [*, errW_none, errW_some] <;> rfl), by repeat (first | (with_reducible first | exact HB.out | apply below_alloc | apply pw_below_drewN | apply below_drew1) | exact HB.out)⟩
  · rw [if_neg c2] at H
    have c2b0 : decide (65536 < (l0.length : Int)) = false := decide_eq_false c2
    have c2b1 : decide (65536 < l0.length) = false := decide_eq_false (by omega)
    clear c2
    have H' := Aside0.mk H
    clear H
    go_enter Tryd.func9, Tryd.ntmps9
    go_wp2
    go_loopg [3, 13] k (fun kq v3 v13 w' => ∃ (x3_1 : List Int) (x13_1 : Int), v13 = .int .i64 x13_1 ∧ Aside0 (edits_Print.l0 kq x3_1 l0 (l0.length : Int) x13_1 = some r) ∧ Aside0 (kq ≤ k) ∧ Aside0 (Kd.R (Kd.int .u8) 5 w' w.heap.size (fun _ => True) v3 x3_1) ∧ Aside0 (Below w.heap.size w w'))
    case atStart => exact ⟨(([] : List Int)), (0), (by first | rfl | (simp; done) | (simp [*]; done)), H', ⟨Nat.le_refl _⟩, ⟨by first | exact Kd.R_nil _ _ _ _ _ | exact Kd.N_nil _ _ _ _ _ | exact Kd.V_nil _ _ _ _ _ | exact Kd.Q_nil _ _ _ _ _ | exact Kd.S_nil _ _ _ _ _⟩, ⟨by repeat (first | (with_reducible first | exact HB.out | apply below_alloc | apply pw_below_drewN | apply below_drew1) | exact HB.out)⟩⟩
    case round =>
      clear H'
      try clear c2
      try clear c2b0
      try clear c2b1
      try clear p2
      obtain ⟨x3_1, x13_1, rfl, HA, HK1, HO_3, HB⟩ := hrel
      cases gk with
      | zero => exact absurd HA.out (by simp [edits_Print.l0])
      | succ k1 =>
        have H := HA.out
        clear HA
        simp only [edits_Print.l0] at H
        by_cases c3 : x13_1 < (l0.length : Int)
        · rw [if_pos c3] at H
          have c3b0 : decide (x13_1 < (l0.length : Int)) = true := decide_eq_true c3
          clear c3
          by_cases c4 : 0 ≤ x13_1
          · rw [if_pos c4] at H
            have c4b0 : decide (0 ≤ x13_1) = true := decide_eq_true c4
            clear c4
            by_cases c5 : x13_1 < (l0.length : Int)
            · rw [if_pos c5] at H
              have c5b0 : decide (x13_1 < (l0.length : Int)) = true := decide_eq_true c5
              clear c5
              replace H := Option.bind_eq_some_iff.mp H
              obtain ⟨t143, A60, H⟩ := H
              replace H : (if t143.length < 140737488355328 then ((strconv_AppendInt_27.f k1 (t143 ++ [44]) ((rd_T42 l0 x13_1).f1) 10).bind fun t149 => ((some (([32, 34] : List Int) : List Int)).bind fun y152 => (if t149.length + y152.length < 140737488355328 then (edits_Print.l1 k1 (t149 ++ y152) l0 (l0.length : Int) x13_1 (((rd_T42 l0 x13_1).f2).size : Int) 0 ((rd_T42 l0 x13_1).f0) ((rd_T42 l0 x13_1).f1) ((rd_T42 l0 x13_1).f2)) else (none)))) else (none)) = some r := H
              have A6 := Aside0.mk A60
              clear A60
              by_cases c7 : t143.length < 140737488355328
              · rw [if_pos c7] at H
                have LMc7 := Aside0.mk c7
                clear c7
                obtain ⟨y146, hy146⟩ : ∃ y_ : List Int, y_ = (t143 ++ [44]) := ⟨_, rfl⟩
                replace H : ((strconv_AppendInt_27.f k1 y146 ((rd_T42 l0 x13_1).f1) 10).bind fun t149 => ((some (([32, 34] : List Int) : List Int)).bind fun y152 => (if t149.length + y152.length < 140737488355328 then (edits_Print.l1 k1 (t149 ++ y152) l0 (l0.length : Int) x13_1 (((rd_T42 l0 x13_1).f2).size : Int) 0 ((rd_T42 l0 x13_1).f0) ((rd_T42 l0 x13_1).f1) ((rd_T42 l0 x13_1).f2)) else (none)))) = some r := by first | (rw [hy146]; with_reducible exact H) | (have H2_ := (Option.bind_some _ _).symm.trans H; rw [hy146]; with_reducible exact H2_) | (have H2_ := (Option.bind_some _ _).symm.trans H; with_reducible exact H2_) | with_reducible exact H | (rw [hy146]; exact H) | exact H
                have Ny146 := Aside0.mk hy146
                clear hy146
                replace H := Option.bind_eq_some_iff.mp H
                obtain ⟨t149, A80, H⟩ := H
                replace H : ((some (([32, 34] : List Int) : List Int)).bind fun y152 => (if t149.length + y152.length < 140737488355328 then (edits_Print.l1 k1 (t149 ++ y152) l0 (l0.length : Int) x13_1 (((rd_T42 l0 x13_1).f2).size : Int) 0 ((rd_T42 l0 x13_1).f0) ((rd_T42 l0 x13_1).f1) ((rd_T42 l0 x13_1).f2)) else (none))) = some r := H
                have A8 := Aside0.mk A80
                clear A80
                obtain ⟨y152, hy152⟩ : ∃ y_ : List Int, y_ = (([32, 34] : List Int)) := ⟨_, rfl⟩
                replace H : (if t149.length + y152.length < 140737488355328 then (edits_Print.l1 k1 (t149 ++ y152) l0 (l0.length : Int) x13_1 (((rd_T42 l0 x13_1).f2).size : Int) 0 ((rd_T42 l0 x13_1).f0) ((rd_T42 l0 x13_1).f1) ((rd_T42 l0 x13_1).f2)) else (none)) = some r := by first | (rw [hy152]; with_reducible exact H) | (have H2_ := (Option.bind_some _ _).symm.trans H; rw [hy152]; with_reducible exact H2_) | (have H2_ := (Option.bind_some _ _).symm.trans H; with_reducible exact H2_) | with_reducible exact H | (rw [hy152]; exact H) | exact H
                have Ny152 := Aside0.mk hy152
                clear hy152
                by_cases c9 : t149.length + y152.length < 140737488355328
                · rw [if_pos c9] at H
                  have LMc9 := Aside0.mk c9
                  clear c9
                  obtain ⟨y155, hy155⟩ : ∃ y_ : List Int, y_ = (t149 ++ y152) := ⟨_, rfl⟩
                  replace H : (edits_Print.l1 k1 y155 l0 (l0.length : Int) x13_1 (((rd_T42 l0 x13_1).f2).size : Int) 0 ((rd_T42 l0 x13_1).f0) ((rd_T42 l0 x13_1).f1) ((rd_T42 l0 x13_1).f2)) = some r := by first | (rw [hy155]; with_reducible exact H) | (have H2_ := (Option.bind_some _ _).symm.trans H; rw [hy155]; with_reducible exact H2_) | (have H2_ := (Option.bind_some _ _).symm.trans H; with_reducible exact H2_) | with_reducible exact H | (rw [hy155]; exact H) | exact H
                  have Ny155 := Aside0.mk hy155
                  clear hy155
                  have H' := Aside0.mk H
                  clear H
                  have p141 : 0 ≤ (x13_1 : Int) := of_decide_eq_true (by first | (with_reducible assumption) | assumption)
                  have q141 : x13_1 < (l0.length : Int) := of_decide_eq_true (by first | (with_reducible assumption) | assumption)
                  obtain ⟨ad141, e141, hx141_0, hx141_1, hx141_2⟩ := at_T42 HR0.out x13_1 p141 q141
                  cases e141
                  replace hx141_0 := (HB.out.cell (World.block_lt_of_cell? w _ hx141_0)).trans hx141_0
                  replace hx141_1 := (HB.out.cell (World.block_lt_of_cell? w _ hx141_1)).trans hx141_1
                  replace hx141_2 := (HB.out.cell (World.block_lt_of_cell? w _ hx141_2)).trans hx141_2
                  replace p141 := eq_true p141
                  replace q141 := eq_true q141
                  go_wp2_with (first | ((with_reducible refine gate_dst (N := 5) rfl ?_); refine box_event ?hg (N := 5) ?hd (cs := #[.int .i64 0, .int .i64 0, .string (⟨#[]⟩ : ByteArray)]) (t := 42) ?hr ?_; (case hd => rfl); (case hg => rfl); (case hr => first | (go_simp; done) | (go_simp; rfl)); intro gb142 hg w10 hbox hb; have n0_ := Aside0.mk (Kd.R_below (by (with_reducible repeat (first | apply Kd.R_alloc | apply Kd.R_drewN | apply Kd.R_drew)); exact HO_3.out) hb); have n1_ := Aside0.mk (below_step (by repeat (first | (with_reducible first | exact HB.out | apply below_alloc | apply pw_below_drewN | apply below_drew1) | exact HB.out)) hb); have n2_ := Aside0.mk (hbox); have n3_ := Aside0.mk ((by rw [hg]; exact (below_size (by repeat (first | (with_reducible first | exact HB.out | apply below_alloc | apply pw_below_drewN | apply below_drew1) | exact HB.out))) : w.heap.size ≤ gb142)); have n4_ := Aside0.mk ((by rw [hg]; exact (below_size (by repeat (first | (with_reducible first | exact HB.out | apply below_alloc | apply pw_below_drewN | apply below_drew1) | exact HB.out))) : w.heap.size ≤ gb142)); clear HO_3; clear HB; have HO_3 := n0_; have HB := n1_; have BK142 := n2_; have GW142 := n3_; have GE142 := n4_; clear n0_ n1_ n2_ n3_ n4_; clear hb hbox hg; have hcz11_0 : w10.cell? ⟨gb142, 0, none⟩ = some (.int .i64 0) := (blk_cell BK142.out 0).trans rfl; have hcz11_1 : w10.cell? ⟨gb142, 1, none⟩ = some (.int .i64 0) := (blk_cell BK142.out 1).trans rfl; have hcz11_2 : w10.cell? ⟨gb142, 2, none⟩ = some (.string (⟨#[]⟩ : ByteArray)) := (blk_cell BK142.out 2).trans rfl; have hfz11_0 := blk_frozen BK142.out 0; have hfz11_1 := blk_frozen BK142.out 1; have hfz11_2 := blk_frozen BK142.out 2; obtain ⟨Ao12, co12, eo12⟩ := Kd.R_slice HO_3.out; subst eo12) | ((with_reducible refine gate_callee (f := 27) rfl ?_); refine goesL_ (some 20) rfl rfl Tryd.func27 (by kernel_rfl) rfl #[.slice Ao12 x3_1.length co12, .int .i64 ((rd_T42 l0 x13_1).f0), .int .i64 10] rfl (by (try simp only [List.map_toArray, List.map_cons, List.map_nil]); first | done | rfl | (simp only [List.length_drop, List.length_take]; rfl)) ?_; (with_reducible refine (appendInt_own k1 x3_1 ((rd_T42 l0 x13_1).f0) t143 (.slice Ao12 x3_1.length co12) w.heap.size _ A6.out ?side1 ?side2 ?side3).mono ?_); (case side1 => exact (by (with_reducible repeat (first | apply Kd.R_alloc | apply Kd.R_drewN | apply Kd.R_drew)); exact (Kd.R_mono (Kd.R_far (p := ⟨gb142, 2, none⟩) (Kd.R_far (p := ⟨gb142, 1, none⟩) (Kd.R_far (p := ⟨gb142, 0, none⟩) (Kd.R_types HO_3.out BK142.out (by decide)) (fun _ hk => hk.2) (.int .i64 ((rd_T42 l0 x13_1).f0))) (fun _ hk => hk.2) (.int .i64 ((rd_T42 l0 x13_1).f1))) (fun _ hk => hk.2) (.string ((rd_T42 l0 x13_1).f2))) (fun _ h_ => h_.1)))); (case side2 => exact (below_size (by repeat (first | (with_reducible first | exact HB.out | apply below_alloc | apply pw_below_drewN | apply below_drew1 | refine below_set ?_ GE142.out) | exact HB.out)))); (case side3 => exact SG.far (B := 0) HSG.out (by repeat (first | (with_reducible first | exact HB.out | apply below_alloc | apply pw_below_drewN | apply below_drew1 | refine below_set ?_ GE142.out) | exact HB.out))); rintro e w13 ⟨v144, rfl, ho0, hb, hk⟩; refine ⟨_, rfl, ?_⟩; have n0_ := Aside0.mk ho0; have n1_ := Aside0.mk (hk gb142 (.cells #[.int .i64 ((rd_T42 l0 x13_1).f0), .int .i64 ((rd_T42 l0 x13_1).f1), .string ((rd_T42 l0 x13_1).f2)] 42 (0, 0)) (by (with_reducible repeat (first | refine blk_drewN ?_ _ | refine blk_drew ?_ | refine blk_alloc ?_ _)); refine blk_put (cs := #[.int .i64 ((rd_T42 l0 x13_1).f0), .int .i64 ((rd_T42 l0 x13_1).f1), .string (⟨#[]⟩ : ByteArray)]) ?_ 2 _ rfl; (with_reducible repeat (first | refine blk_drewN ?_ _ | refine blk_drew ?_ | refine blk_alloc ?_ _)); refine blk_put (cs := #[.int .i64 ((rd_T42 l0 x13_1).f0), .int .i64 0, .string (⟨#[]⟩ : ByteArray)]) ?_ 1 _ rfl; (with_reducible repeat (first | refine blk_drewN ?_ _ | refine blk_drew ?_ | refine blk_alloc ?_ _)); refine blk_put (cs := #[.int .i64 0, .int .i64 0, .string (⟨#[]⟩ : ByteArray)]) ?_ 0 _ rfl; (with_reducible repeat (first | refine blk_drewN ?_ _ | refine blk_drew ?_ | refine blk_alloc ?_ _)); exact BK142.out) (by simp) (by intro c fz h; injection h with _ h _; exact absurd h (by decide))); have n2_ := Aside0.mk (Below.trans (by repeat (first | (with_reducible first | exact HB.out | apply below_alloc | apply pw_below_drewN | apply below_drew1 | refine below_set ?_ GE142.out) | exact HB.out)) hb); clear HB; clear BK142; clear HO_3; have HO145 := n0_; have BK142 := n1_; have HB := n2_; clear n0_ n1_ n2_; clear ho0 hb hk) | ((with_reducible refine gate_builtin (b := .append) (xs := #[.tmp 21, .tmp 22]) rfl ?_); at_builtin; refine Kd.R_append (Kd.int .u8) (w0 := w) w.heap.size rfl (.tmp 21) (.tmp 22) 59 5 (.int .u8 0) 1 rfl Tryd.underlying59 info5 rfl (by decide) (by omega) v144 t143 44 [.int .u8 44] (fun _ => True) (fun _ => False) rfl rfl ?aP (fun _ hk => hk.elim) ?aF ?aO ?aB ?aS ?aL ?_; (case aP => exact rfl); (case aB => exact (by repeat (first | (with_reducible first | exact HB.out | apply below_alloc | apply pw_below_drewN | apply below_drew1 | refine below_set ?_ GE142.out) | exact HB.out))); (case aF => exact (fun _ _ => trivial)); (case aO => exact (by (with_reducible repeat (first | apply Kd.R_alloc | apply Kd.R_drewN | apply Kd.R_drew)); exact HO145.out)); (case aS => exact (below_size (by repeat (first | (with_reducible first | exact HB.out | apply below_alloc | apply pw_below_drewN | apply below_drew1 | refine below_set ?_ GE142.out) | exact HB.out)))); (case aL => have := LMc7.out; omega); intro v147 w14 ho hb hg hat; rw [← Ny146.out] at ho; have n0_ := Aside0.mk (blk_grown (g := gb142) (o := .cells #[.int .i64 ((rd_T42 l0 x13_1).f0), .int .i64 ((rd_T42 l0 x13_1).f1), .string ((rd_T42 l0 x13_1).f2)] 42 (0, 0)) (by (with_reducible repeat (first | refine blk_drewN ?_ _ | refine blk_drew ?_ | refine blk_alloc ?_ _)); exact BK142.out) hg (Kd.R_ne HO145.out BK142.out (by decide))); have n1_ := Aside0.mk (hb); have n2_ := Aside0.mk (ho); clear BK142; clear HB; clear HO145; have BK142 := n0_; have HB := n1_; have HO148 := n2_; clear n0_ n1_ n2_; clear ho hb hg hat; have hcz15_0 : w14.cell? ⟨gb142, 0, none⟩ = some (.int .i64 ((rd_T42 l0 x13_1).f0)) := (blk_cell BK142.out 0).trans rfl; have hcz15_1 : w14.cell? ⟨gb142, 1, none⟩ = some (.int .i64 ((rd_T42 l0 x13_1).f1)) := (blk_cell BK142.out 1).trans rfl; have hcz15_2 : w14.cell? ⟨gb142, 2, none⟩ = some (.string ((rd_T42 l0 x13_1).f2)) := (blk_cell BK142.out 2).trans rfl; have hfz15_0 := blk_frozen BK142.out 0; have hfz15_1 := blk_frozen BK142.out 1; have hfz15_2 := blk_frozen BK142.out 2; obtain ⟨Ao16, co16, eo16⟩ := Kd.R_slice HO148.out; subst eo16) | ((with_reducible refine gate_callee (f := 27) rfl ?_); refine goesL_ (some 27) rfl rfl Tryd.func27 (by kernel_rfl) rfl #[.slice Ao16 y146.length co16, .int .i64 ((rd_T42 l0 x13_1).f1), .int .i64 10] rfl (by (try simp only [List.map_toArray, List.map_cons, List.map_nil]); first | done | rfl | (simp only [List.length_drop, List.length_take]; rfl)) ?_; (with_reducible refine (appendInt_own k1 y146 ((rd_T42 l0 x13_1).f1) t149 (.slice Ao16 y146.length co16) w.heap.size _ A8.out ?side1 ?side2 ?side3).mono ?_); (case side1 => exact (by (with_reducible repeat (first | apply Kd.R_alloc | apply Kd.R_drewN | apply Kd.R_drew)); exact HO148.out)); (case side2 => exact (below_size (by repeat (first | (with_reducible first | exact HB.out | apply below_alloc | apply pw_below_drewN | apply below_drew1 | refine below_set ?_ GE142.out) | exact HB.out)))); (case side3 => exact SG.far (B := 0) HSG.out (by repeat (first | (with_reducible first | exact HB.out | apply below_alloc | apply pw_below_drewN | apply below_drew1 | refine below_set ?_ GE142.out) | exact HB.out))); rintro e w17 ⟨v150, rfl, ho0, hb, hk⟩; refine ⟨_, rfl, ?_⟩; have n0_ := Aside0.mk ho0; have n1_ := Aside0.mk (hk gb142 (.cells #[.int .i64 ((rd_T42 l0 x13_1).f0), .int .i64 ((rd_T42 l0 x13_1).f1), .string ((rd_T42 l0 x13_1).f2)] 42 (0, 0)) (by (with_reducible repeat (first | refine blk_drewN ?_ _ | refine blk_drew ?_ | refine blk_alloc ?_ _)); exact BK142.out) (by simp) (by intro c fz h; injection h with _ h _; exact absurd h (by decide))); have n2_ := Aside0.mk (Below.trans (by repeat (first | (with_reducible first | exact HB.out | apply below_alloc | apply pw_below_drewN | apply below_drew1 | refine below_set ?_ GE142.out) | exact HB.out)) hb); clear HB; clear BK142; clear HO148; have HO151 := n0_; have BK142 := n1_; have HB := n2_; clear n0_ n1_ n2_; clear ho0 hb hk) | ((with_reducible refine gate_dst (N := 29) rfl ?_); refine Kd.R_lit (Kd.int .u8) _ 5 ?hg (N := 29) ?hd (xs := ([32, 34] : List Int)) (inner := [.int .u8 32, .int .u8 34]) (ok := fun _ => True) (okp := fun _ => True) ?hr ?hp (fun _ hk => hk) trivial (Below.refl _ _) (Nat.le_refl _) (by simp) ?_; (case hd => rfl); (case hg => rfl); (case hr => first | (go_simp; done) | (go_simp; rfl)); (case hp => exact (Reps.one (show Kd.M (Kd.int .u8) _ _ _ 32 [.int .u8 32] from rfl) (Reps.one (show Kd.M (Kd.int .u8) _ _ _ 34 [.int .u8 34] from rfl) (Reps.none _ _)))); intro v153 w18 ho19 hb hg_ hnew_; clear hg_ hnew_; (first | rw [← Ny152.out] at ho19 | (simp only [Int.reduceToNat] at ho19; rw [← Ny152.out] at ho19)); have n0_ := Aside0.mk (Kd.R_elder' (by (with_reducible repeat (first | apply Kd.R_alloc | apply Kd.R_drewN | apply Kd.R_drew)); exact HO151.out) (Kd.R_base ho19) hb); have n1_ := Aside0.mk (Kd.R_lower (Kd.R_new' ho19 (Kd.R_lt (by (with_reducible repeat (first | apply Kd.R_alloc | apply Kd.R_drewN | apply Kd.R_drew)); exact HO151.out))) (below_size (by repeat (first | (with_reducible first | exact HB.out | apply below_alloc | apply pw_below_drewN | apply below_drew1 | refine below_set ?_ GE142.out) | exact HB.out)))); have n2_ := Aside0.mk (blk_below (g := gb142) (o := .cells #[.int .i64 ((rd_T42 l0 x13_1).f0), .int .i64 ((rd_T42 l0 x13_1).f1), .string ((rd_T42 l0 x13_1).f2)] 42 (0, 0)) (by (with_reducible repeat (first | refine blk_drewN ?_ _ | refine blk_drew ?_ | refine blk_alloc ?_ _)); exact BK142.out) hb); have n3_ := Aside0.mk (below_step (by repeat (first | (with_reducible first | exact HB.out | apply below_alloc | apply pw_below_drewN | apply below_drew1 | refine below_set ?_ GE142.out) | exact HB.out)) hb); clear HO151; clear BK142; clear HB; have HO151 := n0_; have HO154 := n1_; have BK142 := n2_; have HB := n3_; clear n0_ n1_ n2_ n3_; clear hb ho19; obtain ⟨Ao21, co21, eo21⟩ := Kd.R_slice HO154.out; subst eo21) | ((with_reducible refine gate_builtin (b := .append) (xs := #[.tmp 28, .tmp 29]) rfl ?_); at_builtin; refine Kd.R_append_rows (Kd.int .u8) (w0 := w) w.heap.size rfl (.tmp 28) (.tmp 29) 59 5 (.int .u8 0) 1 rfl Tryd.underlying59 info5 rfl (by decide) (by omega) v150 t149 y152 _ _ _ (fun k_ => some k_ ≠ (.slice Ao21 y152.length co21 : Value).ownBlock) (fun _ => False) rfl rfl ?aO ?aR (fun _ _ h => h) (fun _ h => h.elim) ?aF ?aB ?aS ?aL ?_; (case aR => repeat (first | exact (Kd.R_reads' HO154.out).2.2 | (with_reducible refine Kd.C_alloc ?_ _) | (with_reducible refine Kd.C_drewN ?_ _) | (with_reducible refine Kd.C_drew ?_))); (case aB => exact (by repeat (first | (with_reducible first | exact HB.out | apply below_alloc | apply pw_below_drewN | apply below_drew1 | refine below_set ?_ GE142.out) | exact HB.out))); (case aF => exact (fun k_ hk => Kd.fresh' (Kd.R_lt (by (with_reducible repeat (first | apply Kd.R_alloc | apply Kd.R_drewN | apply Kd.R_drew)); exact HO154.out)) k_ hk)); (case aO => exact (by (with_reducible repeat (first | apply Kd.R_alloc | apply Kd.R_drewN | apply Kd.R_drew)); exact Kd.R_mono HO151.out (fun _ hk => hk.2))); (case aS => exact (below_size (by repeat (first | (with_reducible first | exact HB.out | apply below_alloc | apply pw_below_drewN | apply below_drew1 | refine below_set ?_ GE142.out) | exact HB.out)))); (case aL => have := LMc9.out; omega); intro v156 w20 ho hb hg hat; rw [← Ny155.out] at ho; have n0_ := Aside0.mk (blk_grown (g := gb142) (o := .cells #[.int .i64 ((rd_T42 l0 x13_1).f0), .int .i64 ((rd_T42 l0 x13_1).f1), .string ((rd_T42 l0 x13_1).f2)] 42 (0, 0)) (by (with_reducible repeat (first | refine blk_drewN ?_ _ | refine blk_drew ?_ | refine blk_alloc ?_ _)); exact BK142.out) hg (Kd.R_ne HO151.out BK142.out (by decide))); have n1_ := Aside0.mk (hb); have n2_ := Aside0.mk (ho); clear BK142; clear HB; clear HO151; clear HO154; have BK142 := n0_; have HB := n1_; have HO157 := n2_; clear n0_ n1_ n2_; clear ho hb hg hat; have hcz22_0 : w20.cell? ⟨gb142, 0, none⟩ = some (.int .i64 ((rd_T42 l0 x13_1).f0)) := (blk_cell BK142.out 0).trans rfl; have hcz22_1 : w20.cell? ⟨gb142, 1, none⟩ = some (.int .i64 ((rd_T42 l0 x13_1).f1)) := (blk_cell BK142.out 1).trans rfl; have hcz22_2 : w20.cell? ⟨gb142, 2, none⟩ = some (.string ((rd_T42 l0 x13_1).f2)) := (blk_cell BK142.out 2).trans rfl; have hfz22_0 := blk_frozen BK142.out 0; have hfz22_1 := blk_frozen BK142.out 1; have hfz22_2 := blk_frozen BK142.out 2))
                  go_loopg [3, 34] k1 (fun kq v3 v34 w' => ∃ (x3_2 : List Int) (x34_2 : Int), v34 = .int .i64 x34_2 ∧ Aside0 (edits_Print.l1 kq x3_2 l0 (l0.length : Int) x13_1 (((rd_T42 l0 x13_1).f2).size : Int) x34_2 ((rd_T42 l0 x13_1).f0) ((rd_T42 l0 x13_1).f1) ((rd_T42 l0 x13_1).f2) = some r) ∧ Aside0 (kq ≤ k1) ∧ Aside0 (Kd.R (Kd.int .u8) 5 w' w.heap.size (fun _ => True) v3 x3_2) ∧ Aside0 (w'.heap[gb142]? = some (.cells #[.int .i64 ((rd_T42 l0 x13_1).f0), .int .i64 ((rd_T42 l0 x13_1).f1), .string ((rd_T42 l0 x13_1).f2)] 42 (0, 0))) ∧ Aside0 (Below w.heap.size w w'))
                  case atStart => exact ⟨(y155), (0), (by first | rfl | (simp; done) | (simp [*]; done)), H', ⟨Nat.le_refl _⟩, ⟨by (with_reducible repeat (first | apply Kd.R_alloc | apply Kd.R_drewN | apply Kd.R_drew)); exact Kd.R_mono HO157.out (fun _ hk => trivial)⟩, ⟨by (with_reducible repeat (first | refine blk_drewN ?_ _ | refine blk_drew ?_ | refine blk_alloc ?_ _)); exact BK142.out⟩, ⟨by repeat (first | (with_reducible first | exact HB.out | apply below_alloc | apply pw_below_drewN | apply below_drew1 | refine below_set ?_ GE142.out) | exact HB.out)⟩⟩
                  case round =>
                    clear H'
                    try clear p1
                    try clear q1
                    try clear hx1
                    try clear c2
                    try clear c2b0
                    try clear c2b1
                    try clear p2
                    try clear c3
                    try clear c3b0
                    try clear c4
                    try clear c4b0
                    try clear c5
                    try clear c5b0
                    try clear c7
                    try clear c9
                    try clear p14
                    try clear q14
                    try clear hx14
                    try clear hcz11_0
                    try clear hcz11_1
                    try clear hcz11_2
                    try clear hcz15_0
                    try clear hcz15_1
                    try clear hcz15_2
                    try clear hcz22_0
                    try clear hcz22_1
                    try clear hcz22_2
                    try clear hfz11_0
                    try clear hfz11_1
                    try clear hfz11_2
                    try clear hfz15_0
                    try clear hfz15_1
                    try clear hfz15_2
                    try clear hfz22_0
                    try clear hfz22_1
                    try clear hfz22_2
                    try clear hx141_0
                    try clear hx141_1
                    try clear hx141_2
                    try clear p141
                    try clear p2
                    try clear q141
                    obtain ⟨x3_2, x34_2, rfl, HA, HK2, HO_3, BK142, HB⟩ := hrel
                    cases gk with
                    | zero => exact absurd HA.out (by simp [edits_Print.l1])
                    | succ k2 =>
                      have H := HA.out
                      clear HA
                      simp only [edits_Print.l1] at H
                      by_cases c23 : x34_2 < (((rd_T42 l0 x13_1).f2).size : Int)
                      · rw [if_pos c23] at H
                        have c23b0 : decide (x34_2 < (((rd_T42 l0 x13_1).f2).size : Int)) = true := decide_eq_true c23
                        clear c23
                        by_cases c24 : 0 ≤ x34_2
                        · rw [if_pos c24] at H
                          have c24b0 : decide (0 ≤ x34_2) = true := decide_eq_true c24
                          clear c24
                          by_cases c25 : x34_2 < (((rd_T42 l0 x13_1).f2).size : Int)
                          · rw [if_pos c25] at H
                            have c25b0 : decide (x34_2 < (((rd_T42 l0 x13_1).f2).size : Int)) = true := decide_eq_true c25
                            clear c25
                            have HC27 := Aside0.mk H
                            clear H
                            have hcz28_0 : wr.cell? ⟨gb142, 0, none⟩ = some (.int .i64 ((rd_T42 l0 x13_1).f0)) := (blk_cell BK142.out 0).trans rfl
                            have hcz28_1 : wr.cell? ⟨gb142, 1, none⟩ = some (.int .i64 ((rd_T42 l0 x13_1).f1)) := (blk_cell BK142.out 1).trans rfl
                            have hcz28_2 : wr.cell? ⟨gb142, 2, none⟩ = some (.string ((rd_T42 l0 x13_1).f2)) := (blk_cell BK142.out 2).trans rfl
                            have hfz28_0 := blk_frozen BK142.out 0
                            have hfz28_1 := blk_frozen BK142.out 1
                            have hfz28_2 := blk_frozen BK142.out 2
                            have p26 : 0 ≤ (x34_2 : Int) := of_decide_eq_true (by first | (with_reducible assumption) | assumption)
                            have q26 : x34_2 < (((rd_T42 l0 x13_1).f2).size : Int) := of_decide_eq_true (by first | (with_reducible assumption) | assumption)
                            have hx26 := bt_at ((rd_T42 l0 x13_1).f2) x34_2
                            replace p26 := eq_true p26
                            replace q26 := eq_true q26
                            go_upto_if 46 with (fail)
                            go_cut [46] (fun v46 wc => ∃ (kq : Nat) (x46_26 : Bool), v46 = .bool x46_26 ∧ Aside0 (edits_Print.j2 kq x3_2 (bt ((rd_T42 l0 x13_1).f2) x34_2) l0 (l0.length : Int) x13_1 (((rd_T42 l0 x13_1).f2).size : Int) x34_2 (bt ((rd_T42 l0 x13_1).f2) x34_2) x46_26 ((rd_T42 l0 x13_1).f0) ((rd_T42 l0 x13_1).f1) ((rd_T42 l0 x13_1).f2) = some r) ∧ Aside0 (kq ≤ k2) ∧ Aside0 (Kd.R (Kd.int .u8) 5 wc w.heap.size (fun _ => True) u3 x3_2) ∧ Aside0 (wc.heap[gb142]? = some (.cells #[.int .i64 ((rd_T42 l0 x13_1).f0), .int .i64 ((rd_T42 l0 x13_1).f1), .string ((rd_T42 l0 x13_1).f2)] 42 (0, 0))) ∧ Aside0 (Below w.heap.size w wc))
                            case first =>
                              have H := HC27.out
                              clear HC27
                              by_cases c29 : (bt ((rd_T42 l0 x13_1).f2) x34_2) = 34
                              · rw [if_pos c29] at H
                                have c29b0 : ((bt ((rd_T42 l0 x13_1).f2) x34_2) == 34) = true := beq_iff_eq.mpr c29
                                have c29b1 : ((bt ((rd_T42 l0 x13_1).f2) x34_2) != 34) = false := bne_eq_false_iff_eq.mpr c29
                                clear c29
                                (first | rw [c29b0] | (simp only [i64_w, i32_w]; rw [c29b0]) | skip)
                                have H' := Aside0.mk H
                                clear H
                                go_wp2
                                go_meet
                                case rel => exact ⟨_, (((bt ((rd_T42 l0 x13_1).f2) x34_2) == 34)), (by first | rfl | (simp; done) | (simp [*]; done)), H', ⟨by have := HK1.out; have := HK2.out; first | omega | exact Nat.le_refl _⟩, ⟨by (with_reducible repeat (first | apply Kd.R_alloc | apply Kd.R_drewN | apply Kd.R_drew)); exact HO_3.out⟩, ⟨by (with_reducible repeat (first | refine blk_drewN ?_ _ | refine blk_drew ?_ | refine blk_alloc ?_ _)); exact BK142.out⟩, ⟨by repeat (first | (with_reducible first | exact HB.out | apply below_alloc | apply pw_below_drewN | apply below_drew1 | refine below_set ?_ GE142.out) | exact HB.out)⟩⟩
                              · rw [if_neg c29] at H
                                have c29b0 : ((bt ((rd_T42 l0 x13_1).f2) x34_2) == 34) = false := beq_eq_false_iff_ne.mpr c29
                                have c29b1 : ((bt ((rd_T42 l0 x13_1).f2) x34_2) != 34) = true := bne_iff_ne.mpr c29
                                (first | rw [c29b0] | (simp only [i64_w, i32_w]; rw [c29b0]) | skip)
                                have H' := Aside0.mk H
                                clear H
                                go_wp2
                                go_meet
                                case rel => exact ⟨_, (((bt ((rd_T42 l0 x13_1).f2) x34_2) == 92)), (by first | rfl | (simp; done) | (simp [*]; done)), H', ⟨by have := HK1.out; have := HK2.out; first | omega | exact Nat.le_refl _⟩, ⟨by (with_reducible repeat (first | apply Kd.R_alloc | apply Kd.R_drewN | apply Kd.R_drew)); exact HO_3.out⟩, ⟨by (with_reducible repeat (first | refine blk_drewN ?_ _ | refine blk_drew ?_ | refine blk_alloc ?_ _)); exact BK142.out⟩, ⟨by repeat (first | (with_reducible first | exact HB.out | apply below_alloc | apply pw_below_drewN | apply below_drew1 | refine below_set ?_ GE142.out) | exact HB.out)⟩⟩
                            case rest =>
                              clear HC27
                              try clear p1
                              try clear q1
                              try clear hx1
                              try clear c2
                              try clear c2b0
                              try clear c2b1
                              try clear p2
                              try clear q2
                              try clear hx2
                              try clear c3
                              try clear c3b0
                              try clear c4
                              try clear c4b0
                              try clear c5
                              try clear c5b0
                              try clear c7
                              try clear c9
                              try clear p14
                              try clear q14
                              try clear hx14
                              try clear c23
                              try clear c23b0
                              try clear c24
                              try clear c24b0
                              try clear c25
                              try clear c25b0
                              try clear p26
                              try clear q26
                              try clear hx26
                              try clear c27
                              try clear c29
                              try clear c29b0
                              try clear c29b1
                              try clear hcz11_0
                              try clear hcz11_1
                              try clear hcz11_2
                              try clear hcz15_0
                              try clear hcz15_1
                              try clear hcz15_2
                              try clear hcz22_0
                              try clear hcz22_1
                              try clear hcz22_2
                              try clear hcz28_0
                              try clear hcz28_1
                              try clear hcz28_2
                              try clear hfz11_0
                              try clear hfz11_1
                              try clear hfz11_2
                              try clear hfz15_0
                              try clear hfz15_1
                              try clear hfz15_2
                              try clear hfz22_0
                              try clear hfz22_1
                              try clear hfz22_2
                              try clear hfz28_0
                              try clear hfz28_1
                              try clear hfz28_2
                              try clear hx141_0
                              try clear hx141_1
                              try clear hx141_2
                              try clear p1
                              try clear p14
                              try clear p141
                              try clear p2
                              try clear p26
                              try clear q1
                              try clear q14
                              try clear q141
                              try clear q26
                              obtain ⟨kq, x46_26, rfl, HA, HJ26, HO_3, BK142, HB⟩ := hcut
                              cases kq with
                              | zero => exact absurd HA.out (by simp [edits_Print.j2])
                              | succ kj26 =>
                                have H := HA.out
                                clear HA
                                simp only [edits_Print.j2] at H
                                by_cases c30 : x46_26 = true
                                · subst c30
                                  have H1 : ((some (([92, (bt ((rd_T42 l0 x13_1).f2) x34_2)] : List Int) : List Int)).bind fun y164 => (if x3_2.length + y164.length < 140737488355328 then (edits_Print.l1 kj26 (x3_2 ++ y164) l0 (l0.length : Int) x13_1 (((rd_T42 l0 x13_1).f2).size : Int) (wrap64 (x34_2 + 1)) ((rd_T42 l0 x13_1).f0) ((rd_T42 l0 x13_1).f1) ((rd_T42 l0 x13_1).f2)) else (none))) = some r := by rw [if_pos rfl] at H; exact H
                                  clear H
                                  have H := H1
                                  clear H1
                                  obtain ⟨y164, hy164⟩ : ∃ y_ : List Int, y_ = (([92, (bt ((rd_T42 l0 x13_1).f2) x34_2)] : List Int)) := ⟨_, rfl⟩
                                  replace H : (if x3_2.length + y164.length < 140737488355328 then (edits_Print.l1 kj26 (x3_2 ++ y164) l0 (l0.length : Int) x13_1 (((rd_T42 l0 x13_1).f2).size : Int) (wrap64 (x34_2 + 1)) ((rd_T42 l0 x13_1).f0) ((rd_T42 l0 x13_1).f1) ((rd_T42 l0 x13_1).f2)) else (none)) = some r := by first | (rw [hy164]; with_reducible exact H) | (have H2_ := (Option.bind_some _ _).symm.trans H; rw [hy164]; with_reducible exact H2_) | (have H2_ := (Option.bind_some _ _).symm.trans H; with_reducible exact H2_) | with_reducible exact H | (rw [hy164]; exact H) | exact H
                                  have Ny164 := Aside0.mk hy164
                                  clear hy164
                                  by_cases c31 : x3_2.length + y164.length < 140737488355328
                                  · rw [if_pos c31] at H
                                    have LMc31 := Aside0.mk c31
                                    clear c31
                                    obtain ⟨y167, hy167⟩ : ∃ y_ : List Int, y_ = (x3_2 ++ y164) := ⟨_, rfl⟩
                                    replace H : (edits_Print.l1 kj26 y167 l0 (l0.length : Int) x13_1 (((rd_T42 l0 x13_1).f2).size : Int) (wrap64 (x34_2 + 1)) ((rd_T42 l0 x13_1).f0) ((rd_T42 l0 x13_1).f1) ((rd_T42 l0 x13_1).f2)) = some r := by first | (rw [hy167]; with_reducible exact H) | (have H2_ := (Option.bind_some _ _).symm.trans H; rw [hy167]; with_reducible exact H2_) | (have H2_ := (Option.bind_some _ _).symm.trans H; with_reducible exact H2_) | with_reducible exact H | (rw [hy167]; exact H) | exact H
                                    have Ny167 := Aside0.mk hy167
                                    clear hy167
                                    have H' := Aside0.mk H
                                    clear H
                                    go_wp2_with (first | ((with_reducible refine gate_dst (N := 51) rfl ?_); refine Kd.R_lit (Kd.int .u8) _ 5 ?hg (N := 51) ?hd (xs := ([92, (bt ((rd_T42 l0 x13_1).f2) x34_2)] : List Int)) (inner := [.int .u8 92, .int .u8 (bt ((rd_T42 l0 x13_1).f2) x34_2)]) (ok := fun _ => True) (okp := fun _ => True) ?hr ?hp (fun _ hk => hk) trivial (Below.refl _ _) (Nat.le_refl _) (by simp) ?_; (case hd => rfl); (case hg => rfl); (case hr => first | (go_simp; done) | (go_simp; rfl)); (case hp => exact (Reps.one (show Kd.M (Kd.int .u8) _ _ _ 92 [.int .u8 92] from rfl) (Reps.one (show Kd.M (Kd.int .u8) _ _ _ (bt ((rd_T42 l0 x13_1).f2) x34_2) [.int .u8 (bt ((rd_T42 l0 x13_1).f2) x34_2)] from rfl) (Reps.none _ _)))); intro v165 w32 ho33 hb hg_ hnew_; clear hg_ hnew_; (first | rw [← Ny164.out] at ho33 | (simp only [Int.reduceToNat] at ho33; rw [← Ny164.out] at ho33)); have n0_ := Aside0.mk (Kd.R_elder' (by (with_reducible repeat (first | apply Kd.R_alloc | apply Kd.R_drewN | apply Kd.R_drew)); exact HO_3.out) (Kd.R_base ho33) hb); have n1_ := Aside0.mk (Kd.R_lower (Kd.R_new' ho33 (Kd.R_lt (by (with_reducible repeat (first | apply Kd.R_alloc | apply Kd.R_drewN | apply Kd.R_drew)); exact HO_3.out))) (below_size (by repeat (first | (with_reducible first | exact HB.out | apply below_alloc | apply pw_below_drewN | apply below_drew1 | refine below_set ?_ GE142.out) | exact HB.out)))); have n2_ := Aside0.mk (blk_below (g := gb142) (o := .cells #[.int .i64 ((rd_T42 l0 x13_1).f0), .int .i64 ((rd_T42 l0 x13_1).f1), .string ((rd_T42 l0 x13_1).f2)] 42 (0, 0)) (by (with_reducible repeat (first | refine blk_drewN ?_ _ | refine blk_drew ?_ | refine blk_alloc ?_ _)); exact BK142.out) hb); have n3_ := Aside0.mk (below_step (by repeat (first | (with_reducible first | exact HB.out | apply below_alloc | apply pw_below_drewN | apply below_drew1 | refine below_set ?_ GE142.out) | exact HB.out)) hb); clear HO_3; clear BK142; clear HB; have HO_3 := n0_; have HO166 := n1_; have BK142 := n2_; have HB := n3_; clear n0_ n1_ n2_ n3_; clear hb ho33; obtain ⟨Ao35, co35, eo35⟩ := Kd.R_slice HO166.out; subst eo35) | ((with_reducible refine gate_builtin (b := .append) (xs := #[.tmp 49, .tmp 51]) rfl ?_); at_builtin; refine Kd.R_append_rows (Kd.int .u8) (w0 := w) w.heap.size rfl (.tmp 49) (.tmp 51) 59 5 (.int .u8 0) 1 rfl Tryd.underlying59 info5 rfl (by decide) (by omega) u3 x3_2 y164 _ _ _ (fun k_ => some k_ ≠ (.slice Ao35 y164.length co35 : Value).ownBlock) (fun _ => False) rfl rfl ?aO ?aR (fun _ _ h => h) (fun _ h => h.elim) ?aF ?aB ?aS ?aL ?_; (case aR => repeat (first | exact (Kd.R_reads' HO166.out).2.2 | (with_reducible refine Kd.C_alloc ?_ _) | (with_reducible refine Kd.C_drewN ?_ _) | (with_reducible refine Kd.C_drew ?_))); (case aB => exact (by repeat (first | (with_reducible first | exact HB.out | apply below_alloc | apply pw_below_drewN | apply below_drew1 | refine below_set ?_ GE142.out) | exact HB.out))); (case aF => exact (fun k_ hk => Kd.fresh' (Kd.R_lt (by (with_reducible repeat (first | apply Kd.R_alloc | apply Kd.R_drewN | apply Kd.R_drew)); exact HO166.out)) k_ hk)); (case aO => exact (by (with_reducible repeat (first | apply Kd.R_alloc | apply Kd.R_drewN | apply Kd.R_drew)); exact Kd.R_mono HO_3.out (fun _ hk => hk.2))); (case aS => exact (below_size (by repeat (first | (with_reducible first | exact HB.out | apply below_alloc | apply pw_below_drewN | apply below_drew1 | refine below_set ?_ GE142.out) | exact HB.out)))); (case aL => have := LMc31.out; omega); intro v168 w34 ho hb hg hat; rw [← Ny167.out] at ho; have n0_ := Aside0.mk (blk_grown (g := gb142) (o := .cells #[.int .i64 ((rd_T42 l0 x13_1).f0), .int .i64 ((rd_T42 l0 x13_1).f1), .string ((rd_T42 l0 x13_1).f2)] 42 (0, 0)) (by (with_reducible repeat (first | refine blk_drewN ?_ _ | refine blk_drew ?_ | refine blk_alloc ?_ _)); exact BK142.out) hg (Kd.R_ne HO_3.out BK142.out (by decide))); have n1_ := Aside0.mk (Kd.R_after (ok := (fun _ => True)) (by (with_reducible repeat (first | apply Kd.R_alloc | apply Kd.R_drewN | apply Kd.R_drew)); exact HO166.out) hg hat); have n2_ := Aside0.mk (hb); have n3_ := Aside0.mk (ho); clear BK142; clear HO166; clear HB; clear HO_3; have BK142 := n0_; have HO166 := n1_; have HB := n2_; have HO169 := n3_; clear n0_ n1_ n2_ n3_; clear ho hb hg hat))
                                    go_roundg kj26
                                    case measure => have := HK1.out; have := HK2.out; have := HJ26.out; omega
                                    case rel => exact ⟨(y167), (wrap64 (x34_2 + 1)), (by first | rfl | (simp; done) | (simp [*]; done)), H', ⟨by have := HK1.out; have := HK2.out; have := HJ26.out; omega⟩, ⟨by (with_reducible repeat (first | apply Kd.R_alloc | apply Kd.R_drewN | apply Kd.R_drew)); exact Kd.R_mono HO169.out (fun _ hk => trivial)⟩, ⟨by (with_reducible repeat (first | refine blk_drewN ?_ _ | refine blk_drew ?_ | refine blk_alloc ?_ _)); exact BK142.out⟩, ⟨by repeat (first | (with_reducible first | exact HB.out | apply below_alloc | apply pw_below_drewN | apply below_drew1 | refine below_set ?_ GE142.out) | exact HB.out)⟩⟩
                                  · rw [if_neg c31] at H
                                    exact absurd H (by simp)
                                · replace c30 := Bool.eq_false_iff.mpr c30
                                  subst c30
                                  have H1 : (if (bt ((rd_T42 l0 x13_1).f2) x34_2) = 10 then ((some (([92, 110] : List Int) : List Int)).bind fun y170 => (if x3_2.length + y170.length < 140737488355328 then (edits_Print.l1 kj26 (x3_2 ++ y170) l0 (l0.length : Int) x13_1 (((rd_T42 l0 x13_1).f2).size : Int) (wrap64 (x34_2 + 1)) ((rd_T42 l0 x13_1).f0) ((rd_T42 l0 x13_1).f1) ((rd_T42 l0 x13_1).f2)) else (none))) else (if x3_2.length < 140737488355328 then (edits_Print.l1 kj26 (x3_2 ++ [(bt ((rd_T42 l0 x13_1).f2) x34_2)]) l0 (l0.length : Int) x13_1 (((rd_T42 l0 x13_1).f2).size : Int) (wrap64 (x34_2 + 1)) ((rd_T42 l0 x13_1).f0) ((rd_T42 l0 x13_1).f1) ((rd_T42 l0 x13_1).f2)) else (none))) = some r := by rw [if_neg (show ¬ (false = true) by decide)] at H; exact H
                                  clear H
                                  have H := H1
                                  clear H1
                                  by_cases c36 : (bt ((rd_T42 l0 x13_1).f2) x34_2) = 10
                                  · rw [if_pos c36] at H
                                    have c36b0 : ((bt ((rd_T42 l0 x13_1).f2) x34_2) == 10) = true := beq_iff_eq.mpr c36
                                    have c36b1 : ((bt ((rd_T42 l0 x13_1).f2) x34_2) != 10) = false := bne_eq_false_iff_eq.mpr c36
                                    clear c36
                                    obtain ⟨y170, hy170⟩ : ∃ y_ : List Int, y_ = (([92, 110] : List Int)) := ⟨_, rfl⟩
                                    replace H : (if x3_2.length + y170.length < 140737488355328 then (edits_Print.l1 kj26 (x3_2 ++ y170) l0 (l0.length : Int) x13_1 (((rd_T42 l0 x13_1).f2).size : Int) (wrap64 (x34_2 + 1)) ((rd_T42 l0 x13_1).f0) ((rd_T42 l0 x13_1).f1) ((rd_T42 l0 x13_1).f2)) else (none)) = some r := by first | (rw [hy170]; with_reducible exact H) | (have H2_ := (Option.bind_some _ _).symm.trans H; rw [hy170]; with_reducible exact H2_) | (have H2_ := (Option.bind_some _ _).symm.trans H; with_reducible exact H2_) | with_reducible exact H | (rw [hy170]; exact H) | exact H
                                    have Ny170 := Aside0.mk hy170
                                    clear hy170
                                    by_cases c37 : x3_2.length + y170.length < 140737488355328
                                    · rw [if_pos c37] at H
                                      have LMc37 := Aside0.mk c37
                                      clear c37
                                      obtain ⟨y173, hy173⟩ : ∃ y_ : List Int, y_ = (x3_2 ++ y170) := ⟨_, rfl⟩
                                      replace H : (edits_Print.l1 kj26 y173 l0 (l0.length : Int) x13_1 (((rd_T42 l0 x13_1).f2).size : Int) (wrap64 (x34_2 + 1)) ((rd_T42 l0 x13_1).f0) ((rd_T42 l0 x13_1).f1) ((rd_T42 l0 x13_1).f2)) = some r := by first | (rw [hy173]; with_reducible exact H) | (have H2_ := (Option.bind_some _ _).symm.trans H; rw [hy173]; with_reducible exact H2_) | (have H2_ := (Option.bind_some _ _).symm.trans H; with_reducible exact H2_) | with_reducible exact H | (rw [hy173]; exact H) | exact H
                                      have Ny173 := Aside0.mk hy173
                                      clear hy173
                                      have H' := Aside0.mk H
                                      clear H
                                      go_wp2_with (first | ((with_reducible refine gate_dst (N := 56) rfl ?_); refine Kd.R_lit (Kd.int .u8) _ 5 ?hg (N := 56) ?hd (xs := ([92, 110] : List Int)) (inner := [.int .u8 92, .int .u8 110]) (ok := fun _ => True) (okp := fun _ => True) ?hr ?hp (fun _ hk => hk) trivial (Below.refl _ _) (Nat.le_refl _) (by simp) ?_; (case hd => rfl); (case hg => rfl); (case hr => first | (go_simp; done) | (go_simp; rfl)); (case hp => exact (Reps.one (show Kd.M (Kd.int .u8) _ _ _ 92 [.int .u8 92] from rfl) (Reps.one (show Kd.M (Kd.int .u8) _ _ _ 110 [.int .u8 110] from rfl) (Reps.none _ _)))); intro v171 w38 ho39 hb hg_ hnew_; clear hg_ hnew_; (first | rw [← Ny170.out] at ho39 | (simp only [Int.reduceToNat] at ho39; rw [← Ny170.out] at ho39)); have n0_ := Aside0.mk (Kd.R_elder' (by (with_reducible repeat (first | apply Kd.R_alloc | apply Kd.R_drewN | apply Kd.R_drew)); exact HO_3.out) (Kd.R_base ho39) hb); have n1_ := Aside0.mk (Kd.R_lower (Kd.R_new' ho39 (Kd.R_lt (by (with_reducible repeat (first | apply Kd.R_alloc | apply Kd.R_drewN | apply Kd.R_drew)); exact HO_3.out))) (below_size (by repeat (first | (with_reducible first | exact HB.out | apply below_alloc | apply pw_below_drewN | apply below_drew1 | refine below_set ?_ GE142.out) | exact HB.out)))); have n2_ := Aside0.mk (blk_below (g := gb142) (o := .cells #[.int .i64 ((rd_T42 l0 x13_1).f0), .int .i64 ((rd_T42 l0 x13_1).f1), .string ((rd_T42 l0 x13_1).f2)] 42 (0, 0)) (by (with_reducible repeat (first | refine blk_drewN ?_ _ | refine blk_drew ?_ | refine blk_alloc ?_ _)); exact BK142.out) hb); have n3_ := Aside0.mk (below_step (by repeat (first | (with_reducible first | exact HB.out | apply below_alloc | apply pw_below_drewN | apply below_drew1 | refine below_set ?_ GE142.out) | exact HB.out)) hb); clear HO_3; clear BK142; clear HB; have HO_3 := n0_; have HO172 := n1_; have BK142 := n2_; have HB := n3_; clear n0_ n1_ n2_ n3_; clear hb ho39; obtain ⟨Ao41, co41, eo41⟩ := Kd.R_slice HO172.out; subst eo41) | ((with_reducible refine gate_builtin (b := .append) (xs := #[.tmp 55, .tmp 56]) rfl ?_); at_builtin; refine Kd.R_append_rows (Kd.int .u8) (w0 := w) w.heap.size rfl (.tmp 55) (.tmp 56) 59 5 (.int .u8 0) 1 rfl Tryd.underlying59 info5 rfl (by decide) (by omega) u3 x3_2 y170 _ _ _ (fun k_ => some k_ ≠ (.slice Ao41 y170.length co41 : Value).ownBlock) (fun _ => False) rfl rfl ?aO ?aR (fun _ _ h => h) (fun _ h => h.elim) ?aF ?aB ?aS ?aL ?_; (case aR => repeat (first | exact (Kd.R_reads' HO172.out).2.2 | (with_reducible refine Kd.C_alloc ?_ _) | (with_reducible refine Kd.C_drewN ?_ _) | (with_reducible refine Kd.C_drew ?_))); (case aB => exact (by repeat (first | (with_reducible first | exact HB.out | apply below_alloc | apply pw_below_drewN | apply below_drew1 | refine below_set ?_ GE142.out) | exact HB.out))); (case aF => exact (fun k_ hk => Kd.fresh' (Kd.R_lt (by (with_reducible repeat (first | apply Kd.R_alloc | apply Kd.R_drewN | apply Kd.R_drew)); exact HO172.out)) k_ hk)); (case aO => exact (by (with_reducible repeat (first | apply Kd.R_alloc | apply Kd.R_drewN | apply Kd.R_drew)); exact Kd.R_mono HO_3.out (fun _ hk => hk.2))); (case aS => exact (below_size (by repeat (first | (with_reducible first | exact HB.out | apply below_alloc | apply pw_below_drewN | apply below_drew1 | refine below_set ?_ GE142.out) | exact HB.out)))); (case aL => have := LMc37.out; omega); intro v174 w40 ho hb hg hat; rw [← Ny173.out] at ho; have n0_ := Aside0.mk (blk_grown (g := gb142) (o := .cells #[.int .i64 ((rd_T42 l0 x13_1).f0), .int .i64 ((rd_T42 l0 x13_1).f1), .string ((rd_T42 l0 x13_1).f2)] 42 (0, 0)) (by (with_reducible repeat (first | refine blk_drewN ?_ _ | refine blk_drew ?_ | refine blk_alloc ?_ _)); exact BK142.out) hg (Kd.R_ne HO_3.out BK142.out (by decide))); have n1_ := Aside0.mk (Kd.R_after (ok := (fun _ => True)) (by (with_reducible repeat (first | apply Kd.R_alloc | apply Kd.R_drewN | apply Kd.R_drew)); exact HO172.out) hg hat); have n2_ := Aside0.mk (hb); have n3_ := Aside0.mk (ho); clear BK142; clear HO172; clear HB; clear HO_3; have BK142 := n0_; have HO172 := n1_; have HB := n2_; have HO175 := n3_; clear n0_ n1_ n2_ n3_; clear ho hb hg hat))
                                      go_roundg kj26
                                      case measure => have := HK1.out; have := HK2.out; have := HJ26.out; omega
                                      case rel => exact ⟨(y173), (wrap64 (x34_2 + 1)), (by first | rfl | (simp; done) | (simp [*]; done)), H', ⟨by have := HK1.out; have := HK2.out; have := HJ26.out; omega⟩, ⟨by (with_reducible repeat (first | apply Kd.R_alloc | apply Kd.R_drewN | apply Kd.R_drew)); exact Kd.R_mono HO175.out (fun _ hk => trivial)⟩, ⟨by (with_reducible repeat (first | refine blk_drewN ?_ _ | refine blk_drew ?_ | refine blk_alloc ?_ _)); exact BK142.out⟩, ⟨by repeat (first | (with_reducible first | exact HB.out | apply below_alloc | apply pw_below_drewN | apply below_drew1 | refine below_set ?_ GE142.out) | exact HB.out)⟩⟩
                                    · rw [if_neg c37] at H
                                      exact absurd H (by simp)
                                  · rw [if_neg c36] at H
                                    have c36b0 : ((bt ((rd_T42 l0 x13_1).f2) x34_2) == 10) = false := beq_eq_false_iff_ne.mpr c36
                                    have c36b1 : ((bt ((rd_T42 l0 x13_1).f2) x34_2) != 10) = true := bne_iff_ne.mpr c36
                                    by_cases c42 : x3_2.length < 140737488355328
                                    · rw [if_pos c42] at H
                                      have LMc42 := Aside0.mk c42
                                      clear c42
                                      obtain ⟨y176, hy176⟩ : ∃ y_ : List Int, y_ = (x3_2 ++ [(bt ((rd_T42 l0 x13_1).f2) x34_2)]) := ⟨_, rfl⟩
                                      replace H : (edits_Print.l1 kj26 y176 l0 (l0.length : Int) x13_1 (((rd_T42 l0 x13_1).f2).size : Int) (wrap64 (x34_2 + 1)) ((rd_T42 l0 x13_1).f0) ((rd_T42 l0 x13_1).f1) ((rd_T42 l0 x13_1).f2)) = some r := by first | (rw [hy176]; with_reducible exact H) | (have H2_ := (Option.bind_some _ _).symm.trans H; rw [hy176]; with_reducible exact H2_) | (have H2_ := (Option.bind_some _ _).symm.trans H; with_reducible exact H2_) | with_reducible exact H | (rw [hy176]; exact H) | exact H
                                      have Ny176 := Aside0.mk hy176
                                      clear hy176
                                      have H' := Aside0.mk H
                                      clear H
                                      go_wp2_with (first | ((with_reducible refine gate_builtin (b := .append) (xs := #[.tmp 42, .tmp 44]) rfl ?_); at_builtin; refine Kd.R_append (Kd.int .u8) (w0 := w) w.heap.size rfl (.tmp 42) (.tmp 44) 59 5 (.int .u8 0) 1 rfl Tryd.underlying59 info5 rfl (by decide) (by omega) u3 x3_2 (bt ((rd_T42 l0 x13_1).f2) x34_2) [.int .u8 (bt ((rd_T42 l0 x13_1).f2) x34_2)] (fun _ => True) (fun _ => False) rfl rfl ?aP (fun _ hk => hk.elim) ?aF ?aO ?aB ?aS ?aL ?_; (case aP => exact rfl); (case aB => exact (by repeat (first | (with_reducible first | exact HB.out | apply below_alloc | apply pw_below_drewN | apply below_drew1 | refine below_set ?_ GE142.out) | exact HB.out))); (case aF => exact (fun _ _ => trivial)); (case aO => exact (by (with_reducible repeat (first | apply Kd.R_alloc | apply Kd.R_drewN | apply Kd.R_drew)); exact HO_3.out)); (case aS => exact (below_size (by repeat (first | (with_reducible first | exact HB.out | apply below_alloc | apply pw_below_drewN | apply below_drew1 | refine below_set ?_ GE142.out) | exact HB.out)))); (case aL => have := LMc42.out; omega); intro v177 w43 ho hb hg hat; rw [← Ny176.out] at ho; have n0_ := Aside0.mk (blk_grown (g := gb142) (o := .cells #[.int .i64 ((rd_T42 l0 x13_1).f0), .int .i64 ((rd_T42 l0 x13_1).f1), .string ((rd_T42 l0 x13_1).f2)] 42 (0, 0)) (by (with_reducible repeat (first | refine blk_drewN ?_ _ | refine blk_drew ?_ | refine blk_alloc ?_ _)); exact BK142.out) hg (Kd.R_ne HO_3.out BK142.out (by decide))); have n1_ := Aside0.mk (hb); have n2_ := Aside0.mk (ho); clear BK142; clear HB; clear HO_3; have BK142 := n0_; have HB := n1_; have HO178 := n2_; clear n0_ n1_ n2_; clear ho hb hg hat))
                                      go_roundg kj26
                                      case measure => have := HK1.out; have := HK2.out; have := HJ26.out; omega
                                      case rel => exact ⟨(y176), (wrap64 (x34_2 + 1)), (by first | rfl | (simp; done) | (simp [*]; done)), H', ⟨by have := HK1.out; have := HK2.out; have := HJ26.out; omega⟩, ⟨by (with_reducible repeat (first | apply Kd.R_alloc | apply Kd.R_drewN | apply Kd.R_drew)); exact HO178.out⟩, ⟨by (with_reducible repeat (first | refine blk_drewN ?_ _ | refine blk_drew ?_ | refine blk_alloc ?_ _)); exact BK142.out⟩, ⟨by repeat (first | (with_reducible first | exact HB.out | apply below_alloc | apply pw_below_drewN | apply below_drew1 | refine below_set ?_ GE142.out) | exact HB.out)⟩⟩
                                    · rw [if_neg c42] at H
                                      exact absurd H (by simp)
                          · rw [if_neg c25] at H
                            exact absurd H (by simp)
                        · rw [if_neg c24] at H
                          exact absurd H (by simp)
                      · rw [if_neg c23] at H
                        have c23b0 : decide (x34_2 < (((rd_T42 l0 x13_1).f2).size : Int)) = false := decide_eq_false c23
                        clear c23
                        obtain ⟨y158, hy158⟩ : ∃ y_ : List Int, y_ = (([34, 10] : List Int)) := ⟨_, rfl⟩
                        replace H : (if x3_2.length + y158.length < 140737488355328 then (edits_Print.l0 k2 (x3_2 ++ y158) l0 (l0.length : Int) (wrap64 (x13_1 + 1))) else (none)) = some r := by first | (rw [hy158]; with_reducible exact H) | (have H2_ := (Option.bind_some _ _).symm.trans H; rw [hy158]; with_reducible exact H2_) | (have H2_ := (Option.bind_some _ _).symm.trans H; with_reducible exact H2_) | with_reducible exact H | (rw [hy158]; exact H) | exact H
                        have Ny158 := Aside0.mk hy158
                        clear hy158
                        by_cases c44 : x3_2.length + y158.length < 140737488355328
                        · rw [if_pos c44] at H
                          have LMc44 := Aside0.mk c44
                          clear c44
                          obtain ⟨y161, hy161⟩ : ∃ y_ : List Int, y_ = (x3_2 ++ y158) := ⟨_, rfl⟩
                          replace H : (edits_Print.l0 k2 y161 l0 (l0.length : Int) (wrap64 (x13_1 + 1))) = some r := by first | (rw [hy161]; with_reducible exact H) | (have H2_ := (Option.bind_some _ _).symm.trans H; rw [hy161]; with_reducible exact H2_) | (have H2_ := (Option.bind_some _ _).symm.trans H; with_reducible exact H2_) | with_reducible exact H | (rw [hy161]; exact H) | exact H
                          have Ny161 := Aside0.mk hy161
                          clear hy161
                          have H' := Aside0.mk H
                          clear H
                          go_wp2_with (first | ((with_reducible refine gate_dst (N := 60) rfl ?_); refine Kd.R_lit (Kd.int .u8) _ 5 ?hg (N := 60) ?hd (xs := ([34, 10] : List Int)) (inner := [.int .u8 34, .int .u8 10]) (ok := fun _ => True) (okp := fun _ => True) ?hr ?hp (fun _ hk => hk) trivial (Below.refl _ _) (Nat.le_refl _) (by simp) ?_; (case hd => rfl); (case hg => rfl); (case hr => first | (go_simp; done) | (go_simp; rfl)); (case hp => exact (Reps.one (show Kd.M (Kd.int .u8) _ _ _ 34 [.int .u8 34] from rfl) (Reps.one (show Kd.M (Kd.int .u8) _ _ _ 10 [.int .u8 10] from rfl) (Reps.none _ _)))); intro v159 w45 ho46 hb hg_ hnew_; clear hg_ hnew_; (first | rw [← Ny158.out] at ho46 | (simp only [Int.reduceToNat] at ho46; rw [← Ny158.out] at ho46)); have n0_ := Aside0.mk (Kd.R_elder' (by (with_reducible repeat (first | apply Kd.R_alloc | apply Kd.R_drewN | apply Kd.R_drew)); exact HO_3.out) (Kd.R_base ho46) hb); have n1_ := Aside0.mk (Kd.R_lower (Kd.R_new' ho46 (Kd.R_lt (by (with_reducible repeat (first | apply Kd.R_alloc | apply Kd.R_drewN | apply Kd.R_drew)); exact HO_3.out))) (below_size (by repeat (first | (with_reducible first | exact HB.out | apply below_alloc | apply pw_below_drewN | apply below_drew1 | refine below_set ?_ GE142.out) | exact HB.out)))); have n2_ := Aside0.mk (blk_below (g := gb142) (o := .cells #[.int .i64 ((rd_T42 l0 x13_1).f0), .int .i64 ((rd_T42 l0 x13_1).f1), .string ((rd_T42 l0 x13_1).f2)] 42 (0, 0)) (by (with_reducible repeat (first | refine blk_drewN ?_ _ | refine blk_drew ?_ | refine blk_alloc ?_ _)); exact BK142.out) hb); have n3_ := Aside0.mk (below_step (by repeat (first | (with_reducible first | exact HB.out | apply below_alloc | apply pw_below_drewN | apply below_drew1 | refine below_set ?_ GE142.out) | exact HB.out)) hb); clear HO_3; clear BK142; clear HB; have HO_3 := n0_; have HO160 := n1_; have BK142 := n2_; have HB := n3_; clear n0_ n1_ n2_ n3_; clear hb ho46; obtain ⟨Ao48, co48, eo48⟩ := Kd.R_slice HO160.out; subst eo48) | ((with_reducible refine gate_builtin (b := .append) (xs := #[.tmp 59, .tmp 60]) rfl ?_); at_builtin; refine Kd.R_append_rows (Kd.int .u8) (w0 := w) w.heap.size rfl (.tmp 59) (.tmp 60) 59 5 (.int .u8 0) 1 rfl Tryd.underlying59 info5 rfl (by decide) (by omega) u3 x3_2 y158 _ _ _ (fun k_ => some k_ ≠ (.slice Ao48 y158.length co48 : Value).ownBlock) (fun _ => False) rfl rfl ?aO ?aR (fun _ _ h => h) (fun _ h => h.elim) ?aF ?aB ?aS ?aL ?_; (case aR => repeat (first | exact (Kd.R_reads' HO160.out).2.2 | (with_reducible refine Kd.C_alloc ?_ _) | (with_reducible refine Kd.C_drewN ?_ _) | (with_reducible refine Kd.C_drew ?_))); (case aB => exact (by repeat (first | (with_reducible first | exact HB.out | apply below_alloc | apply pw_below_drewN | apply below_drew1 | refine below_set ?_ GE142.out) | exact HB.out))); (case aF => exact (fun k_ hk => Kd.fresh' (Kd.R_lt (by (with_reducible repeat (first | apply Kd.R_alloc | apply Kd.R_drewN | apply Kd.R_drew)); exact HO160.out)) k_ hk)); (case aO => exact (by (with_reducible repeat (first | apply Kd.R_alloc | apply Kd.R_drewN | apply Kd.R_drew)); exact Kd.R_mono HO_3.out (fun _ hk => hk.2))); (case aS => exact (below_size (by repeat (first | (with_reducible first | exact HB.out | apply below_alloc | apply pw_below_drewN | apply below_drew1 | refine below_set ?_ GE142.out) | exact HB.out)))); (case aL => have := LMc44.out; omega); intro v162 w47 ho hb hg hat; rw [← Ny161.out] at ho; have n0_ := Aside0.mk (blk_grown (g := gb142) (o := .cells #[.int .i64 ((rd_T42 l0 x13_1).f0), .int .i64 ((rd_T42 l0 x13_1).f1), .string ((rd_T42 l0 x13_1).f2)] 42 (0, 0)) (by (with_reducible repeat (first | refine blk_drewN ?_ _ | refine blk_drew ?_ | refine blk_alloc ?_ _)); exact BK142.out) hg (Kd.R_ne HO_3.out BK142.out (by decide))); have n1_ := Aside0.mk (Kd.R_after (ok := (fun _ => True)) (by (with_reducible repeat (first | apply Kd.R_alloc | apply Kd.R_drewN | apply Kd.R_drew)); exact HO160.out) hg hat); have n2_ := Aside0.mk (hb); have n3_ := Aside0.mk (ho); clear BK142; clear HO160; clear HB; clear HO_3; have BK142 := n0_; have HO160 := n1_; have HB := n2_; have HO163 := n3_; clear n0_ n1_ n2_ n3_; clear ho hb hg hat))
                          go_roundg k2
                          case measure => have := HK1.out; have := HK2.out; omega
                          case rel => exact ⟨(y161), (wrap64 (x13_1 + 1)), (by first | rfl | (simp; done) | (simp [*]; done)), H', ⟨by have := HK1.out; have := HK2.out; omega⟩, ⟨by (with_reducible repeat (first | apply Kd.R_alloc | apply Kd.R_drewN | apply Kd.R_drew)); exact Kd.R_mono HO163.out (fun _ hk => trivial)⟩, ⟨by repeat (first | (with_reducible first | exact HB.out | apply below_alloc | apply pw_below_drewN | apply below_drew1 | refine below_set ?_ GE142.out) | exact HB.out)⟩⟩
                        · rw [if_neg c44] at H
                          exact absurd H (by simp)
                · rw [if_neg c9] at H
                  exact absurd H (by simp)
              · rw [if_neg c7] at H
                exact absurd H (by simp)
            · rw [if_neg c5] at H
              exact absurd H (by simp)
          · rw [if_neg c4] at H
            exact absurd H (by simp)
        · rw [if_neg c3] at H
          have c3b0 : decide (x13_1 < (l0.length : Int)) = false := decide_eq_false c3
          clear c3
          obtain rfl := Option.some.inj H
          have hcv49 := own_string (P := Tryd.prog) Tryd.underlying59 Tryd.underlying5 Tryd.underlying9 (Kd.own_of_R HO_3.out)
          go_wp2
          go_ret
          exact ⟨by first | rfl | (simp [errW_none, errW_some] <;> rfl) | (simp [*, errW_none, errW_some] <;> rfl), by repeat (first | (with_reducible first | exact HB.out | apply below_alloc | apply pw_below_drewN | apply below_drew1) | exact HB.out)⟩

end Go.Proofs.YtaihajmdngoeiaaDoor.F

namespace Go.Proofs.YtaihajmdngoeiaaDoor.Q
open Go.RowKit Go.Proofs.YtaihajmdngoeiaaDoorW.PrintWords Go.Proofs.YtaihajmdngoeiaaDoorW.PrintLast Go.Proofs.YtaihajmdngoeiaaDoorW.PrintMore
open Go.Proofs.YtaihajmdngoeiaaDoor.F
set_option linter.unusedVariables false
set_option linter.unusedSimpArgs false

theorem rd_at (l : List S42) (i : Nat) (h : i < l.length) : rd_T42 l (i : Int) = l[i] := by
  simp [rd_T42, List.getD_eq_getElem?_getD, h]
def ofS (e : S42) : Int × Int × List Int := (e.f0, e.f1, bytesOf e.f2)
/-- The lines of a list of edits. -/
def linesB (l : List S42) : List Int := linesP (l.map ofS)
theorem linesB_cons (e : S42) (l : List S42) : linesB (e :: l) = lineE (ofS e) ++ linesB l := by simp [linesB, linesP_cons]
theorem lineE_ofS (e : S42) : lineE (ofS e) = itoaI e.f0 ++ 44 :: (itoaI e.f1 ++ 32 :: 34 :: (esc (bytesOf e.f2) ++ 34 :: [10])) := rfl
theorem escB_range (c : Int) : 1 ≤ (escB c).length ∧ (escB c).length ≤ 2 := by
  unfold escB
  split
  · simp
  · split <;> simp
theorem esc_len : ∀ l : List Int, (esc l).length ≤ 2 * l.length
  | [] => by simp [esc_nil]
  | c :: l => by
    have := esc_len l
    have := (escB_range c).2
    rw [esc_cons, List.length_append, List.length_cons]
    omega
/-- The text of an edit is put behind, byte by byte. -/
theorem print_text (l : List S42) (x12 x13 f0 f1 : Int) (X : ByteArray) (hX : X.size ≤ 140737488351232) (r : ByteArray) (d : Nat) : ∀ (i : Nat) (out : List Int), i ≤ X.size → X.size - i = d → out.length + (esc ((bytesOf X).drop i)).length + 2 < 140737488355328 →
    Ev (fun k => edits_Print.l0 k (out ++ esc ((bytesOf X).drop i) ++ [34, 10]) l x12 (wrap64 (x13 + 1))) r → Ev (fun k => edits_Print.l1 k out l x12 x13 (X.size : Int) (i : Int) f0 f1 X) r := by
  induction d with
  | zero =>
    intro i out h1 h2 h3 h4
    obtain ⟨K, hK⟩ := h4
    have A1 : ((i : Int) < (X.size : Int)) = False := eq_false (by omega)
    rw [List.drop_eq_nil_of_le (by rw [bytesOf_length]; omega), esc_nil] at h3 hK
    rw [List.append_nil] at hK
    have A2 : (out.length + ([34, 10] : List Int).length < 140737488355328) = True := eq_true (by simp at h3 ⊢; omega)
    refine ⟨K + 1, fun k hk => ?_⟩
    obtain ⟨k, rfl⟩ : ∃ m, k = m + 1 := ⟨k - 1, by omega⟩
    simp only [edits_Print.l1, A1, if_false, Option.bind_some, A2, if_true]
    exact hK k (by omega)
  | succ d ih =>
    intro i out h1 h2 h3 h4
    have hi : i < X.size := by omega
    have A1 : ((i : Int) < (X.size : Int)) = True := eq_true (by omega)
    have A2 : ((0 : Int) ≤ (i : Int)) = True := eq_true (by omega)
    have hw : wrap64 ((i : Int) + 1) = ((i + 1 : Nat) : Int) := by rw [w64] <;> omega
    rw [dr_cons X i hi, esc_cons] at h3 h4
    have IH := fun out' => ih (i + 1) out' (by omega) (by omega)
    clear ih
    have step : ∀ k, edits_Print.l1 (k + 2) out l x12 x13 (X.size : Int) (i : Int) f0 f1 X = (if bt X (i : Int) = 34 ∨ bt X (i : Int) = 92 then (if out.length + 2 < 140737488355328 then edits_Print.l1 k (out ++ [92, bt X (i : Int)]) l x12 x13 (X.size : Int) ((i + 1 : Nat) : Int) f0 f1 X else none) else if bt X (i : Int) = 10 then (if out.length + 2 < 140737488355328 then edits_Print.l1 k (out ++ [92, 110]) l x12 x13 (X.size : Int) ((i + 1 : Nat) : Int) f0 f1 X else none) else (if out.length < 140737488355328 then edits_Print.l1 k (out ++ [bt X (i : Int)]) l x12 x13 (X.size : Int) ((i + 1 : Nat) : Int) f0 f1 X else none)) := by
      intro k
      simp only [edits_Print.l1, edits_Print.j2, A1, A2, if_true, hw, Option.bind_some, List.length_cons, List.length_nil]
      generalize bt X (i : Int) = c
      by_cases h34 : c = 34
      · subst h34
        simp
      · by_cases h92 : c = 92
        · subst h92
          simp
        · simp [h34, h92]
    generalize bt X (i : Int) = c at step h3 h4
    generalize (bytesOf X).drop (i + 1) = R at IH h3 h4
    rw [List.length_append] at h3
    unfold escB at h3 h4
    by_cases c1 : c = 34 ∨ c = 92
    · rw [if_pos c1] at h3 h4
      obtain ⟨K, hK⟩ := IH (out ++ [92, c]) (by simp at h3 ⊢; omega) (by simpa using h4)
      refine ⟨K + 2, fun k hk => ?_⟩
      obtain ⟨k, rfl⟩ : ∃ m, k = m + 2 := ⟨k - 2, by omega⟩
      refine (step k).trans ?_
      rw [if_pos c1, if_pos (by simp at h3; omega)]
      exact hK k (by omega)
    · rw [if_neg c1] at h3 h4
      by_cases c2 : c = 10
      · rw [if_pos c2] at h3 h4
        obtain ⟨K, hK⟩ := IH (out ++ [92, 110]) (by simp at h3 ⊢; omega) (by simpa using h4)
        refine ⟨K + 2, fun k hk => ?_⟩
        obtain ⟨k, rfl⟩ : ∃ m, k = m + 2 := ⟨k - 2, by omega⟩
        refine (step k).trans ?_
        rw [if_neg c1, if_pos c2, if_pos (by simp at h3; omega)]
        exact hK k (by omega)
      · rw [if_neg c2] at h3 h4
        obtain ⟨K, hK⟩ := IH (out ++ [c]) (by simp at h3 ⊢; omega) (by simpa using h4)
        refine ⟨K + 2, fun k hk => ?_⟩
        obtain ⟨k, rfl⟩ : ∃ m, k = m + 2 := ⟨k - 2, by omega⟩
        refine (step k).trans ?_
        rw [if_neg c1, if_neg c2, if_pos (by simp at h3; omega)]
        exact hK k (by omega)
theorem print_loop (l : List S42) (hl : l.length ≤ 65536) (hB : ∀ x ∈ l, isI64 x.f0 ∧ isI64 x.f1) (hZ : ∀ x ∈ l, x.f2.size ≤ 140737488351232) (d : Nat) : ∀ (i : Nat) (out : List Int), i ≤ l.length → l.length - i = d → out.length + (linesB (l.drop i)).length + 100 ≤ 140737488355328 →
    Ev (fun k => edits_Print.l0 k out l (l.length : Int) (i : Int)) (strOfNums (out ++ linesB (l.drop i))) := by
  induction d with
  | zero =>
    intro i out h1 h2 h3
    have A1 : ((i : Int) < (l.length : Int)) = False := eq_false (by omega)
    rw [List.drop_eq_nil_of_le (by omega)]
    refine ⟨1, fun k hk => ?_⟩
    obtain ⟨k, rfl⟩ : ∃ m, k = m + 1 := ⟨k - 1, by omega⟩
    simp only [edits_Print.l0, A1, if_false]
    simp [linesB, linesP]
  | succ d ih =>
    intro i out h1 h2 h3
    have hi : i < l.length := by omega
    have A1 : ((i : Int) < (l.length : Int)) = True := eq_true (by omega)
    have A2 : ((0 : Int) ≤ (i : Int)) = True := eq_true (by omega)
    have hw : wrap64 ((i : Int) + 1) = ((i + 1 : Nat) : Int) := by rw [w64] <;> omega
    have hm : l[i] ∈ l := List.getElem_mem hi
    obtain ⟨b0, b1⟩ := hB _ hm
    have z0 := hZ _ hm
    rw [List.drop_eq_getElem_cons hi, linesB_cons, List.length_append] at h3
    rw [List.drop_eq_getElem_cons hi, linesB_cons]
    have hlen : (lineE (ofS l[i])).length = (itoaI l[i].f0).length + 1 + (itoaI l[i].f1).length + 2 + (esc (bytesOf l[i].f2)).length + 2 := by
      rw [lineE_ofS]
      simp only [List.length_append, List.length_cons, List.length_nil]
      omega
    have t1 := print_text l (l.length : Int) (i : Int) l[i].f0 l[i].f1 l[i].f2 z0 (strOfNums (out ++ (lineE (ofS l[i]) ++ linesB (l.drop (i + 1))))) _ 0 (out ++ itoaI l[i].f0 ++ [44] ++ itoaI l[i].f1 ++ [32, 34]) (by omega) rfl (by
      rw [List.drop_zero]
      simp only [List.length_append, List.length_cons, List.length_nil]
      omega) (by
      rw [List.drop_zero, hw]
      have e : out ++ itoaI l[i].f0 ++ [44] ++ itoaI l[i].f1 ++ [32, 34] ++ esc (bytesOf l[i].f2) ++ [34, 10] = out ++ lineE (ofS l[i]) := by rw [lineE_ofS]; simp
      rw [e]
      have := ih (i + 1) (out ++ lineE (ofS l[i])) (by omega) (by omega) (by rw [List.length_append]; omega)
      rw [List.append_assoc] at this
      exact this)
    obtain ⟨K, hK⟩ := t1
    refine ⟨K + 1, fun k hk => ?_⟩
    obtain ⟨k, rfl⟩ : ∃ m, k = m + 1 := ⟨k - 1, by omega⟩
    have g := hK k (by omega)
    simp only [edits_Print.l0, A1, A2, if_true]
    rw [rd_at l i hi]
    have a1 : strconv_AppendInt_27.f k out l[i].f0 10 = some (out ++ itoaI l[i].f0) := by
      unfold strconv_AppendInt_27.f
      rw [if_pos ⟨rfl, b0, by omega⟩]
    have a2 : strconv_AppendInt_27.f k (out ++ itoaI l[i].f0 ++ [44]) l[i].f1 10 = some (out ++ itoaI l[i].f0 ++ [44] ++ itoaI l[i].f1) := by
      unfold strconv_AppendInt_27.f
      rw [if_pos ⟨rfl, b1, by simp only [List.length_append, List.length_cons, List.length_nil]; omega⟩]
    rw [a1]
    simp only [Option.bind_some]
    rw [if_pos (by rw [List.length_append]; omega), a2]
    simp only [Option.bind_some]
    rw [if_pos (by simp only [List.length_append, List.length_cons, List.length_nil]; omega)]
    exact g
theorem Print_is (l : List S42) (hB : ∀ x ∈ l, isI64 x.f0 ∧ isI64 x.f1) (hZ : ∀ x ∈ l, x.f2.size ≤ 140737488351232) (hs : (linesB l).length + 100 ≤ 140737488355328) :
    Ev (fun k => edits_Print.f k l) (if l.length ≤ 65536 then strOfNums (linesB l) else ⟨#[]⟩) := by
  unfold edits_Print.f
  by_cases c : l.length ≤ 65536
  · have A1 : ((l.length : Int) > 65536) = False := eq_false (by omega)
    simp only [A1, if_false, c, if_true]
    have := print_loop l c hB hZ l.length 0 [] (by omega) (by omega) (by simpa using hs)
    simpa using this
  · have A1 : ((l.length : Int) > 65536) = True := eq_true (by omega)
    simp only [A1, if_true, c, if_false]
    exact Ev.now _
end Go.Proofs.YtaihajmdngoeiaaDoor.Q

namespace Go.Proofs.YtaihajmdngoeiaaDoor.Q
open Go.RowKit Go.Proofs.YtaihajmdngoeiaaDoorW.PrintWords Go.Proofs.YtaihajmdngoeiaaDoorW.PrintLast Go.Proofs.YtaihajmdngoeiaaDoorW.PrintMore
open Go.Proofs.YtaihajmdngoeiaaDoor.F
set_option linter.unusedVariables false
set_option linter.unusedSimpArgs false

def IsB (l : List Int) : Prop := ∀ c ∈ l, 0 ≤ c ∧ c ≤ 255
theorem isB_bytes (s : ByteArray) : IsB (bytesOf s) := by
  intro c hc
  unfold bytesOf at hc
  obtain ⟨b, _, rfl⟩ := List.mem_map.1 hc
  have := b.toNat_lt
  omega
theorem isB_append {a b : List Int} (ha : IsB a) (hb : IsB b) : IsB (a ++ b) := by
  intro c hc
  rcases List.mem_append.1 hc with h | h
  · exact ha c h
  · exact hb c h
theorem isB_cons {c : Int} {a : List Int} (h0 : 0 ≤ c ∧ c ≤ 255) (ha : IsB a) : IsB (c :: a) := by
  intro x hx
  rcases List.mem_cons.1 hx with rfl | h
  · exact h0
  · exact ha x h
theorem isB_nil : IsB [] := by intro c hc; cases hc
theorem isB_esc : ∀ l : List Int, IsB l → IsB (esc l)
  | [], _ => by rw [esc_nil]; exact isB_nil
  | c :: l, h => by
    rw [esc_cons]
    refine isB_append ?_ (isB_esc l (fun x hx => h x (List.mem_cons_of_mem _ hx)))
    have hc := h c List.mem_cons_self
    unfold escB
    split
    · exact isB_cons (by omega) (isB_cons hc isB_nil)
    · split
      · exact isB_cons (by omega) (isB_cons (by omega) isB_nil)
      · exact isB_cons hc isB_nil
theorem bo_sn (l : List Int) (h : IsB l) : bytesOf (strOfNums l) = l := by
  unfold bytesOf strOfNums
  simp only [List.toList_toArray, List.map_map]
  conv => rhs; rw [← List.map_id l]
  apply List.map_congr_left
  intro c hc
  have := h c hc
  simp
  omega
theorem sn_bytes (s : ByteArray) : strOfNums (bytesOf s) = s := by
  unfold strOfNums bytesOf
  apply ByteArray.ext
  rw [List.map_map]
  apply Array.ext'
  simp only [List.toList_toArray]
  conv => rhs; rw [← List.map_id s.data.toList]
  apply List.map_congr_left
  intro b _
  simp
end Go.Proofs.YtaihajmdngoeiaaDoor.Q

-- A text of this session's own program (wip/myprint.sh over a changed print tool): functions and their walks
namespace Go.Proofs.YtaihajmdngoeiaaDoor.F
open Go.RowKit Go.Proofs.YtaihajmdngoeiaaDoorW.PrintWords Go.Proofs.YtaihajmdngoeiaaDoorW.PrintLast Go.Proofs.YtaihajmdngoeiaaDoorW.PrintMore
attribute [local go_sem] max2_int min2_int max_two min_two max_three min_three max_four min_four   -- for this text's walks alone
set_option linter.unusedVariables false
set_option linter.unusedSimpArgs false

/-- A state of type 65 at block g of W; what its slices lead to came in by w0. -/
def IsS65 (w0 W : World) (g : Nat) (f0 : ByteArray) (f1 : Int) (f2 : Bool) : Prop := W.heap[g]? = some (.cells #[.string f0, .int .i64 f1, .bool f2] 65 (0, 0)) ∧ w0.heap.size ≤ g
theorem IsS65.grown {w0 W : World} {g : Nat} {f0 : ByteArray} {f1 : Int} {f2 : Bool} {W1 : World} {row : Option Nat} (h : IsS65 w0 W g f0 f1 f2) (hw : W.grownBy W1 row) (hne : some g ≠ row) : IsS65 w0 W1 g f0 f1 f2 := by
  obtain ⟨hb, hg⟩ := h
  exact ⟨blk_grown hb hw hne, hg⟩
theorem IsS65.below {w0 W : World} {g : Nat} {f0 : ByteArray} {f1 : Int} {f2 : Bool} {W1 : World} (h : IsS65 w0 W g f0 f1 f2) (hw : Below W.heap.size W W1) : IsS65 w0 W1 g f0 f1 f2 := h.grown (grown_of_below hw none) (by simp)
theorem IsS65.alloc {w0 W : World} {g : Nat} {f0 : ByteArray} {f1 : Int} {f2 : Bool} (h : IsS65 w0 W g f0 f1 f2) (o : Obj) : IsS65 w0 (W.alloc o) g f0 f1 f2 := h.below (below_alloc (Below.refl _ _) o)
theorem IsS65.drewN {w0 W : World} {g : Nat} {f0 : ByteArray} {f1 : Int} {f2 : Bool} (h : IsS65 w0 W g f0 f1 f2) (m : Nat) : IsS65 w0 (W.drewN m) g f0 f1 f2 := h
theorem IsS65.drew {w0 W : World} {g : Nat} {f0 : ByteArray} {f1 : Int} {f2 : Bool} (h : IsS65 w0 W g f0 f1 f2) : IsS65 w0 W.drew g f0 f1 f2 := h
theorem IsS65.apart {w0 W : World} {g : Nat} {f0 : ByteArray} {f1 : Int} {f2 : Bool} {α : Type} {d : Kd α} {e : Nat} {base : Nat} {ok : Nat → Prop} {v : Value} {xs : List α} (h : IsS65 w0 W g f0 f1 f2) (ho : d.R e W base ok v xs) (ht : ∀ q, q ∈ e :: d.E → q ≠ 65) : d.R e W base (fun k => ok k ∧ k ≠ g) v xs := by
  obtain ⟨hb, hg⟩ := h
  exact Kd.R_types ho hb ht
theorem IsS65.own_ne {w0 W : World} {g : Nat} {f0 : ByteArray} {f1 : Int} {f2 : Bool} {α : Type} {d : Kd α} {e : Nat} {base : Nat} {ok : Nat → Prop} {v : Value} {xs : List α} (h : IsS65 w0 W g f0 f1 f2) (ho : d.R e W base ok v xs) (ht : e ≠ 65) : some g ≠ v.ownBlock := by
  obtain ⟨hb, hg⟩ := h
  exact Kd.R_ne ho hb ht
theorem IsS65.lt {w0 W : World} {g : Nat} {f0 : ByteArray} {f1 : Int} {f2 : Bool} (h : IsS65 w0 W g f0 f1 f2) : g < W.heap.size := by
  obtain ⟨hb, hg⟩ := h
  exact blk_lt hb
theorem IsS65.ge {w0 W : World} {g : Nat} {f0 : ByteArray} {f1 : Int} {f2 : Bool} (h : IsS65 w0 W g f0 f1 f2) : w0.heap.size ≤ g := by
  obtain ⟨hb, hg⟩ := h
  exact hg
theorem IsS65.far {w0 W : World} {g : Nat} {f0 : ByteArray} {f1 : Int} {f2 : Bool} {p : Addr} (h : IsS65 w0 W g f0 f1 f2) (hne : g ≠ p.block) (u : Value) : IsS65 w0 (W.setCell p u) g f0 f1 f2 := by
  obtain ⟨hb, hg⟩ := h
  exact ⟨blk_far hb hne u, hg⟩
theorem cellS65_0 {W : World} {g : Nat} {f0 : ByteArray} {f1 : Int} {f2 : Bool} (h : W.heap[g]? = some (.cells #[.string f0, .int .i64 f1, .bool f2] 65 (0, 0))) : W.cell? ⟨g, 0, none⟩ = some (.string f0) := (blk_cell h 0).trans rfl
theorem IsS65.set_0 {w0 W : World} {g : Nat} {f0 : ByteArray} {f1 : Int} {f2 : Bool} (h : IsS65 w0 W g f0 f1 f2) (x : ByteArray) : IsS65 w0 (W.setCell ⟨g, 0, none⟩ (.string x)) g x f1 f2 := by
  obtain ⟨hb, hg⟩ := h
  exact ⟨by simpa using blk_set hb 0 (.string x), hg⟩
theorem cellS65_1 {W : World} {g : Nat} {f0 : ByteArray} {f1 : Int} {f2 : Bool} (h : W.heap[g]? = some (.cells #[.string f0, .int .i64 f1, .bool f2] 65 (0, 0))) : W.cell? ⟨g, 1, none⟩ = some (.int .i64 f1) := (blk_cell h 1).trans rfl
theorem IsS65.set_1 {w0 W : World} {g : Nat} {f0 : ByteArray} {f1 : Int} {f2 : Bool} (h : IsS65 w0 W g f0 f1 f2) (x : Int) : IsS65 w0 (W.setCell ⟨g, 1, none⟩ (.int .i64 x)) g f0 x f2 := by
  obtain ⟨hb, hg⟩ := h
  exact ⟨by simpa using blk_set hb 1 (.int .i64 x), hg⟩
theorem cellS65_2 {W : World} {g : Nat} {f0 : ByteArray} {f1 : Int} {f2 : Bool} (h : W.heap[g]? = some (.cells #[.string f0, .int .i64 f1, .bool f2] 65 (0, 0))) : W.cell? ⟨g, 2, none⟩ = some (.bool f2) := (blk_cell h 2).trans rfl
theorem IsS65.set_2 {w0 W : World} {g : Nat} {f0 : ByteArray} {f1 : Int} {f2 : Bool} (h : IsS65 w0 W g f0 f1 f2) (x : Bool) : IsS65 w0 (W.setCell ⟨g, 2, none⟩ (.bool x)) g f0 f1 x := by
  obtain ⟨hb, hg⟩ := h
  exact ⟨by simpa using blk_set hb 2 (.bool x), hg⟩
/-! ### edits_scanner_byte: function 32 -/
def edits_scanner_byte.f (s0_0 : ByteArray) (s0_1 : Int) (s0_2 : Bool) (a1 : Int) : Option (ByteArray × Int × Bool) := if s0_2 = true then (some (s0_0, s0_1, true)) else (if s0_1 = (s0_0.size : Int) then (some (s0_0, s0_1, true)) else (if 0 ≤ s0_1 then (if s0_1 < (s0_0.size : Int) then (if (bt s0_0 s0_1) = a1 then (some (s0_0, wrap64 (s0_1 + 1), s0_2)) else (some (s0_0, s0_1, true))) else (none)) else (none)))
set_option maxHeartbeats 8000000 in
set_option maxRecDepth 100000 in
theorem edits_scanner_byte.calls (g : Nat) (s0_0 : ByteArray) (s0_1 : Int) (s0_2 : Bool) (a1 : Int) (r1 : ByteArray) (r2 : Int) (r3 : Bool) (w0 w : World) (hI : IsS65 w0 w g s0_0 s0_1 s0_2) (hB : Below w0.heap.size w0 w) (h : edits_scanner_byte.f s0_0 s0_1 s0_2 a1 = some (r1, r2, r3)) :
    Calls Tryd.prog 32 #[.pointer (some ⟨g, 0, none⟩), .int .u8 a1] w fun e w' => e = .returned (.tuple #[]) ∧ IsS65 w0 w' g r1 r2 r3 ∧ Below w0.heap.size w0 w' ∧ KeepBut w w' g none := by
  have HI0 := Aside0.mk hI
  have HK := Aside0.mk (KeepBut.refl w g none)
  have HL := Aside0.mk hB.size
  clear hI
  have HW0 := Aside0.mk hB.size
  have HB := Aside0.mk hB
  clear hB
  have H : (if s0_2 = true then (some (s0_0, s0_1, true)) else (if s0_1 = (s0_0.size : Int) then (some (s0_0, s0_1, true)) else (if 0 ≤ s0_1 then (if s0_1 < (s0_0.size : Int) then (if (bt s0_0 s0_1) = a1 then (some (s0_0, wrap64 (s0_1 + 1), s0_2)) else (some (s0_0, s0_1, true))) else (none)) else (none)))) = some (r1, r2, r3) := h
  clear h
  by_cases c3 : s0_2 = true
  · subst c3
    have H1 : (some (s0_0, s0_1, true)) = some (r1, r2, r3) := by rw [if_pos rfl] at H; exact H
    clear H
    have H := H1
    clear H1
    simp only [Option.some.injEq, Prod.mk.injEq] at H
    obtain ⟨rfl, rfl, rfl⟩ := H
    obtain ⟨HGz4, hgz4⟩ := HI0.out
    have hcz4_0 := cellS65_0 HGz4
    have hcz4_1 := cellS65_1 HGz4
    have hcz4_2 := cellS65_2 HGz4
    have hfz4_0 := blk_frozen HGz4 0
    have hfz4_1 := blk_frozen HGz4 1
    have hfz4_2 := blk_frozen HGz4 2
    clear HGz4 hgz4
    go_enter Tryd.func32, Tryd.ntmps32
    go_wp2
    repeat (go_quiet (fail); try go_wp2)
    first | go_end0 | ((try simp only [Exit.inBlock, Exit.then]); refine bodyPost_ret (results_none rfl _ _ _) rfl ?_)
    exact ⟨by first | rfl | (simp [errW_none, errW_some] <;> rfl) | (simp [*, errW_none, errW_some] <;> rfl), by repeat (first | (with_reducible first | exact HI0.out | apply IsS65.alloc | apply IsS65.drewN | apply IsS65.drew | apply IsS65.set_0 | apply IsS65.set_1 | apply IsS65.set_2) | exact HI0.out), by repeat (first | (with_reducible first | exact HB.out | apply below_alloc | apply pw_below_drewN | apply below_drew1 | refine below_set ?_ (IsS65.ge HI0.out)) | exact HB.out), by repeat (first | (with_reducible first | exact HK.out | apply KeepBut.set_ | apply keep_drewN | apply keep_drew | apply keep_alloc) | exact HK.out)⟩
  · replace c3 := Bool.eq_false_iff.mpr c3
    subst c3
    have H1 : (if s0_1 = (s0_0.size : Int) then (some (s0_0, s0_1, true)) else (if 0 ≤ s0_1 then (if s0_1 < (s0_0.size : Int) then (if (bt s0_0 s0_1) = a1 then (some (s0_0, wrap64 (s0_1 + 1), false)) else (some (s0_0, s0_1, true))) else (none)) else (none))) = some (r1, r2, r3) := by rw [if_neg (show ¬ (false = true) by decide)] at H; exact H
    clear H
    have H := H1
    clear H1
    by_cases c5 : s0_1 = (s0_0.size : Int)
    · rw [if_pos c5] at H
      have c5b0 : (s0_1 == (s0_0.size : Int)) = true := beq_iff_eq.mpr c5
      have c5b1 : (s0_1 != (s0_0.size : Int)) = false := bne_eq_false_iff_eq.mpr c5
      clear c5
      simp only [Option.some.injEq, Prod.mk.injEq] at H
      obtain ⟨rfl, rfl, rfl⟩ := H
      obtain ⟨HGz6, hgz6⟩ := HI0.out
      have hcz6_0 := cellS65_0 HGz6
      have hcz6_1 := cellS65_1 HGz6
      have hcz6_2 := cellS65_2 HGz6
      have hfz6_0 := blk_frozen HGz6 0
      have hfz6_1 := blk_frozen HGz6 1
      have hfz6_2 := blk_frozen HGz6 2
      clear HGz6 hgz6
      go_enter Tryd.func32, Tryd.ntmps32
      go_wp2
      repeat (go_quiet (fail); try go_wp2)
      first | go_end0 | ((try simp only [Exit.inBlock, Exit.then]); refine bodyPost_ret (results_none rfl _ _ _) rfl ?_)
      exact ⟨by first | rfl | (simp [errW_none, errW_some] <;> rfl) | (simp [*, errW_none, errW_some] <;> rfl), by repeat (first | (with_reducible first | exact HI0.out | apply IsS65.alloc | apply IsS65.drewN | apply IsS65.drew | apply IsS65.set_0 | apply IsS65.set_1 | apply IsS65.set_2) | exact HI0.out), by repeat (first | (with_reducible first | exact HB.out | apply below_alloc | apply pw_below_drewN | apply below_drew1 | refine below_set ?_ (IsS65.ge HI0.out)) | exact HB.out), by repeat (first | (with_reducible first | exact HK.out | apply KeepBut.set_ | apply keep_drewN | apply keep_drew | apply keep_alloc) | exact HK.out)⟩
    · rw [if_neg c5] at H
      have c5b0 : (s0_1 == (s0_0.size : Int)) = false := beq_eq_false_iff_ne.mpr c5
      have c5b1 : (s0_1 != (s0_0.size : Int)) = true := bne_iff_ne.mpr c5
      by_cases c7 : 0 ≤ s0_1
      · rw [if_pos c7] at H
        have c7b0 : decide (0 ≤ s0_1) = true := decide_eq_true c7
        clear c7
        by_cases c8 : s0_1 < (s0_0.size : Int)
        · rw [if_pos c8] at H
          have c8b0 : decide (s0_1 < (s0_0.size : Int)) = true := decide_eq_true c8
          clear c8
          by_cases c10 : (bt s0_0 s0_1) = a1
          · rw [if_pos c10] at H
            have c10b0 : ((bt s0_0 s0_1) == a1) = true := beq_iff_eq.mpr c10
            have c10b1 : ((bt s0_0 s0_1) != a1) = false := bne_eq_false_iff_eq.mpr c10
            clear c10
            simp only [Option.some.injEq, Prod.mk.injEq] at H
            obtain ⟨rfl, rfl, rfl⟩ := H
            obtain ⟨HGz11, hgz11⟩ := HI0.out
            have hcz11_0 := cellS65_0 HGz11
            have hcz11_1 := cellS65_1 HGz11
            have hcz11_2 := cellS65_2 HGz11
            have hfz11_0 := blk_frozen HGz11 0
            have hfz11_1 := blk_frozen HGz11 1
            have hfz11_2 := blk_frozen HGz11 2
            clear HGz11 hgz11
            have p9 : 0 ≤ (s0_1 : Int) := of_decide_eq_true (by first | (with_reducible assumption) | assumption)
            have q9 : s0_1 < (s0_0.size : Int) := of_decide_eq_true (by first | (with_reducible assumption) | assumption)
            have hx9 := bt_at s0_0 s0_1
            replace p9 := eq_true p9
            replace q9 := eq_true q9
            go_enter Tryd.func32, Tryd.ntmps32
            go_wp2
            repeat (go_quiet (fail); try go_wp2)
            first | go_end0 | ((try simp only [Exit.inBlock, Exit.then]); refine bodyPost_ret (results_none rfl _ _ _) rfl ?_)
            exact ⟨by first | rfl | (simp [errW_none, errW_some] <;> rfl) | (simp [*, errW_none, errW_some] <;> rfl), by repeat (first | (with_reducible first | exact HI0.out | apply IsS65.alloc | apply IsS65.drewN | apply IsS65.drew | apply IsS65.set_0 | apply IsS65.set_1 | apply IsS65.set_2) | exact HI0.out), by repeat (first | (with_reducible first | exact HB.out | apply below_alloc | apply pw_below_drewN | apply below_drew1 | refine below_set ?_ (IsS65.ge HI0.out)) | exact HB.out), by repeat (first | (with_reducible first | exact HK.out | apply KeepBut.set_ | apply keep_drewN | apply keep_drew | apply keep_alloc) | exact HK.out)⟩
          · rw [if_neg c10] at H
            have c10b0 : ((bt s0_0 s0_1) == a1) = false := beq_eq_false_iff_ne.mpr c10
            have c10b1 : ((bt s0_0 s0_1) != a1) = true := bne_iff_ne.mpr c10
            simp only [Option.some.injEq, Prod.mk.injEq] at H
            obtain ⟨rfl, rfl, rfl⟩ := H
            obtain ⟨HGz12, hgz12⟩ := HI0.out
            have hcz12_0 := cellS65_0 HGz12
            have hcz12_1 := cellS65_1 HGz12
            have hcz12_2 := cellS65_2 HGz12
            have hfz12_0 := blk_frozen HGz12 0
            have hfz12_1 := blk_frozen HGz12 1
            have hfz12_2 := blk_frozen HGz12 2
            clear HGz12 hgz12
            have p9 : 0 ≤ (s0_1 : Int) := of_decide_eq_true (by first | (with_reducible assumption) | assumption)
            have q9 : s0_1 < (s0_0.size : Int) := of_decide_eq_true (by first | (with_reducible assumption) | assumption)
            have hx9 := bt_at s0_0 s0_1
            replace p9 := eq_true p9
            replace q9 := eq_true q9
            go_enter Tryd.func32, Tryd.ntmps32
            go_wp2
            repeat (go_quiet (fail); try go_wp2)
            first | go_end0 | ((try simp only [Exit.inBlock, Exit.then]); refine bodyPost_ret (results_none rfl _ _ _) rfl ?_)
            exact ⟨by first | rfl | (simp [errW_none, errW_some] <;> rfl) | (simp [*, errW_none, errW_some] <;> rfl), by repeat (first | (with_reducible first | exact HI0.out | apply IsS65.alloc | apply IsS65.drewN | apply IsS65.drew | apply IsS65.set_0 | apply IsS65.set_1 | apply IsS65.set_2) | exact HI0.out), by repeat (first | (with_reducible first | exact HB.out | apply below_alloc | apply pw_below_drewN | apply below_drew1 | refine below_set ?_ (IsS65.ge HI0.out)) | exact HB.out), by repeat (first | (with_reducible first | exact HK.out | apply KeepBut.set_ | apply keep_drewN | apply keep_drew | apply keep_alloc) | exact HK.out)⟩
        · rw [if_neg c8] at H
          exact absurd H (by simp)
      · rw [if_neg c7] at H
        exact absurd H (by simp)

end Go.Proofs.YtaihajmdngoeiaaDoor.F

-- A text of this session's own program (wip/myprint.sh over a changed print tool): functions and their walks
namespace Go.Proofs.YtaihajmdngoeiaaDoor.F
open Go.RowKit Go.Proofs.YtaihajmdngoeiaaDoorW.PrintWords Go.Proofs.YtaihajmdngoeiaaDoorW.PrintLast Go.Proofs.YtaihajmdngoeiaaDoorW.PrintMore
attribute [local go_sem] max2_int min2_int max_two min_two max_three min_three max_four min_four   -- for this text's walks alone
set_option linter.unusedVariables false
set_option linter.unusedSimpArgs false

theorem bt256 (s : ByteArray) (i : Int) : 0 ≤ (bt s i - 48) % 256 ∧ (bt s i - 48) % 256 < 256 := ⟨Int.emod_nonneg _ (by omega), Int.emod_lt_of_pos _ (by omega)⟩
theorem tdiv_lo {d : Int} (h : 0 ≤ d ∧ d < 256) : wrap64 (Int.tdiv (wrap64 ((-9223372036854775808) + d)) 10) = Int.tdiv (-9223372036854775808 + d) 10 := by
  have h1 : wrap64 ((-9223372036854775808) + d) = -9223372036854775808 + d := by unfold wrap64; omega
  rw [h1, Int.tdiv_eq_ediv, show Int.sign 10 = 1 from rfl]
  unfold wrap64
  split <;> omega
theorem tdiv_hi {d : Int} (h : 0 ≤ d ∧ d < 256) : wrap64 (Int.tdiv (wrap64 (9223372036854775807 - d)) 10) = (9223372036854775807 - d) / 10 := by
  have h1 : wrap64 (9223372036854775807 - d) = 9223372036854775807 - d := by unfold wrap64; omega
  rw [h1, Int.tdiv_eq_ediv, if_pos (Or.inl (by omega))]
  unfold wrap64
  omega
/-! ### edits_scanner_number: function 30 -/
mutual
def edits_scanner_number.j0 : Nat → Int → Int → Bool → ByteArray → Int → Bool → Option (Int × ByteArray × Int × Bool)
  | 0, _, _, _, _, _, _ => none
  | k + 1, x1, x5, x6, x1000, x1001, x1002 => if x6 = true then (edits_scanner_number.j1 k x1 x5 x6 x1000 (wrap64 (x1001 + 1)) x1002) else (edits_scanner_number.j1 k x1 x5 x6 x1000 x1001 x1002)
def edits_scanner_number.j1 : Nat → Int → Int → Bool → ByteArray → Int → Bool → Option (Int × ByteArray × Int × Bool)
  | 0, _, _, _, _, _, _ => none
  | k + 1, x1, x5, x6, x1000, x1001, x1002 => edits_scanner_number.l0 k x1 x5 x6 0 x1000 x1001 x1002
def edits_scanner_number.l0 : Nat → Int → Int → Bool → Int → ByteArray → Int → Bool → Option (Int × ByteArray × Int × Bool)
  | 0, _, _, _, _, _, _, _ => none
  | k + 1, x1, x5, x6, x7, x1000, x1001, x1002 => if x1002 = true then (edits_scanner_number.j3 k x1 x5 x6 x7 false x1000 x1001 x1002) else (edits_scanner_number.j3 k x1 x5 x6 x7 (decide (x1001 < (x1000.size : Int))) x1000 x1001 x1002)
def edits_scanner_number.j3 : Nat → Int → Int → Bool → Int → Bool → ByteArray → Int → Bool → Option (Int × ByteArray × Int × Bool)
  | 0, _, _, _, _, _, _, _, _ => none
  | k + 1, x1, x5, x6, x7, x63, x1000, x1001, x1002 => if x63 = true then (if 0 ≤ x1001 then (if x1001 < (x1000.size : Int) then (if (bt x1000 x1001) < 48 then (edits_scanner_number.j4 k x1 x5 x6 x7 (bt x1000 x1001) true x1000 x1001 x1002) else (edits_scanner_number.j4 k x1 x5 x6 x7 (bt x1000 x1001) (decide ((bt x1000 x1001) > 57)) x1000 x1001 x1002)) else (none)) else (none)) else (if x7 = 0 then ((edits_scanner_byte.f x1000 x1001 true x1).bind fun bt179 => (some (x5, bt179.1, bt179.2.1, bt179.2.2))) else ((edits_scanner_byte.f x1000 x1001 x1002 x1).bind fun bt182 => (some (x5, bt182.1, bt182.2.1, bt182.2.2))))
def edits_scanner_number.j4 : Nat → Int → Int → Bool → Int → Int → Bool → ByteArray → Int → Bool → Option (Int × ByteArray × Int × Bool)
  | 0, _, _, _, _, _, _, _, _, _ => none
  | k + 1, x1, x5, x6, x7, x8, x85, x1000, x1001, x1002 => if x85 = true then (if x7 = 0 then ((edits_scanner_byte.f x1000 x1001 true x1).bind fun bt185 => (some (x5, bt185.1, bt185.2.1, bt185.2.2))) else ((edits_scanner_byte.f x1000 x1001 x1002 x1).bind fun bt188 => (some (x5, bt188.1, bt188.2.1, bt188.2.2)))) else (if x7 = 1 then (if x5 = 0 then (edits_scanner_number.j5 k x1 x5 x6 x7 ((x8 - 48) % 256) true x1000 x1001 x1002) else (if x6 = true then (if x7 = 0 then (edits_scanner_number.j5 k x1 x5 x6 x7 ((x8 - 48) % 256) (((x8 - 48) % 256) == 0) x1000 x1001 x1002) else (edits_scanner_number.j5 k x1 x5 x6 x7 ((x8 - 48) % 256) false x1000 x1001 x1002)) else (edits_scanner_number.j5 k x1 x5 x6 x7 ((x8 - 48) % 256) false x1000 x1001 x1002))) else (if x6 = true then (if x7 = 0 then (edits_scanner_number.j5 k x1 x5 x6 x7 ((x8 - 48) % 256) (((x8 - 48) % 256) == 0) x1000 x1001 x1002) else (edits_scanner_number.j5 k x1 x5 x6 x7 ((x8 - 48) % 256) false x1000 x1001 x1002)) else (edits_scanner_number.j5 k x1 x5 x6 x7 ((x8 - 48) % 256) false x1000 x1001 x1002)))
def edits_scanner_number.j5 : Nat → Int → Int → Bool → Int → Int → Bool → ByteArray → Int → Bool → Option (Int × ByteArray × Int × Bool)
  | 0, _, _, _, _, _, _, _, _, _ => none
  | k + 1, x1, x5, x6, x7, x9, x105, x1000, x1001, x1002 => if x105 = true then (some (0, x1000, x1001, true)) else (if x6 = true then (if x5 < (wrap64 (Int.tdiv (wrap64 ((-9223372036854775808) + x9)) 10)) then (some (0, x1000, x1001, true)) else (edits_scanner_number.l0 k x1 (wrap64 ((wrap64 (x5 * 10)) - x9)) x6 (wrap64 (x7 + 1)) x1000 (wrap64 (x1001 + 1)) x1002)) else (if x5 > (wrap64 (Int.tdiv (wrap64 (9223372036854775807 - x9)) 10)) then (some (0, x1000, x1001, true)) else (edits_scanner_number.l0 k x1 (wrap64 ((wrap64 (x5 * 10)) + x9)) x6 (wrap64 (x7 + 1)) x1000 (wrap64 (x1001 + 1)) x1002)))
end
def edits_scanner_number.f (k : Nat) (s0_0 : ByteArray) (s0_1 : Int) (s0_2 : Bool) (a1 : Int) : Option (Int × ByteArray × Int × Bool) := if s0_2 = true then (edits_scanner_number.j0 k a1 0 false s0_0 s0_1 s0_2) else (if s0_1 < (s0_0.size : Int) then (if 0 ≤ s0_1 then (edits_scanner_number.j0 k a1 0 ((bt s0_0 s0_1) == 45) s0_0 s0_1 s0_2) else (none)) else (edits_scanner_number.j0 k a1 0 false s0_0 s0_1 s0_2))
set_option maxHeartbeats 8000000 in
set_option maxRecDepth 100000 in
theorem edits_scanner_number.calls (k : Nat) (g : Nat) (s0_0 : ByteArray) (s0_1 : Int) (s0_2 : Bool) (a1 : Int) (r1 : Int) (r2 : ByteArray) (r3 : Int) (r4 : Bool) (w0 w : World) (hI : IsS65 w0 w g s0_0 s0_1 s0_2) (hB : Below w0.heap.size w0 w) (h : edits_scanner_number.f k s0_0 s0_1 s0_2 a1 = some (r1, r2, r3, r4)) :
    Calls Tryd.prog 30 #[.pointer (some ⟨g, 0, none⟩), .int .u8 a1] w fun e w' => e = .returned (.int .i64 r1) ∧ IsS65 w0 w' g r2 r3 r4 ∧ Below w0.heap.size w0 w' ∧ KeepBut w w' g none := by
  have HI0 := Aside0.mk hI
  have HK := Aside0.mk (KeepBut.refl w g none)
  have HL := Aside0.mk hB.size
  clear hI
  have HW0 := Aside0.mk hB.size
  have HB := Aside0.mk hB
  clear hB
  have H : (if s0_2 = true then (edits_scanner_number.j0 k a1 0 false s0_0 s0_1 s0_2) else (if s0_1 < (s0_0.size : Int) then (if 0 ≤ s0_1 then (edits_scanner_number.j0 k a1 0 ((bt s0_0 s0_1) == 45) s0_0 s0_1 s0_2) else (none)) else (edits_scanner_number.j0 k a1 0 false s0_0 s0_1 s0_2))) = some (r1, r2, r3, r4) := h
  clear h
  have HC3 := Aside0.mk H
  clear H
  go_enter Tryd.func30, Tryd.ntmps30
  go_upto_region 2 with (fail)
  repeat (go_quiet (fail); go_upto_region 2 with (fail))
  go_cut [6] (fun v6 wc => ∃ (kq : Nat) (x6_2 : Bool), v6 = .bool x6_2 ∧ Aside0 (edits_scanner_number.j0 kq a1 0 x6_2 s0_0 s0_1 s0_2 = some (r1, r2, r3, r4)) ∧ Aside0 (kq ≤ k) ∧ Aside0 (IsS65 w0 wc g s0_0 s0_1 s0_2) ∧ Aside0 (KeepBut w wc g none) ∧ Aside0 (Below w0.heap.size w0 wc))
  case first =>
    have H := HC3.out
    clear HC3
    by_cases c4 : s0_2 = true
    · subst c4
      have H1 : (edits_scanner_number.j0 k a1 0 false s0_0 s0_1 true) = some (r1, r2, r3, r4) := by rw [if_pos rfl] at H; exact H
      clear H
      have H := H1
      clear H1
      have H' := Aside0.mk H
      clear H
      obtain ⟨HGz5, hgz5⟩ := HI0.out
      have hcz5_0 := cellS65_0 HGz5
      have hcz5_1 := cellS65_1 HGz5
      have hcz5_2 := cellS65_2 HGz5
      have hfz5_0 := blk_frozen HGz5 0
      have hfz5_1 := blk_frozen HGz5 1
      have hfz5_2 := blk_frozen HGz5 2
      clear HGz5 hgz5
      go_wp2
      repeat (go_quiet (fail); try go_wp2)
      go_meet
      case rel => exact ⟨_, (false), (by first | rfl | (simp; done) | (simp [*]; done)), H', ⟨by first | omega | exact Nat.le_refl _⟩, ⟨by repeat (first | (with_reducible first | exact HI0.out | apply IsS65.alloc | apply IsS65.drewN | apply IsS65.drew | apply IsS65.set_0 | apply IsS65.set_1 | apply IsS65.set_2) | exact HI0.out)⟩, ⟨by repeat (first | (with_reducible first | exact HK.out | apply KeepBut.set_ | apply keep_drewN | apply keep_drew | apply keep_alloc) | exact HK.out)⟩, ⟨by repeat (first | (with_reducible first | exact HB.out | apply below_alloc | apply pw_below_drewN | apply below_drew1 | refine below_set ?_ (IsS65.ge HI0.out)) | exact HB.out)⟩⟩
    · replace c4 := Bool.eq_false_iff.mpr c4
      subst c4
      have H1 : (if s0_1 < (s0_0.size : Int) then (if 0 ≤ s0_1 then (edits_scanner_number.j0 k a1 0 ((bt s0_0 s0_1) == 45) s0_0 s0_1 false) else (none)) else (edits_scanner_number.j0 k a1 0 false s0_0 s0_1 false)) = some (r1, r2, r3, r4) := by rw [if_neg (show ¬ (false = true) by decide)] at H; exact H
      clear H
      have H := H1
      clear H1
      by_cases c6 : s0_1 < (s0_0.size : Int)
      · rw [if_pos c6] at H
        have c6b0 : decide (s0_1 < (s0_0.size : Int)) = true := decide_eq_true c6
        clear c6
        (first | rw [c6b0] | (simp only [i64_w, i32_w]; rw [c6b0]) | skip)
        by_cases c7 : 0 ≤ s0_1
        · rw [if_pos c7] at H
          have c7b0 : decide (0 ≤ s0_1) = true := decide_eq_true c7
          clear c7
          have H' := Aside0.mk H
          clear H
          obtain ⟨HGz9, hgz9⟩ := HI0.out
          have hcz9_0 := cellS65_0 HGz9
          have hcz9_1 := cellS65_1 HGz9
          have hcz9_2 := cellS65_2 HGz9
          have hfz9_0 := blk_frozen HGz9 0
          have hfz9_1 := blk_frozen HGz9 1
          have hfz9_2 := blk_frozen HGz9 2
          clear HGz9 hgz9
          have p8 : 0 ≤ (s0_1 : Int) := of_decide_eq_true (by first | (with_reducible assumption) | assumption)
          have q8 : s0_1 < (s0_0.size : Int) := of_decide_eq_true (by first | (with_reducible assumption) | assumption)
          have hx8 := bt_at s0_0 s0_1
          replace p8 := eq_true p8
          replace q8 := eq_true q8
          go_wp2
          repeat (go_quiet (fail); try go_wp2)
          go_meet
          case rel => exact ⟨_, (((bt s0_0 s0_1) == 45)), (by first | rfl | (simp; done) | (simp [*]; done)), H', ⟨by first | omega | exact Nat.le_refl _⟩, ⟨by repeat (first | (with_reducible first | exact HI0.out | apply IsS65.alloc | apply IsS65.drewN | apply IsS65.drew | apply IsS65.set_0 | apply IsS65.set_1 | apply IsS65.set_2) | exact HI0.out)⟩, ⟨by repeat (first | (with_reducible first | exact HK.out | apply KeepBut.set_ | apply keep_drewN | apply keep_drew | apply keep_alloc) | exact HK.out)⟩, ⟨by repeat (first | (with_reducible first | exact HB.out | apply below_alloc | apply pw_below_drewN | apply below_drew1 | refine below_set ?_ (IsS65.ge HI0.out)) | exact HB.out)⟩⟩
        · rw [if_neg c7] at H
          exact absurd H (by simp)
      · rw [if_neg c6] at H
        have c6b0 : decide (s0_1 < (s0_0.size : Int)) = false := decide_eq_false c6
        clear c6
        (first | rw [c6b0] | (simp only [i64_w, i32_w]; rw [c6b0]) | skip)
        have H' := Aside0.mk H
        clear H
        obtain ⟨HGz10, hgz10⟩ := HI0.out
        have hcz10_0 := cellS65_0 HGz10
        have hcz10_1 := cellS65_1 HGz10
        have hcz10_2 := cellS65_2 HGz10
        have hfz10_0 := blk_frozen HGz10 0
        have hfz10_1 := blk_frozen HGz10 1
        have hfz10_2 := blk_frozen HGz10 2
        clear HGz10 hgz10
        go_wp2
        repeat (go_quiet (fail); try go_wp2)
        go_meet
        case rel => exact ⟨_, (false), (by first | rfl | (simp; done) | (simp [*]; done)), H', ⟨by first | omega | exact Nat.le_refl _⟩, ⟨by repeat (first | (with_reducible first | exact HI0.out | apply IsS65.alloc | apply IsS65.drewN | apply IsS65.drew | apply IsS65.set_0 | apply IsS65.set_1 | apply IsS65.set_2) | exact HI0.out)⟩, ⟨by repeat (first | (with_reducible first | exact HK.out | apply KeepBut.set_ | apply keep_drewN | apply keep_drew | apply keep_alloc) | exact HK.out)⟩, ⟨by repeat (first | (with_reducible first | exact HB.out | apply below_alloc | apply pw_below_drewN | apply below_drew1 | refine below_set ?_ (IsS65.ge HI0.out)) | exact HB.out)⟩⟩
  case rest =>
    clear HC3
    try clear p2
    try clear c3
    try clear c4
    try clear c6
    try clear c6b0
    try clear c7
    try clear c7b0
    try clear p8
    try clear q8
    try clear hx8
    try clear hcz10_0
    try clear hcz10_1
    try clear hcz10_2
    try clear hcz5_0
    try clear hcz5_1
    try clear hcz5_2
    try clear hcz9_0
    try clear hcz9_1
    try clear hcz9_2
    try clear hfz10_0
    try clear hfz10_1
    try clear hfz10_2
    try clear hfz5_0
    try clear hfz5_1
    try clear hfz5_2
    try clear hfz9_0
    try clear hfz9_1
    try clear hfz9_2
    try clear p8
    try clear q8
    obtain ⟨kq, x6_2, rfl, HA, HJ2, HI0, HK, HB⟩ := hcut
    cases kq with
    | zero => exact absurd HA.out (by simp [edits_scanner_number.j0])
    | succ kj2 =>
      have H := HA.out
      clear HA
      simp only [edits_scanner_number.j0] at H
      have HC11 := Aside0.mk H
      clear H
      go_upto_if 39 with (fail)
      repeat (go_quiet (fail); go_upto_if 39 with (fail))
      go_cut [] (fun wc => ∃ (kq : Nat) (x1001_10 : Int), Aside0 (edits_scanner_number.j1 kq a1 0 x6_2 s0_0 x1001_10 s0_2 = some (r1, r2, r3, r4)) ∧ Aside0 (kq ≤ kj2) ∧ Aside0 (IsS65 w0 wc g s0_0 x1001_10 s0_2) ∧ Aside0 (KeepBut w wc g none) ∧ Aside0 (Below w0.heap.size w0 wc))
      case first =>
        have H := HC11.out
        clear HC11
        by_cases c12 : x6_2 = true
        · subst c12
          have H1 : (edits_scanner_number.j1 kj2 a1 0 true s0_0 (wrap64 (s0_1 + 1)) s0_2) = some (r1, r2, r3, r4) := by rw [if_pos rfl] at H; exact H
          clear H
          have H := H1
          clear H1
          have H' := Aside0.mk H
          clear H
          obtain ⟨HGz13, hgz13⟩ := HI0.out
          have hcz13_0 := cellS65_0 HGz13
          have hcz13_1 := cellS65_1 HGz13
          have hcz13_2 := cellS65_2 HGz13
          have hfz13_0 := blk_frozen HGz13 0
          have hfz13_1 := blk_frozen HGz13 1
          have hfz13_2 := blk_frozen HGz13 2
          clear HGz13 hgz13
          go_wp2
          repeat (go_quiet (fail); try go_wp2)
          go_meet
          case rel => exact ⟨_, (wrap64 (s0_1 + 1)), H', ⟨by have := HJ2.out; first | omega | exact Nat.le_refl _⟩, ⟨by repeat (first | (with_reducible first | exact HI0.out | apply IsS65.alloc | apply IsS65.drewN | apply IsS65.drew | apply IsS65.set_0 | apply IsS65.set_1 | apply IsS65.set_2) | exact HI0.out)⟩, ⟨by repeat (first | (with_reducible first | exact HK.out | apply KeepBut.set_ | apply keep_drewN | apply keep_drew | apply keep_alloc) | exact HK.out)⟩, ⟨by repeat (first | (with_reducible first | exact HB.out | apply below_alloc | apply pw_below_drewN | apply below_drew1 | refine below_set ?_ (IsS65.ge HI0.out)) | exact HB.out)⟩⟩
        · replace c12 := Bool.eq_false_iff.mpr c12
          subst c12
          have H1 : (edits_scanner_number.j1 kj2 a1 0 false s0_0 s0_1 s0_2) = some (r1, r2, r3, r4) := by rw [if_neg (show ¬ (false = true) by decide)] at H; exact H
          clear H
          have H := H1
          clear H1
          have H' := Aside0.mk H
          clear H
          go_wp2
          repeat (go_quiet (fail); try go_wp2)
          go_meet
          case rel => exact ⟨_, (s0_1), H', ⟨by have := HJ2.out; first | omega | exact Nat.le_refl _⟩, ⟨by repeat (first | (with_reducible first | exact HI0.out | apply IsS65.alloc | apply IsS65.drewN | apply IsS65.drew | apply IsS65.set_0 | apply IsS65.set_1 | apply IsS65.set_2) | exact HI0.out)⟩, ⟨by repeat (first | (with_reducible first | exact HK.out | apply KeepBut.set_ | apply keep_drewN | apply keep_drew | apply keep_alloc) | exact HK.out)⟩, ⟨by repeat (first | (with_reducible first | exact HB.out | apply below_alloc | apply pw_below_drewN | apply below_drew1 | refine below_set ?_ (IsS65.ge HI0.out)) | exact HB.out)⟩⟩
      case rest =>
        clear HC11
        try clear c1
        try clear p2
        try clear c3
        try clear c4
        try clear c6
        try clear c6b0
        try clear p6
        try clear c7
        try clear c7b0
        try clear p8
        try clear q8
        try clear hx8
        try clear c12
        try clear hcz10_0
        try clear hcz10_1
        try clear hcz10_2
        try clear hcz13_0
        try clear hcz13_1
        try clear hcz13_2
        try clear hcz5_0
        try clear hcz5_1
        try clear hcz5_2
        try clear hcz9_0
        try clear hcz9_1
        try clear hcz9_2
        try clear hfz10_0
        try clear hfz10_1
        try clear hfz10_2
        try clear hfz13_0
        try clear hfz13_1
        try clear hfz13_2
        try clear hfz5_0
        try clear hfz5_1
        try clear hfz5_2
        try clear hfz9_0
        try clear hfz9_1
        try clear hfz9_2
        try clear p2
        try clear p8
        try clear q8
        obtain ⟨kq, x1001_10, HA, HJ10, HI0, HK, HB⟩ := hcut
        cases kq with
        | zero => exact absurd HA.out (by simp [edits_scanner_number.j1])
        | succ kj10 =>
          have H := HA.out
          clear HA
          simp only [edits_scanner_number.j1] at H
          have H' := Aside0.mk H
          clear H
          go_wp2
          repeat (go_quiet (fail); try go_wp2)
          go_loopg [5, 7] kj10 (fun kq v5 v7 w' => ∃ (x5_3 : Int) (x7_3 : Int) (x1001_3 : Int) (x1002_3 : Bool), v5 = .int .i64 x5_3 ∧ v7 = .int .i64 x7_3 ∧ Aside0 (edits_scanner_number.l0 kq a1 x5_3 x6_2 x7_3 s0_0 x1001_3 x1002_3 = some (r1, r2, r3, r4)) ∧ Aside0 (kq ≤ kj10) ∧ Aside0 (IsS65 w0 w' g s0_0 x1001_3 x1002_3) ∧ Aside0 (KeepBut w w' g none) ∧ Aside0 (Below w0.heap.size w0 w'))
          case atStart => exact ⟨(0), (0), (x1001_10), (s0_2), (by first | rfl | (simp; done) | (simp [*]; done)), (by first | rfl | (simp; done) | (simp [*]; done)), H', ⟨Nat.le_refl _⟩, ⟨by repeat (first | (with_reducible first | exact HI0.out | apply IsS65.alloc | apply IsS65.drewN | apply IsS65.drew | apply IsS65.set_0 | apply IsS65.set_1 | apply IsS65.set_2) | exact HI0.out)⟩, ⟨by repeat (first | (with_reducible first | exact HK.out | apply KeepBut.set_ | apply keep_drewN | apply keep_drew | apply keep_alloc) | exact HK.out)⟩, ⟨by repeat (first | (with_reducible first | exact HB.out | apply below_alloc | apply pw_below_drewN | apply below_drew1 | refine below_set ?_ (IsS65.ge HI0.out)) | exact HB.out)⟩⟩
          case round =>
            clear H'
            try clear c1
            try clear p2
            try clear c3
            try clear c4
            try clear c6
            try clear c6b0
            try clear p6
            try clear c7
            try clear c7b0
            try clear p8
            try clear q8
            try clear hx8
            try clear c12
            try clear hcz10_0
            try clear hcz10_1
            try clear hcz10_2
            try clear hcz13_0
            try clear hcz13_1
            try clear hcz13_2
            try clear hcz5_0
            try clear hcz5_1
            try clear hcz5_2
            try clear hcz9_0
            try clear hcz9_1
            try clear hcz9_2
            try clear hfz10_0
            try clear hfz10_1
            try clear hfz10_2
            try clear hfz13_0
            try clear hfz13_1
            try clear hfz13_2
            try clear hfz5_0
            try clear hfz5_1
            try clear hfz5_2
            try clear hfz9_0
            try clear hfz9_1
            try clear hfz9_2
            try clear p2
            try clear p6
            try clear p8
            try clear q8
            obtain ⟨x5_3, x7_3, x1001_3, x1002_3, rfl, rfl, HA, HK3, HI0, HK, HB⟩ := hrel
            cases gk with
            | zero => exact absurd HA.out (by simp [edits_scanner_number.l0])
            | succ k3 =>
              have H := HA.out
              clear HA
              simp only [edits_scanner_number.l0] at H
              have HC14 := Aside0.mk H
              clear H
              go_upto_region 6 with (fail)
              repeat (go_quiet (fail); go_upto_region 6 with (fail))
              go_cut [63] (fun v63 wc => ∃ (kq : Nat) (x63_13 : Bool), v63 = .bool x63_13 ∧ Aside0 (edits_scanner_number.j3 kq a1 x5_3 x6_2 x7_3 x63_13 s0_0 x1001_3 x1002_3 = some (r1, r2, r3, r4)) ∧ Aside0 (kq ≤ k3) ∧ Aside0 (IsS65 w0 wc g s0_0 x1001_3 x1002_3) ∧ Aside0 (KeepBut w wc g none) ∧ Aside0 (Below w0.heap.size w0 wc))
              case first =>
                have H := HC14.out
                clear HC14
                by_cases c15 : x1002_3 = true
                · subst c15
                  have H1 : (edits_scanner_number.j3 k3 a1 x5_3 x6_2 x7_3 false s0_0 x1001_3 true) = some (r1, r2, r3, r4) := by rw [if_pos rfl] at H; exact H
                  clear H
                  have H := H1
                  clear H1
                  have H' := Aside0.mk H
                  clear H
                  obtain ⟨HGz16, hgz16⟩ := HI0.out
                  have hcz16_0 := cellS65_0 HGz16
                  have hcz16_1 := cellS65_1 HGz16
                  have hcz16_2 := cellS65_2 HGz16
                  have hfz16_0 := blk_frozen HGz16 0
                  have hfz16_1 := blk_frozen HGz16 1
                  have hfz16_2 := blk_frozen HGz16 2
                  clear HGz16 hgz16
                  go_wp2
                  repeat (go_quiet (fail); try go_wp2)
                  go_meet
                  case rel => exact ⟨_, (false), (by first | rfl | (simp; done) | (simp [*]; done)), H', ⟨by have := HJ2.out; have := HJ10.out; have := HK3.out; first | omega | exact Nat.le_refl _⟩, ⟨by repeat (first | (with_reducible first | exact HI0.out | apply IsS65.alloc | apply IsS65.drewN | apply IsS65.drew | apply IsS65.set_0 | apply IsS65.set_1 | apply IsS65.set_2) | exact HI0.out)⟩, ⟨by repeat (first | (with_reducible first | exact HK.out | apply KeepBut.set_ | apply keep_drewN | apply keep_drew | apply keep_alloc) | exact HK.out)⟩, ⟨by repeat (first | (with_reducible first | exact HB.out | apply below_alloc | apply pw_below_drewN | apply below_drew1 | refine below_set ?_ (IsS65.ge HI0.out)) | exact HB.out)⟩⟩
                · replace c15 := Bool.eq_false_iff.mpr c15
                  subst c15
                  have H1 : (edits_scanner_number.j3 k3 a1 x5_3 x6_2 x7_3 (decide (x1001_3 < (s0_0.size : Int))) s0_0 x1001_3 false) = some (r1, r2, r3, r4) := by rw [if_neg (show ¬ (false = true) by decide)] at H; exact H
                  clear H
                  have H := H1
                  clear H1
                  have H' := Aside0.mk H
                  clear H
                  obtain ⟨HGz17, hgz17⟩ := HI0.out
                  have hcz17_0 := cellS65_0 HGz17
                  have hcz17_1 := cellS65_1 HGz17
                  have hcz17_2 := cellS65_2 HGz17
                  have hfz17_0 := blk_frozen HGz17 0
                  have hfz17_1 := blk_frozen HGz17 1
                  have hfz17_2 := blk_frozen HGz17 2
                  clear HGz17 hgz17
                  go_wp2
                  repeat (go_quiet (fail); try go_wp2)
                  go_meet
                  case rel => exact ⟨_, (decide (x1001_3 < (s0_0.size : Int))), (by first | rfl | (simp; done) | (simp [*]; done)), H', ⟨by have := HJ2.out; have := HJ10.out; have := HK3.out; first | omega | exact Nat.le_refl _⟩, ⟨by repeat (first | (with_reducible first | exact HI0.out | apply IsS65.alloc | apply IsS65.drewN | apply IsS65.drew | apply IsS65.set_0 | apply IsS65.set_1 | apply IsS65.set_2) | exact HI0.out)⟩, ⟨by repeat (first | (with_reducible first | exact HK.out | apply KeepBut.set_ | apply keep_drewN | apply keep_drew | apply keep_alloc) | exact HK.out)⟩, ⟨by repeat (first | (with_reducible first | exact HB.out | apply below_alloc | apply pw_below_drewN | apply below_drew1 | refine below_set ?_ (IsS65.ge HI0.out)) | exact HB.out)⟩⟩
              case rest =>
                clear HC14
                try clear c1
                try clear p2
                try clear c3
                try clear c4
                try clear c6
                try clear c6b0
                try clear p6
                try clear c7
                try clear c7b0
                try clear p8
                try clear q8
                try clear hx8
                try clear c12
                try clear c15
                try clear hcz10_0
                try clear hcz10_1
                try clear hcz10_2
                try clear hcz13_0
                try clear hcz13_1
                try clear hcz13_2
                try clear hcz16_0
                try clear hcz16_1
                try clear hcz16_2
                try clear hcz17_0
                try clear hcz17_1
                try clear hcz17_2
                try clear hcz5_0
                try clear hcz5_1
                try clear hcz5_2
                try clear hcz9_0
                try clear hcz9_1
                try clear hcz9_2
                try clear hfz10_0
                try clear hfz10_1
                try clear hfz10_2
                try clear hfz13_0
                try clear hfz13_1
                try clear hfz13_2
                try clear hfz16_0
                try clear hfz16_1
                try clear hfz16_2
                try clear hfz17_0
                try clear hfz17_1
                try clear hfz17_2
                try clear hfz5_0
                try clear hfz5_1
                try clear hfz5_2
                try clear hfz9_0
                try clear hfz9_1
                try clear hfz9_2
                try clear p2
                try clear p6
                try clear p8
                try clear q8
                obtain ⟨kq, x63_13, rfl, HA, HJ13, HI0, HK, HB⟩ := hcut
                cases kq with
                | zero => exact absurd HA.out (by simp [edits_scanner_number.j3])
                | succ kj13 =>
                  have H := HA.out
                  clear HA
                  simp only [edits_scanner_number.j3] at H
                  by_cases c18 : x63_13 = true
                  · subst c18
                    have H1 : (if 0 ≤ x1001_3 then (if x1001_3 < (s0_0.size : Int) then (if (bt s0_0 x1001_3) < 48 then (edits_scanner_number.j4 kj13 a1 x5_3 x6_2 x7_3 (bt s0_0 x1001_3) true s0_0 x1001_3 x1002_3) else (edits_scanner_number.j4 kj13 a1 x5_3 x6_2 x7_3 (bt s0_0 x1001_3) (decide ((bt s0_0 x1001_3) > 57)) s0_0 x1001_3 x1002_3)) else (none)) else (none)) = some (r1, r2, r3, r4) := by rw [if_pos rfl] at H; exact H
                    clear H
                    have H := H1
                    clear H1
                    by_cases c19 : 0 ≤ x1001_3
                    · rw [if_pos c19] at H
                      have c19b0 : decide (0 ≤ x1001_3) = true := decide_eq_true c19
                      clear c19
                      by_cases c20 : x1001_3 < (s0_0.size : Int)
                      · rw [if_pos c20] at H
                        have c20b0 : decide (x1001_3 < (s0_0.size : Int)) = true := decide_eq_true c20
                        clear c20
                        have HC22 := Aside0.mk H
                        clear H
                        obtain ⟨HGz23, hgz23⟩ := HI0.out
                        have hcz23_0 := cellS65_0 HGz23
                        have hcz23_1 := cellS65_1 HGz23
                        have hcz23_2 := cellS65_2 HGz23
                        have hfz23_0 := blk_frozen HGz23 0
                        have hfz23_1 := blk_frozen HGz23 1
                        have hfz23_2 := blk_frozen HGz23 2
                        clear HGz23 hgz23
                        have p21 : 0 ≤ (x1001_3 : Int) := of_decide_eq_true (by first | (with_reducible assumption) | assumption)
                        have q21 : x1001_3 < (s0_0.size : Int) := of_decide_eq_true (by first | (with_reducible assumption) | assumption)
                        have hx21 := bt_at s0_0 x1001_3
                        replace p21 := eq_true p21
                        replace q21 := eq_true q21
                        go_upto_region 9 with (fail)
                        repeat (go_quiet (fail); go_upto_region 9 with (fail))
                        go_cut [85] (fun v85 wc => ∃ (kq : Nat) (x85_21 : Bool), v85 = .bool x85_21 ∧ Aside0 (edits_scanner_number.j4 kq a1 x5_3 x6_2 x7_3 (bt s0_0 x1001_3) x85_21 s0_0 x1001_3 x1002_3 = some (r1, r2, r3, r4)) ∧ Aside0 (kq ≤ kj13) ∧ Aside0 (IsS65 w0 wc g s0_0 x1001_3 x1002_3) ∧ Aside0 (KeepBut w wc g none) ∧ Aside0 (Below w0.heap.size w0 wc))
                        case first =>
                          have H := HC22.out
                          clear HC22
                          by_cases c24 : (bt s0_0 x1001_3) < 48
                          · rw [if_pos c24] at H
                            have c24b0 : decide ((bt s0_0 x1001_3) < 48) = true := decide_eq_true c24
                            clear c24
                            (first | rw [c24b0] | (simp only [i64_w, i32_w]; rw [c24b0]) | skip)
                            have H' := Aside0.mk H
                            clear H
                            go_wp2
                            repeat (go_quiet (fail); try go_wp2)
                            go_meet
                            case rel => exact ⟨_, (true), (by first | rfl | (simp; done) | (simp [*]; done)), H', ⟨by have := HJ2.out; have := HJ10.out; have := HK3.out; have := HJ13.out; first | omega | exact Nat.le_refl _⟩, ⟨by repeat (first | (with_reducible first | exact HI0.out | apply IsS65.alloc | apply IsS65.drewN | apply IsS65.drew | apply IsS65.set_0 | apply IsS65.set_1 | apply IsS65.set_2) | exact HI0.out)⟩, ⟨by repeat (first | (with_reducible first | exact HK.out | apply KeepBut.set_ | apply keep_drewN | apply keep_drew | apply keep_alloc) | exact HK.out)⟩, ⟨by repeat (first | (with_reducible first | exact HB.out | apply below_alloc | apply pw_below_drewN | apply below_drew1 | refine below_set ?_ (IsS65.ge HI0.out)) | exact HB.out)⟩⟩
                          · rw [if_neg c24] at H
                            have c24b0 : decide ((bt s0_0 x1001_3) < 48) = false := decide_eq_false c24
                            clear c24
                            (first | rw [c24b0] | (simp only [i64_w, i32_w]; rw [c24b0]) | skip)
                            have H' := Aside0.mk H
                            clear H
                            go_wp2
                            repeat (go_quiet (fail); try go_wp2)
                            go_meet
                            case rel => exact ⟨_, (decide ((bt s0_0 x1001_3) > 57)), (by first | rfl | (simp; done) | (simp [*]; done)), H', ⟨by have := HJ2.out; have := HJ10.out; have := HK3.out; have := HJ13.out; first | omega | exact Nat.le_refl _⟩, ⟨by repeat (first | (with_reducible first | exact HI0.out | apply IsS65.alloc | apply IsS65.drewN | apply IsS65.drew | apply IsS65.set_0 | apply IsS65.set_1 | apply IsS65.set_2) | exact HI0.out)⟩, ⟨by repeat (first | (with_reducible first | exact HK.out | apply KeepBut.set_ | apply keep_drewN | apply keep_drew | apply keep_alloc) | exact HK.out)⟩, ⟨by repeat (first | (with_reducible first | exact HB.out | apply below_alloc | apply pw_below_drewN | apply below_drew1 | refine below_set ?_ (IsS65.ge HI0.out)) | exact HB.out)⟩⟩
                        case rest =>
                          clear HC22
                          try clear c1
                          try clear c2
                          try clear p2
                          try clear q2
                          try clear hx2
                          try clear c3
                          try clear c4
                          try clear c6
                          try clear c6b0
                          try clear p6
                          try clear c7
                          try clear c7b0
                          try clear p8
                          try clear q8
                          try clear hx8
                          try clear c12
                          try clear c15
                          try clear c18
                          try clear c19
                          try clear c19b0
                          try clear c20
                          try clear c20b0
                          try clear p21
                          try clear q21
                          try clear hx21
                          try clear c24
                          try clear c24b0
                          try clear hcz10_0
                          try clear hcz10_1
                          try clear hcz10_2
                          try clear hcz13_0
                          try clear hcz13_1
                          try clear hcz13_2
                          try clear hcz16_0
                          try clear hcz16_1
                          try clear hcz16_2
                          try clear hcz17_0
                          try clear hcz17_1
                          try clear hcz17_2
                          try clear hcz23_0
                          try clear hcz23_1
                          try clear hcz23_2
                          try clear hcz5_0
                          try clear hcz5_1
                          try clear hcz5_2
                          try clear hcz9_0
                          try clear hcz9_1
                          try clear hcz9_2
                          try clear hfz10_0
                          try clear hfz10_1
                          try clear hfz10_2
                          try clear hfz13_0
                          try clear hfz13_1
                          try clear hfz13_2
                          try clear hfz16_0
                          try clear hfz16_1
                          try clear hfz16_2
                          try clear hfz17_0
                          try clear hfz17_1
                          try clear hfz17_2
                          try clear hfz23_0
                          try clear hfz23_1
                          try clear hfz23_2
                          try clear hfz5_0
                          try clear hfz5_1
                          try clear hfz5_2
                          try clear hfz9_0
                          try clear hfz9_1
                          try clear hfz9_2
                          try clear p2
                          try clear p21
                          try clear p6
                          try clear p8
                          try clear q21
                          try clear q8
                          obtain ⟨kq, x85_21, rfl, HA, HJ21, HI0, HK, HB⟩ := hcut
                          cases kq with
                          | zero => exact absurd HA.out (by simp [edits_scanner_number.j4])
                          | succ kj21 =>
                            have H := HA.out
                            clear HA
                            simp only [edits_scanner_number.j4] at H
                            by_cases c25 : x85_21 = true
                            · subst c25
                              have H1 : (if x7_3 = 0 then ((edits_scanner_byte.f s0_0 x1001_3 true a1).bind fun bt185 => (some (x5_3, bt185.1, bt185.2.1, bt185.2.2))) else ((edits_scanner_byte.f s0_0 x1001_3 x1002_3 a1).bind fun bt188 => (some (x5_3, bt188.1, bt188.2.1, bt188.2.2)))) = some (r1, r2, r3, r4) := by rw [if_pos rfl] at H; exact H
                              clear H
                              have H := H1
                              clear H1
                              by_cases c26 : x7_3 = 0
                              · rw [if_pos c26] at H
                                have c26b0 : (x7_3 == 0) = true := beq_iff_eq.mpr c26
                                have c26b1 : (x7_3 != 0) = false := bne_eq_false_iff_eq.mpr c26
                                clear c26
                                replace H := Option.bind_eq_some_iff.mp H
                                obtain ⟨⟨t185, t186, t187⟩, A270, H⟩ := H
                                replace H : (some (x5_3, t185, t186, t187)) = some (r1, r2, r3, r4) := H
                                have A27 := Aside0.mk A270
                                clear A270
                                simp only [Option.some.injEq, Prod.mk.injEq] at H
                                obtain ⟨rfl, rfl, rfl, rfl⟩ := H
                                obtain ⟨HGz28, hgz28⟩ := HI0.out
                                have hcz28_0 := cellS65_0 HGz28
                                have hcz28_1 := cellS65_1 HGz28
                                have hcz28_2 := cellS65_2 HGz28
                                have hfz28_0 := blk_frozen HGz28 0
                                have hfz28_1 := blk_frozen HGz28 1
                                have hfz28_2 := blk_frozen HGz28 2
                                clear HGz28 hgz28
                                go_wp2_with (first | (go_at_call 32; (with_reducible refine (edits_scanner_byte.calls g s0_0 x1001_3 true a1 t185 t186 t187 w0 _ ?side1 ?side2 A27.out).mono ?_); (case side1 => repeat (first | (with_reducible first | exact HI0.out | apply IsS65.alloc | apply IsS65.drewN | apply IsS65.drew | apply IsS65.set_0 | apply IsS65.set_1 | apply IsS65.set_2) | exact HI0.out)); (case side2 => repeat (first | (with_reducible first | exact HB.out | apply below_alloc | apply pw_below_drewN | apply below_drew1 | refine below_set ?_ (IsS65.ge HI0.out)) | exact HB.out)); rintro e w29 ⟨rfl, hi, hb, hk⟩; have n0_ := Aside0.mk (KeepBut.trans (by repeat (first | (with_reducible first | exact HK.out | apply KeepBut.set_ | apply keep_drewN | apply keep_drew | apply keep_alloc) | exact HK.out)) hk (.inl rfl)); have n1_ := Aside0.mk (hb); have n2_ := Aside0.mk (hi); clear HK; clear HB; clear HI0; have HK := n0_; have HB := n1_; have HI0 := n2_; clear n0_ n1_ n2_; (try clear hb); (try clear hb2); (try clear hk); (try clear hi)))
                                repeat (go_quiet (first | (go_at_call 32; (with_reducible refine (edits_scanner_byte.calls g s0_0 x1001_3 true a1 t185 t186 t187 w0 _ ?side1 ?side2 A27.out).mono ?_); (case side1 => repeat (first | (with_reducible first | exact HI0.out | apply IsS65.alloc | apply IsS65.drewN | apply IsS65.drew | apply IsS65.set_0 | apply IsS65.set_1 | apply IsS65.set_2) | exact HI0.out)); (case side2 => repeat (first | (with_reducible first | exact HB.out | apply below_alloc | apply pw_below_drewN | apply below_drew1 | refine below_set ?_ (IsS65.ge HI0.out)) | exact HB.out)); rintro e w29 ⟨rfl, hi, hb, hk⟩; have n0_ := Aside0.mk (KeepBut.trans (by repeat (first | (with_reducible first | exact HK.out | apply KeepBut.set_ | apply keep_drewN | apply keep_drew | apply keep_alloc) | exact HK.out)) hk (.inl rfl)); have n1_ := Aside0.mk (hb); have n2_ := Aside0.mk (hi); clear HK; clear HB; clear HI0; have HK := n0_; have HB := n1_; have HI0 := n2_; clear n0_ n1_ n2_; (try clear hb); (try clear hb2); (try clear hk); (try clear hi))); try go_wp2_with (first | (go_at_call 32; (with_reducible refine (edits_scanner_byte.calls g s0_0 x1001_3 true a1 t185 t186 t187 w0 _ ?side1 ?side2 A27.out).mono ?_); (case side1 => repeat (first | (with_reducible first | exact HI0.out | apply IsS65.alloc | apply IsS65.drewN | apply IsS65.drew | apply IsS65.set_0 | apply IsS65.set_1 | apply IsS65.set_2) | exact HI0.out)); (case side2 => repeat (first | (with_reducible first | exact HB.out | apply below_alloc | apply pw_below_drewN | apply below_drew1 | refine below_set ?_ (IsS65.ge HI0.out)) | exact HB.out)); rintro e w29 ⟨rfl, hi, hb, hk⟩; have n0_ := Aside0.mk (KeepBut.trans (by repeat (first | (with_reducible first | exact HK.out | apply KeepBut.set_ | apply keep_drewN | apply keep_drew | apply keep_alloc) | exact HK.out)) hk (.inl rfl)); have n1_ := Aside0.mk (hb); have n2_ := Aside0.mk (hi); clear HK; clear HB; clear HI0; have HK := n0_; have HB := n1_; have HI0 := n2_; clear n0_ n1_ n2_; (try clear hb); (try clear hb2); (try clear hk); (try clear hi))))
                                go_ret
                                exact ⟨by first | rfl | (simp [errW_none, errW_some] <;> rfl) | (simp [*, errW_none, errW_some] <;> rfl), by repeat (first | (with_reducible first | exact HI0.out | apply IsS65.alloc | apply IsS65.drewN | apply IsS65.drew | apply IsS65.set_0 | apply IsS65.set_1 | apply IsS65.set_2) | exact HI0.out), by repeat (first | (with_reducible first | exact HB.out | apply below_alloc | apply pw_below_drewN | apply below_drew1 | refine below_set ?_ (IsS65.ge HI0.out)) | exact HB.out), by repeat (first | (with_reducible first | exact HK.out | apply KeepBut.set_ | apply keep_drewN | apply keep_drew | apply keep_alloc) | exact HK.out)⟩
                              · rw [if_neg c26] at H
                                have c26b0 : (x7_3 == 0) = false := beq_eq_false_iff_ne.mpr c26
                                have c26b1 : (x7_3 != 0) = true := bne_iff_ne.mpr c26
                                replace H := Option.bind_eq_some_iff.mp H
                                obtain ⟨⟨t188, t189, t190⟩, A300, H⟩ := H
                                replace H : (some (x5_3, t188, t189, t190)) = some (r1, r2, r3, r4) := H
                                have A30 := Aside0.mk A300
                                clear A300
                                simp only [Option.some.injEq, Prod.mk.injEq] at H
                                obtain ⟨rfl, rfl, rfl, rfl⟩ := H
                                go_wp2_with (first | (go_at_call 32; (with_reducible refine (edits_scanner_byte.calls g s0_0 x1001_3 x1002_3 a1 t188 t189 t190 w0 _ ?side1 ?side2 A30.out).mono ?_); (case side1 => repeat (first | (with_reducible first | exact HI0.out | apply IsS65.alloc | apply IsS65.drewN | apply IsS65.drew | apply IsS65.set_0 | apply IsS65.set_1 | apply IsS65.set_2) | exact HI0.out)); (case side2 => repeat (first | (with_reducible first | exact HB.out | apply below_alloc | apply pw_below_drewN | apply below_drew1 | refine below_set ?_ (IsS65.ge HI0.out)) | exact HB.out)); rintro e w31 ⟨rfl, hi, hb, hk⟩; have n0_ := Aside0.mk (KeepBut.trans (by repeat (first | (with_reducible first | exact HK.out | apply KeepBut.set_ | apply keep_drewN | apply keep_drew | apply keep_alloc) | exact HK.out)) hk (.inl rfl)); have n1_ := Aside0.mk (hb); have n2_ := Aside0.mk (hi); clear HK; clear HB; clear HI0; have HK := n0_; have HB := n1_; have HI0 := n2_; clear n0_ n1_ n2_; (try clear hb); (try clear hb2); (try clear hk); (try clear hi)))
                                repeat (go_quiet (first | (go_at_call 32; (with_reducible refine (edits_scanner_byte.calls g s0_0 x1001_3 x1002_3 a1 t188 t189 t190 w0 _ ?side1 ?side2 A30.out).mono ?_); (case side1 => repeat (first | (with_reducible first | exact HI0.out | apply IsS65.alloc | apply IsS65.drewN | apply IsS65.drew | apply IsS65.set_0 | apply IsS65.set_1 | apply IsS65.set_2) | exact HI0.out)); (case side2 => repeat (first | (with_reducible first | exact HB.out | apply below_alloc | apply pw_below_drewN | apply below_drew1 | refine below_set ?_ (IsS65.ge HI0.out)) | exact HB.out)); rintro e w31 ⟨rfl, hi, hb, hk⟩; have n0_ := Aside0.mk (KeepBut.trans (by repeat (first | (with_reducible first | exact HK.out | apply KeepBut.set_ | apply keep_drewN | apply keep_drew | apply keep_alloc) | exact HK.out)) hk (.inl rfl)); have n1_ := Aside0.mk (hb); have n2_ := Aside0.mk (hi); clear HK; clear HB; clear HI0; have HK := n0_; have HB := n1_; have HI0 := n2_; clear n0_ n1_ n2_; (try clear hb); (try clear hb2); (try clear hk); (try clear hi))); try go_wp2_with (first | (go_at_call 32; (with_reducible refine (edits_scanner_byte.calls g s0_0 x1001_3 x1002_3 a1 t188 t189 t190 w0 _ ?side1 ?side2 A30.out).mono ?_); (case side1 => repeat (first | (with_reducible first | exact HI0.out | apply IsS65.alloc | apply IsS65.drewN | apply IsS65.drew | apply IsS65.set_0 | apply IsS65.set_1 | apply IsS65.set_2) | exact HI0.out)); (case side2 => repeat (first | (with_reducible first | exact HB.out | apply below_alloc | apply pw_below_drewN | apply below_drew1 | refine below_set ?_ (IsS65.ge HI0.out)) | exact HB.out)); rintro e w31 ⟨rfl, hi, hb, hk⟩; have n0_ := Aside0.mk (KeepBut.trans (by repeat (first | (with_reducible first | exact HK.out | apply KeepBut.set_ | apply keep_drewN | apply keep_drew | apply keep_alloc) | exact HK.out)) hk (.inl rfl)); have n1_ := Aside0.mk (hb); have n2_ := Aside0.mk (hi); clear HK; clear HB; clear HI0; have HK := n0_; have HB := n1_; have HI0 := n2_; clear n0_ n1_ n2_; (try clear hb); (try clear hb2); (try clear hk); (try clear hi))))
                                go_ret
                                exact ⟨by first | rfl | (simp [errW_none, errW_some] <;> rfl) | (simp [*, errW_none, errW_some] <;> rfl), by repeat (first | (with_reducible first | exact HI0.out | apply IsS65.alloc | apply IsS65.drewN | apply IsS65.drew | apply IsS65.set_0 | apply IsS65.set_1 | apply IsS65.set_2) | exact HI0.out), by repeat (first | (with_reducible first | exact HB.out | apply below_alloc | apply pw_below_drewN | apply below_drew1 | refine below_set ?_ (IsS65.ge HI0.out)) | exact HB.out), by repeat (first | (with_reducible first | exact HK.out | apply KeepBut.set_ | apply keep_drewN | apply keep_drew | apply keep_alloc) | exact HK.out)⟩
                            · replace c25 := Bool.eq_false_iff.mpr c25
                              subst c25
                              have H1 : (if x7_3 = 1 then (if x5_3 = 0 then (edits_scanner_number.j5 kj21 a1 x5_3 x6_2 x7_3 (((bt s0_0 x1001_3) - 48) % 256) true s0_0 x1001_3 x1002_3) else (if x6_2 = true then (if x7_3 = 0 then (edits_scanner_number.j5 kj21 a1 x5_3 x6_2 x7_3 (((bt s0_0 x1001_3) - 48) % 256) ((((bt s0_0 x1001_3) - 48) % 256) == 0) s0_0 x1001_3 x1002_3) else (edits_scanner_number.j5 kj21 a1 x5_3 x6_2 x7_3 (((bt s0_0 x1001_3) - 48) % 256) false s0_0 x1001_3 x1002_3)) else (edits_scanner_number.j5 kj21 a1 x5_3 x6_2 x7_3 (((bt s0_0 x1001_3) - 48) % 256) false s0_0 x1001_3 x1002_3))) else (if x6_2 = true then (if x7_3 = 0 then (edits_scanner_number.j5 kj21 a1 x5_3 x6_2 x7_3 (((bt s0_0 x1001_3) - 48) % 256) ((((bt s0_0 x1001_3) - 48) % 256) == 0) s0_0 x1001_3 x1002_3) else (edits_scanner_number.j5 kj21 a1 x5_3 x6_2 x7_3 (((bt s0_0 x1001_3) - 48) % 256) false s0_0 x1001_3 x1002_3)) else (edits_scanner_number.j5 kj21 a1 x5_3 x6_2 x7_3 (((bt s0_0 x1001_3) - 48) % 256) false s0_0 x1001_3 x1002_3))) = some (r1, r2, r3, r4) := by rw [if_neg (show ¬ (false = true) by decide)] at H; exact H
                              clear H
                              have H := H1
                              clear H1
                              have HC32 := Aside0.mk H
                              clear H
                              go_upto_region 11 with (fail)
                              repeat (go_quiet (fail); go_upto_region 11 with (fail))
                              go_cut [105] (fun v105 wc => ∃ (kq : Nat) (x105_31 : Bool), v105 = .bool x105_31 ∧ Aside0 (edits_scanner_number.j5 kq a1 x5_3 x6_2 x7_3 (((bt s0_0 x1001_3) - 48) % 256) x105_31 s0_0 x1001_3 x1002_3 = some (r1, r2, r3, r4)) ∧ Aside0 (kq ≤ kj21) ∧ Aside0 (IsS65 w0 wc g s0_0 x1001_3 x1002_3) ∧ Aside0 (KeepBut w wc g none) ∧ Aside0 (Below w0.heap.size w0 wc))
                              case first =>
                                have H := HC32.out
                                clear HC32
                                by_cases c33 : x7_3 = 1
                                · rw [if_pos c33] at H
                                  have c33b0 : (x7_3 == 1) = true := beq_iff_eq.mpr c33
                                  have c33b1 : (x7_3 != 1) = false := bne_eq_false_iff_eq.mpr c33
                                  clear c33
                                  (first | rw [c33b0] | (simp only [i64_w, i32_w]; rw [c33b0]) | skip)
                                  by_cases c34 : x5_3 = 0
                                  · rw [if_pos c34] at H
                                    have c34b0 : (x5_3 == 0) = true := beq_iff_eq.mpr c34
                                    have c34b1 : (x5_3 != 0) = false := bne_eq_false_iff_eq.mpr c34
                                    clear c34
                                    have H' := Aside0.mk H
                                    clear H
                                    go_wp2
                                    repeat (go_quiet (fail); try go_wp2)
                                    go_meet
                                    case rel => exact ⟨_, (true), (by first | rfl | (simp; done) | (simp [*]; done)), H', ⟨by have := HJ2.out; have := HJ10.out; have := HK3.out; have := HJ13.out; have := HJ21.out; first | omega | exact Nat.le_refl _⟩, ⟨by repeat (first | (with_reducible first | exact HI0.out | apply IsS65.alloc | apply IsS65.drewN | apply IsS65.drew | apply IsS65.set_0 | apply IsS65.set_1 | apply IsS65.set_2) | exact HI0.out)⟩, ⟨by repeat (first | (with_reducible first | exact HK.out | apply KeepBut.set_ | apply keep_drewN | apply keep_drew | apply keep_alloc) | exact HK.out)⟩, ⟨by repeat (first | (with_reducible first | exact HB.out | apply below_alloc | apply pw_below_drewN | apply below_drew1 | refine below_set ?_ (IsS65.ge HI0.out)) | exact HB.out)⟩⟩
                                  · rw [if_neg c34] at H
                                    have c34b0 : (x5_3 == 0) = false := beq_eq_false_iff_ne.mpr c34
                                    have c34b1 : (x5_3 != 0) = true := bne_iff_ne.mpr c34
                                    by_cases c35 : x6_2 = true
                                    · subst c35
                                      have H1 : (if x7_3 = 0 then (edits_scanner_number.j5 kj21 a1 x5_3 true x7_3 (((bt s0_0 x1001_3) - 48) % 256) ((((bt s0_0 x1001_3) - 48) % 256) == 0) s0_0 x1001_3 x1002_3) else (edits_scanner_number.j5 kj21 a1 x5_3 true x7_3 (((bt s0_0 x1001_3) - 48) % 256) false s0_0 x1001_3 x1002_3)) = some (r1, r2, r3, r4) := by rw [if_pos rfl] at H; exact H
                                      clear H
                                      have H := H1
                                      clear H1
                                      by_cases c36 : x7_3 = 0
                                      · rw [if_pos c36] at H
                                        have c36b0 : (x7_3 == 0) = true := beq_iff_eq.mpr c36
                                        have c36b1 : (x7_3 != 0) = false := bne_eq_false_iff_eq.mpr c36
                                        clear c36
                                        have H' := Aside0.mk H
                                        clear H
                                        go_wp2
                                        repeat (go_quiet (fail); try go_wp2)
                                        go_meet
                                        case rel => exact ⟨_, (((((bt s0_0 x1001_3) - 48) % 256) == 0)), (by first | rfl | (simp; done) | (simp [*]; done)), H', ⟨by have := HJ2.out; have := HJ10.out; have := HK3.out; have := HJ13.out; have := HJ21.out; first | omega | exact Nat.le_refl _⟩, ⟨by repeat (first | (with_reducible first | exact HI0.out | apply IsS65.alloc | apply IsS65.drewN | apply IsS65.drew | apply IsS65.set_0 | apply IsS65.set_1 | apply IsS65.set_2) | exact HI0.out)⟩, ⟨by repeat (first | (with_reducible first | exact HK.out | apply KeepBut.set_ | apply keep_drewN | apply keep_drew | apply keep_alloc) | exact HK.out)⟩, ⟨by repeat (first | (with_reducible first | exact HB.out | apply below_alloc | apply pw_below_drewN | apply below_drew1 | refine below_set ?_ (IsS65.ge HI0.out)) | exact HB.out)⟩⟩
                                      · rw [if_neg c36] at H
                                        have c36b0 : (x7_3 == 0) = false := beq_eq_false_iff_ne.mpr c36
                                        have c36b1 : (x7_3 != 0) = true := bne_iff_ne.mpr c36
                                        have H' := Aside0.mk H
                                        clear H
                                        go_wp2
                                        repeat (go_quiet (fail); try go_wp2)
                                        go_meet
                                        case rel => exact ⟨_, (false), (by first | rfl | (simp; done) | (simp [*]; done)), H', ⟨by have := HJ2.out; have := HJ10.out; have := HK3.out; have := HJ13.out; have := HJ21.out; first | omega | exact Nat.le_refl _⟩, ⟨by repeat (first | (with_reducible first | exact HI0.out | apply IsS65.alloc | apply IsS65.drewN | apply IsS65.drew | apply IsS65.set_0 | apply IsS65.set_1 | apply IsS65.set_2) | exact HI0.out)⟩, ⟨by repeat (first | (with_reducible first | exact HK.out | apply KeepBut.set_ | apply keep_drewN | apply keep_drew | apply keep_alloc) | exact HK.out)⟩, ⟨by repeat (first | (with_reducible first | exact HB.out | apply below_alloc | apply pw_below_drewN | apply below_drew1 | refine below_set ?_ (IsS65.ge HI0.out)) | exact HB.out)⟩⟩
                                    · replace c35 := Bool.eq_false_iff.mpr c35
                                      subst c35
                                      have H1 : (edits_scanner_number.j5 kj21 a1 x5_3 false x7_3 (((bt s0_0 x1001_3) - 48) % 256) false s0_0 x1001_3 x1002_3) = some (r1, r2, r3, r4) := by rw [if_neg (show ¬ (false = true) by decide)] at H; exact H
                                      clear H
                                      have H := H1
                                      clear H1
                                      have H' := Aside0.mk H
                                      clear H
                                      go_wp2
                                      repeat (go_quiet (fail); try go_wp2)
                                      go_meet
                                      case rel => exact ⟨_, (false), (by first | rfl | (simp; done) | (simp [*]; done)), H', ⟨by have := HJ2.out; have := HJ10.out; have := HK3.out; have := HJ13.out; have := HJ21.out; first | omega | exact Nat.le_refl _⟩, ⟨by repeat (first | (with_reducible first | exact HI0.out | apply IsS65.alloc | apply IsS65.drewN | apply IsS65.drew | apply IsS65.set_0 | apply IsS65.set_1 | apply IsS65.set_2) | exact HI0.out)⟩, ⟨by repeat (first | (with_reducible first | exact HK.out | apply KeepBut.set_ | apply keep_drewN | apply keep_drew | apply keep_alloc) | exact HK.out)⟩, ⟨by repeat (first | (with_reducible first | exact HB.out | apply below_alloc | apply pw_below_drewN | apply below_drew1 | refine below_set ?_ (IsS65.ge HI0.out)) | exact HB.out)⟩⟩
                                · rw [if_neg c33] at H
                                  have c33b0 : (x7_3 == 1) = false := beq_eq_false_iff_ne.mpr c33
                                  have c33b1 : (x7_3 != 1) = true := bne_iff_ne.mpr c33
                                  (first | rw [c33b0] | (simp only [i64_w, i32_w]; rw [c33b0]) | skip)
                                  by_cases c37 : x6_2 = true
                                  · subst c37
                                    have H1 : (if x7_3 = 0 then (edits_scanner_number.j5 kj21 a1 x5_3 true x7_3 (((bt s0_0 x1001_3) - 48) % 256) ((((bt s0_0 x1001_3) - 48) % 256) == 0) s0_0 x1001_3 x1002_3) else (edits_scanner_number.j5 kj21 a1 x5_3 true x7_3 (((bt s0_0 x1001_3) - 48) % 256) false s0_0 x1001_3 x1002_3)) = some (r1, r2, r3, r4) := by rw [if_pos rfl] at H; exact H
                                    clear H
                                    have H := H1
                                    clear H1
                                    by_cases c38 : x7_3 = 0
                                    · rw [if_pos c38] at H
                                      have c38b0 : (x7_3 == 0) = true := beq_iff_eq.mpr c38
                                      have c38b1 : (x7_3 != 0) = false := bne_eq_false_iff_eq.mpr c38
                                      clear c38
                                      have H' := Aside0.mk H
                                      clear H
                                      go_wp2
                                      repeat (go_quiet (fail); try go_wp2)
                                      go_meet
                                      case rel => exact ⟨_, (((((bt s0_0 x1001_3) - 48) % 256) == 0)), (by first | rfl | (simp; done) | (simp [*]; done)), H', ⟨by have := HJ2.out; have := HJ10.out; have := HK3.out; have := HJ13.out; have := HJ21.out; first | omega | exact Nat.le_refl _⟩, ⟨by repeat (first | (with_reducible first | exact HI0.out | apply IsS65.alloc | apply IsS65.drewN | apply IsS65.drew | apply IsS65.set_0 | apply IsS65.set_1 | apply IsS65.set_2) | exact HI0.out)⟩, ⟨by repeat (first | (with_reducible first | exact HK.out | apply KeepBut.set_ | apply keep_drewN | apply keep_drew | apply keep_alloc) | exact HK.out)⟩, ⟨by repeat (first | (with_reducible first | exact HB.out | apply below_alloc | apply pw_below_drewN | apply below_drew1 | refine below_set ?_ (IsS65.ge HI0.out)) | exact HB.out)⟩⟩
                                    · rw [if_neg c38] at H
                                      have c38b0 : (x7_3 == 0) = false := beq_eq_false_iff_ne.mpr c38
                                      have c38b1 : (x7_3 != 0) = true := bne_iff_ne.mpr c38
                                      have H' := Aside0.mk H
                                      clear H
                                      go_wp2
                                      repeat (go_quiet (fail); try go_wp2)
                                      go_meet
                                      case rel => exact ⟨_, (false), (by first | rfl | (simp; done) | (simp [*]; done)), H', ⟨by have := HJ2.out; have := HJ10.out; have := HK3.out; have := HJ13.out; have := HJ21.out; first | omega | exact Nat.le_refl _⟩, ⟨by repeat (first | (with_reducible first | exact HI0.out | apply IsS65.alloc | apply IsS65.drewN | apply IsS65.drew | apply IsS65.set_0 | apply IsS65.set_1 | apply IsS65.set_2) | exact HI0.out)⟩, ⟨by repeat (first | (with_reducible first | exact HK.out | apply KeepBut.set_ | apply keep_drewN | apply keep_drew | apply keep_alloc) | exact HK.out)⟩, ⟨by repeat (first | (with_reducible first | exact HB.out | apply below_alloc | apply pw_below_drewN | apply below_drew1 | refine below_set ?_ (IsS65.ge HI0.out)) | exact HB.out)⟩⟩
                                  · replace c37 := Bool.eq_false_iff.mpr c37
                                    subst c37
                                    have H1 : (edits_scanner_number.j5 kj21 a1 x5_3 false x7_3 (((bt s0_0 x1001_3) - 48) % 256) false s0_0 x1001_3 x1002_3) = some (r1, r2, r3, r4) := by rw [if_neg (show ¬ (false = true) by decide)] at H; exact H
                                    clear H
                                    have H := H1
                                    clear H1
                                    have H' := Aside0.mk H
                                    clear H
                                    go_wp2
                                    repeat (go_quiet (fail); try go_wp2)
                                    go_meet
                                    case rel => exact ⟨_, (false), (by first | rfl | (simp; done) | (simp [*]; done)), H', ⟨by have := HJ2.out; have := HJ10.out; have := HK3.out; have := HJ13.out; have := HJ21.out; first | omega | exact Nat.le_refl _⟩, ⟨by repeat (first | (with_reducible first | exact HI0.out | apply IsS65.alloc | apply IsS65.drewN | apply IsS65.drew | apply IsS65.set_0 | apply IsS65.set_1 | apply IsS65.set_2) | exact HI0.out)⟩, ⟨by repeat (first | (with_reducible first | exact HK.out | apply KeepBut.set_ | apply keep_drewN | apply keep_drew | apply keep_alloc) | exact HK.out)⟩, ⟨by repeat (first | (with_reducible first | exact HB.out | apply below_alloc | apply pw_below_drewN | apply below_drew1 | refine below_set ?_ (IsS65.ge HI0.out)) | exact HB.out)⟩⟩
                              case rest =>
                                clear HC32
                                try clear c1
                                try clear c2
                                try clear p2
                                try clear q2
                                try clear hx2
                                try clear c3
                                try clear c4
                                try clear c6
                                try clear c6b0
                                try clear p6
                                try clear c7
                                try clear c7b0
                                try clear p8
                                try clear q8
                                try clear hx8
                                try clear c12
                                try clear c15
                                try clear c18
                                try clear c19
                                try clear c19b0
                                try clear c20
                                try clear c20b0
                                try clear p21
                                try clear q21
                                try clear hx21
                                try clear c24
                                try clear c24b0
                                try clear c25
                                try clear c26
                                try clear c26b0
                                try clear c26b1
                                try clear c33
                                try clear c33b0
                                try clear c33b1
                                try clear c34
                                try clear c34b0
                                try clear c34b1
                                try clear c35
                                try clear c36
                                try clear c36b0
                                try clear c36b1
                                try clear c37
                                try clear c38
                                try clear c38b0
                                try clear c38b1
                                try clear hcz10_0
                                try clear hcz10_1
                                try clear hcz10_2
                                try clear hcz13_0
                                try clear hcz13_1
                                try clear hcz13_2
                                try clear hcz16_0
                                try clear hcz16_1
                                try clear hcz16_2
                                try clear hcz17_0
                                try clear hcz17_1
                                try clear hcz17_2
                                try clear hcz23_0
                                try clear hcz23_1
                                try clear hcz23_2
                                try clear hcz28_0
                                try clear hcz28_1
                                try clear hcz28_2
                                try clear hcz5_0
                                try clear hcz5_1
                                try clear hcz5_2
                                try clear hcz9_0
                                try clear hcz9_1
                                try clear hcz9_2
                                try clear hfz10_0
                                try clear hfz10_1
                                try clear hfz10_2
                                try clear hfz13_0
                                try clear hfz13_1
                                try clear hfz13_2
                                try clear hfz16_0
                                try clear hfz16_1
                                try clear hfz16_2
                                try clear hfz17_0
                                try clear hfz17_1
                                try clear hfz17_2
                                try clear hfz23_0
                                try clear hfz23_1
                                try clear hfz23_2
                                try clear hfz28_0
                                try clear hfz28_1
                                try clear hfz28_2
                                try clear hfz5_0
                                try clear hfz5_1
                                try clear hfz5_2
                                try clear hfz9_0
                                try clear hfz9_1
                                try clear hfz9_2
                                try clear p2
                                try clear p21
                                try clear p6
                                try clear p8
                                try clear q2
                                try clear q21
                                try clear q8
                                obtain ⟨kq, x105_31, rfl, HA, HJ31, HI0, HK, HB⟩ := hcut
                                cases kq with
                                | zero => exact absurd HA.out (by simp [edits_scanner_number.j5])
                                | succ kj31 =>
                                  have H := HA.out
                                  clear HA
                                  simp only [edits_scanner_number.j5] at H
                                  by_cases c39 : x105_31 = true
                                  · subst c39
                                    have H1 : (some (0, s0_0, x1001_3, true)) = some (r1, r2, r3, r4) := by rw [if_pos rfl] at H; exact H
                                    clear H
                                    have H := H1
                                    clear H1
                                    simp only [Option.some.injEq, Prod.mk.injEq] at H
                                    obtain ⟨rfl, rfl, rfl, rfl⟩ := H
                                    obtain ⟨HGz40, hgz40⟩ := HI0.out
                                    have hcz40_0 := cellS65_0 HGz40
                                    have hcz40_1 := cellS65_1 HGz40
                                    have hcz40_2 := cellS65_2 HGz40
                                    have hfz40_0 := blk_frozen HGz40 0
                                    have hfz40_1 := blk_frozen HGz40 1
                                    have hfz40_2 := blk_frozen HGz40 2
                                    clear HGz40 hgz40
                                    go_wp2
                                    repeat (go_quiet (fail); try go_wp2)
                                    go_ret
                                    exact ⟨by first | rfl | (simp [errW_none, errW_some] <;> rfl) | (simp [*, errW_none, errW_some] <;> rfl), by repeat (first | (with_reducible first | exact HI0.out | apply IsS65.alloc | apply IsS65.drewN | apply IsS65.drew | apply IsS65.set_0 | apply IsS65.set_1 | apply IsS65.set_2) | exact HI0.out), by repeat (first | (with_reducible first | exact HB.out | apply below_alloc | apply pw_below_drewN | apply below_drew1 | refine below_set ?_ (IsS65.ge HI0.out)) | exact HB.out), by repeat (first | (with_reducible first | exact HK.out | apply KeepBut.set_ | apply keep_drewN | apply keep_drew | apply keep_alloc) | exact HK.out)⟩
                                  · replace c39 := Bool.eq_false_iff.mpr c39
                                    subst c39
                                    have H1 : (if x6_2 = true then (if x5_3 < (wrap64 (Int.tdiv (wrap64 ((-9223372036854775808) + (((bt s0_0 x1001_3) - 48) % 256))) 10)) then (some (0, s0_0, x1001_3, true)) else (edits_scanner_number.l0 kj31 a1 (wrap64 ((wrap64 (x5_3 * 10)) - (((bt s0_0 x1001_3) - 48) % 256))) x6_2 (wrap64 (x7_3 + 1)) s0_0 (wrap64 (x1001_3 + 1)) x1002_3)) else (if x5_3 > (wrap64 (Int.tdiv (wrap64 (9223372036854775807 - (((bt s0_0 x1001_3) - 48) % 256))) 10)) then (some (0, s0_0, x1001_3, true)) else (edits_scanner_number.l0 kj31 a1 (wrap64 ((wrap64 (x5_3 * 10)) + (((bt s0_0 x1001_3) - 48) % 256))) x6_2 (wrap64 (x7_3 + 1)) s0_0 (wrap64 (x1001_3 + 1)) x1002_3))) = some (r1, r2, r3, r4) := by rw [if_neg (show ¬ (false = true) by decide)] at H; exact H
                                    clear H
                                    have H := H1
                                    clear H1
                                    by_cases c41 : x6_2 = true
                                    · subst c41
                                      have H1 : (if x5_3 < (wrap64 (Int.tdiv (wrap64 ((-9223372036854775808) + (((bt s0_0 x1001_3) - 48) % 256))) 10)) then (some (0, s0_0, x1001_3, true)) else (edits_scanner_number.l0 kj31 a1 (wrap64 ((wrap64 (x5_3 * 10)) - (((bt s0_0 x1001_3) - 48) % 256))) true (wrap64 (x7_3 + 1)) s0_0 (wrap64 (x1001_3 + 1)) x1002_3)) = some (r1, r2, r3, r4) := by rw [if_pos rfl] at H; exact H
                                      clear H
                                      have H := H1
                                      clear H1
                                      by_cases c42 : x5_3 < (wrap64 (Int.tdiv (wrap64 ((-9223372036854775808) + (((bt s0_0 x1001_3) - 48) % 256))) 10))
                                      · rw [if_pos c42] at H
                                        have c42b0 : decide (x5_3 < (wrap64 (Int.tdiv (wrap64 ((-9223372036854775808) + (((bt s0_0 x1001_3) - 48) % 256))) 10))) = true := decide_eq_true c42
                                        have c42b9 : decide (x5_3 < (Int.tdiv (-9223372036854775808 + (((bt s0_0 x1001_3) - 48) % 256)) 10)) = true := by rw [← tdiv_lo (bt256 s0_0 x1001_3)]; exact c42b0
                                        clear c42
                                        simp only [Option.some.injEq, Prod.mk.injEq] at H
                                        obtain ⟨rfl, rfl, rfl, rfl⟩ := H
                                        obtain ⟨HGz43, hgz43⟩ := HI0.out
                                        have hcz43_0 := cellS65_0 HGz43
                                        have hcz43_1 := cellS65_1 HGz43
                                        have hcz43_2 := cellS65_2 HGz43
                                        have hfz43_0 := blk_frozen HGz43 0
                                        have hfz43_1 := blk_frozen HGz43 1
                                        have hfz43_2 := blk_frozen HGz43 2
                                        clear HGz43 hgz43
                                        go_wp2
                                        repeat (go_quiet (fail); try go_wp2)
                                        go_ret
                                        exact ⟨by first | rfl | (simp [errW_none, errW_some] <;> rfl) | (simp [*, errW_none, errW_some] <;> rfl), by repeat (first | (with_reducible first | exact HI0.out | apply IsS65.alloc | apply IsS65.drewN | apply IsS65.drew | apply IsS65.set_0 | apply IsS65.set_1 | apply IsS65.set_2) | exact HI0.out), by repeat (first | (with_reducible first | exact HB.out | apply below_alloc | apply pw_below_drewN | apply below_drew1 | refine below_set ?_ (IsS65.ge HI0.out)) | exact HB.out), by repeat (first | (with_reducible first | exact HK.out | apply KeepBut.set_ | apply keep_drewN | apply keep_drew | apply keep_alloc) | exact HK.out)⟩
                                      · rw [if_neg c42] at H
                                        have c42b0 : decide (x5_3 < (wrap64 (Int.tdiv (wrap64 ((-9223372036854775808) + (((bt s0_0 x1001_3) - 48) % 256))) 10))) = false := decide_eq_false c42
                                        have c42b9 : decide (x5_3 < (Int.tdiv (-9223372036854775808 + (((bt s0_0 x1001_3) - 48) % 256)) 10)) = false := by rw [← tdiv_lo (bt256 s0_0 x1001_3)]; exact c42b0
                                        clear c42
                                        have H' := Aside0.mk H
                                        clear H
                                        obtain ⟨HGz44, hgz44⟩ := HI0.out
                                        have hcz44_0 := cellS65_0 HGz44
                                        have hcz44_1 := cellS65_1 HGz44
                                        have hcz44_2 := cellS65_2 HGz44
                                        have hfz44_0 := blk_frozen HGz44 0
                                        have hfz44_1 := blk_frozen HGz44 1
                                        have hfz44_2 := blk_frozen HGz44 2
                                        clear HGz44 hgz44
                                        go_wp2
                                        repeat (go_quiet (fail); try go_wp2)
                                        go_roundg kj31
                                        case measure => have := HJ2.out; have := HJ10.out; have := HK3.out; have := HJ13.out; have := HJ21.out; have := HJ31.out; omega
                                        case rel => exact ⟨(wrap64 ((wrap64 (x5_3 * 10)) - (((bt s0_0 x1001_3) - 48) % 256))), (wrap64 (x7_3 + 1)), (wrap64 (x1001_3 + 1)), (x1002_3), (by first | rfl | (simp; done) | (simp [*]; done)), (by first | rfl | (simp; done) | (simp [*]; done)), H', ⟨by have := HJ2.out; have := HJ10.out; have := HK3.out; have := HJ13.out; have := HJ21.out; have := HJ31.out; omega⟩, ⟨by repeat (first | (with_reducible first | exact HI0.out | apply IsS65.alloc | apply IsS65.drewN | apply IsS65.drew | apply IsS65.set_0 | apply IsS65.set_1 | apply IsS65.set_2) | exact HI0.out)⟩, ⟨by repeat (first | (with_reducible first | exact HK.out | apply KeepBut.set_ | apply keep_drewN | apply keep_drew | apply keep_alloc) | exact HK.out)⟩, ⟨by repeat (first | (with_reducible first | exact HB.out | apply below_alloc | apply pw_below_drewN | apply below_drew1 | refine below_set ?_ (IsS65.ge HI0.out)) | exact HB.out)⟩⟩
                                    · replace c41 := Bool.eq_false_iff.mpr c41
                                      subst c41
                                      have H1 : (if x5_3 > (wrap64 (Int.tdiv (wrap64 (9223372036854775807 - (((bt s0_0 x1001_3) - 48) % 256))) 10)) then (some (0, s0_0, x1001_3, true)) else (edits_scanner_number.l0 kj31 a1 (wrap64 ((wrap64 (x5_3 * 10)) + (((bt s0_0 x1001_3) - 48) % 256))) false (wrap64 (x7_3 + 1)) s0_0 (wrap64 (x1001_3 + 1)) x1002_3)) = some (r1, r2, r3, r4) := by rw [if_neg (show ¬ (false = true) by decide)] at H; exact H
                                      clear H
                                      have H := H1
                                      clear H1
                                      by_cases c45 : x5_3 > (wrap64 (Int.tdiv (wrap64 (9223372036854775807 - (((bt s0_0 x1001_3) - 48) % 256))) 10))
                                      · rw [if_pos c45] at H
                                        have c45b0 : decide ((wrap64 (Int.tdiv (wrap64 (9223372036854775807 - (((bt s0_0 x1001_3) - 48) % 256))) 10)) < x5_3) = true := decide_eq_true c45
                                        have c45b9 : decide (((9223372036854775807 - (((bt s0_0 x1001_3) - 48) % 256)) / 10) < x5_3) = true := by rw [← tdiv_hi (bt256 s0_0 x1001_3)]; exact c45b0
                                        clear c45
                                        simp only [Option.some.injEq, Prod.mk.injEq] at H
                                        obtain ⟨rfl, rfl, rfl, rfl⟩ := H
                                        obtain ⟨HGz46, hgz46⟩ := HI0.out
                                        have hcz46_0 := cellS65_0 HGz46
                                        have hcz46_1 := cellS65_1 HGz46
                                        have hcz46_2 := cellS65_2 HGz46
                                        have hfz46_0 := blk_frozen HGz46 0
                                        have hfz46_1 := blk_frozen HGz46 1
                                        have hfz46_2 := blk_frozen HGz46 2
                                        clear HGz46 hgz46
                                        go_wp2
                                        repeat (go_quiet (fail); try go_wp2)
                                        go_ret
                                        exact ⟨by first | rfl | (simp [errW_none, errW_some] <;> rfl) | (simp [*, errW_none, errW_some] <;> rfl), by repeat (first | (with_reducible first | exact HI0.out | apply IsS65.alloc | apply IsS65.drewN | apply IsS65.drew | apply IsS65.set_0 | apply IsS65.set_1 | apply IsS65.set_2) | exact HI0.out), by repeat (first | (with_reducible first | exact HB.out | apply below_alloc | apply pw_below_drewN | apply below_drew1 | refine below_set ?_ (IsS65.ge HI0.out)) | exact HB.out), by repeat (first | (with_reducible first | exact HK.out | apply KeepBut.set_ | apply keep_drewN | apply keep_drew | apply keep_alloc) | exact HK.out)⟩
                                      · rw [if_neg c45] at H
                                        have c45b0 : decide ((wrap64 (Int.tdiv (wrap64 (9223372036854775807 - (((bt s0_0 x1001_3) - 48) % 256))) 10)) < x5_3) = false := decide_eq_false c45
                                        have c45b9 : decide (((9223372036854775807 - (((bt s0_0 x1001_3) - 48) % 256)) / 10) < x5_3) = false := by rw [← tdiv_hi (bt256 s0_0 x1001_3)]; exact c45b0
                                        clear c45
                                        have H' := Aside0.mk H
                                        clear H
                                        obtain ⟨HGz47, hgz47⟩ := HI0.out
                                        have hcz47_0 := cellS65_0 HGz47
                                        have hcz47_1 := cellS65_1 HGz47
                                        have hcz47_2 := cellS65_2 HGz47
                                        have hfz47_0 := blk_frozen HGz47 0
                                        have hfz47_1 := blk_frozen HGz47 1
                                        have hfz47_2 := blk_frozen HGz47 2
                                        clear HGz47 hgz47
                                        go_wp2
                                        repeat (go_quiet (fail); try go_wp2)
                                        go_roundg kj31
                                        case measure => have := HJ2.out; have := HJ10.out; have := HK3.out; have := HJ13.out; have := HJ21.out; have := HJ31.out; omega
                                        case rel => exact ⟨(wrap64 ((wrap64 (x5_3 * 10)) + (((bt s0_0 x1001_3) - 48) % 256))), (wrap64 (x7_3 + 1)), (wrap64 (x1001_3 + 1)), (x1002_3), (by first | rfl | (simp; done) | (simp [*]; done)), (by first | rfl | (simp; done) | (simp [*]; done)), H', ⟨by have := HJ2.out; have := HJ10.out; have := HK3.out; have := HJ13.out; have := HJ21.out; have := HJ31.out; omega⟩, ⟨by repeat (first | (with_reducible first | exact HI0.out | apply IsS65.alloc | apply IsS65.drewN | apply IsS65.drew | apply IsS65.set_0 | apply IsS65.set_1 | apply IsS65.set_2) | exact HI0.out)⟩, ⟨by repeat (first | (with_reducible first | exact HK.out | apply KeepBut.set_ | apply keep_drewN | apply keep_drew | apply keep_alloc) | exact HK.out)⟩, ⟨by repeat (first | (with_reducible first | exact HB.out | apply below_alloc | apply pw_below_drewN | apply below_drew1 | refine below_set ?_ (IsS65.ge HI0.out)) | exact HB.out)⟩⟩
                      · rw [if_neg c20] at H
                        exact absurd H (by simp)
                    · rw [if_neg c19] at H
                      exact absurd H (by simp)
                  · replace c18 := Bool.eq_false_iff.mpr c18
                    subst c18
                    have H1 : (if x7_3 = 0 then ((edits_scanner_byte.f s0_0 x1001_3 true a1).bind fun bt179 => (some (x5_3, bt179.1, bt179.2.1, bt179.2.2))) else ((edits_scanner_byte.f s0_0 x1001_3 x1002_3 a1).bind fun bt182 => (some (x5_3, bt182.1, bt182.2.1, bt182.2.2)))) = some (r1, r2, r3, r4) := by rw [if_neg (show ¬ (false = true) by decide)] at H; exact H
                    clear H
                    have H := H1
                    clear H1
                    by_cases c48 : x7_3 = 0
                    · rw [if_pos c48] at H
                      have c48b0 : (x7_3 == 0) = true := beq_iff_eq.mpr c48
                      have c48b1 : (x7_3 != 0) = false := bne_eq_false_iff_eq.mpr c48
                      clear c48
                      replace H := Option.bind_eq_some_iff.mp H
                      obtain ⟨⟨t179, t180, t181⟩, A490, H⟩ := H
                      replace H : (some (x5_3, t179, t180, t181)) = some (r1, r2, r3, r4) := H
                      have A49 := Aside0.mk A490
                      clear A490
                      simp only [Option.some.injEq, Prod.mk.injEq] at H
                      obtain ⟨rfl, rfl, rfl, rfl⟩ := H
                      obtain ⟨HGz50, hgz50⟩ := HI0.out
                      have hcz50_0 := cellS65_0 HGz50
                      have hcz50_1 := cellS65_1 HGz50
                      have hcz50_2 := cellS65_2 HGz50
                      have hfz50_0 := blk_frozen HGz50 0
                      have hfz50_1 := blk_frozen HGz50 1
                      have hfz50_2 := blk_frozen HGz50 2
                      clear HGz50 hgz50
                      go_wp2_with (first | (go_at_call 32; (with_reducible refine (edits_scanner_byte.calls g s0_0 x1001_3 true a1 t179 t180 t181 w0 _ ?side1 ?side2 A49.out).mono ?_); (case side1 => repeat (first | (with_reducible first | exact HI0.out | apply IsS65.alloc | apply IsS65.drewN | apply IsS65.drew | apply IsS65.set_0 | apply IsS65.set_1 | apply IsS65.set_2) | exact HI0.out)); (case side2 => repeat (first | (with_reducible first | exact HB.out | apply below_alloc | apply pw_below_drewN | apply below_drew1 | refine below_set ?_ (IsS65.ge HI0.out)) | exact HB.out)); rintro e w51 ⟨rfl, hi, hb, hk⟩; have n0_ := Aside0.mk (KeepBut.trans (by repeat (first | (with_reducible first | exact HK.out | apply KeepBut.set_ | apply keep_drewN | apply keep_drew | apply keep_alloc) | exact HK.out)) hk (.inl rfl)); have n1_ := Aside0.mk (hb); have n2_ := Aside0.mk (hi); clear HK; clear HB; clear HI0; have HK := n0_; have HB := n1_; have HI0 := n2_; clear n0_ n1_ n2_; (try clear hb); (try clear hb2); (try clear hk); (try clear hi)))
                      repeat (go_quiet (first | (go_at_call 32; (with_reducible refine (edits_scanner_byte.calls g s0_0 x1001_3 true a1 t179 t180 t181 w0 _ ?side1 ?side2 A49.out).mono ?_); (case side1 => repeat (first | (with_reducible first | exact HI0.out | apply IsS65.alloc | apply IsS65.drewN | apply IsS65.drew | apply IsS65.set_0 | apply IsS65.set_1 | apply IsS65.set_2) | exact HI0.out)); (case side2 => repeat (first | (with_reducible first | exact HB.out | apply below_alloc | apply pw_below_drewN | apply below_drew1 | refine below_set ?_ (IsS65.ge HI0.out)) | exact HB.out)); rintro e w51 ⟨rfl, hi, hb, hk⟩; have n0_ := Aside0.mk (KeepBut.trans (by repeat (first | (with_reducible first | exact HK.out | apply KeepBut.set_ | apply keep_drewN | apply keep_drew | apply keep_alloc) | exact HK.out)) hk (.inl rfl)); have n1_ := Aside0.mk (hb); have n2_ := Aside0.mk (hi); clear HK; clear HB; clear HI0; have HK := n0_; have HB := n1_; have HI0 := n2_; clear n0_ n1_ n2_; (try clear hb); (try clear hb2); (try clear hk); (try clear hi))); try go_wp2_with (first | (go_at_call 32; (with_reducible refine (edits_scanner_byte.calls g s0_0 x1001_3 true a1 t179 t180 t181 w0 _ ?side1 ?side2 A49.out).mono ?_); (case side1 => repeat (first | (with_reducible first | exact HI0.out | apply IsS65.alloc | apply IsS65.drewN | apply IsS65.drew | apply IsS65.set_0 | apply IsS65.set_1 | apply IsS65.set_2) | exact HI0.out)); (case side2 => repeat (first | (with_reducible first | exact HB.out | apply below_alloc | apply pw_below_drewN | apply below_drew1 | refine below_set ?_ (IsS65.ge HI0.out)) | exact HB.out)); rintro e w51 ⟨rfl, hi, hb, hk⟩; have n0_ := Aside0.mk (KeepBut.trans (by repeat (first | (with_reducible first | exact HK.out | apply KeepBut.set_ | apply keep_drewN | apply keep_drew | apply keep_alloc) | exact HK.out)) hk (.inl rfl)); have n1_ := Aside0.mk (hb); have n2_ := Aside0.mk (hi); clear HK; clear HB; clear HI0; have HK := n0_; have HB := n1_; have HI0 := n2_; clear n0_ n1_ n2_; (try clear hb); (try clear hb2); (try clear hk); (try clear hi))))
                      go_ret
                      exact ⟨by first | rfl | (simp [errW_none, errW_some] <;> rfl) | (simp [*, errW_none, errW_some] <;> rfl), by repeat (first | (with_reducible first | exact HI0.out | apply IsS65.alloc | apply IsS65.drewN | apply IsS65.drew | apply IsS65.set_0 | apply IsS65.set_1 | apply IsS65.set_2) | exact HI0.out), by repeat (first | (with_reducible first | exact HB.out | apply below_alloc | apply pw_below_drewN | apply below_drew1 | refine below_set ?_ (IsS65.ge HI0.out)) | exact HB.out), by repeat (first | (with_reducible first | exact HK.out | apply KeepBut.set_ | apply keep_drewN | apply keep_drew | apply keep_alloc) | exact HK.out)⟩
                    · rw [if_neg c48] at H
                      have c48b0 : (x7_3 == 0) = false := beq_eq_false_iff_ne.mpr c48
                      have c48b1 : (x7_3 != 0) = true := bne_iff_ne.mpr c48
                      replace H := Option.bind_eq_some_iff.mp H
                      obtain ⟨⟨t182, t183, t184⟩, A520, H⟩ := H
                      replace H : (some (x5_3, t182, t183, t184)) = some (r1, r2, r3, r4) := H
                      have A52 := Aside0.mk A520
                      clear A520
                      simp only [Option.some.injEq, Prod.mk.injEq] at H
                      obtain ⟨rfl, rfl, rfl, rfl⟩ := H
                      go_wp2_with (first | (go_at_call 32; (with_reducible refine (edits_scanner_byte.calls g s0_0 x1001_3 x1002_3 a1 t182 t183 t184 w0 _ ?side1 ?side2 A52.out).mono ?_); (case side1 => repeat (first | (with_reducible first | exact HI0.out | apply IsS65.alloc | apply IsS65.drewN | apply IsS65.drew | apply IsS65.set_0 | apply IsS65.set_1 | apply IsS65.set_2) | exact HI0.out)); (case side2 => repeat (first | (with_reducible first | exact HB.out | apply below_alloc | apply pw_below_drewN | apply below_drew1 | refine below_set ?_ (IsS65.ge HI0.out)) | exact HB.out)); rintro e w53 ⟨rfl, hi, hb, hk⟩; have n0_ := Aside0.mk (KeepBut.trans (by repeat (first | (with_reducible first | exact HK.out | apply KeepBut.set_ | apply keep_drewN | apply keep_drew | apply keep_alloc) | exact HK.out)) hk (.inl rfl)); have n1_ := Aside0.mk (hb); have n2_ := Aside0.mk (hi); clear HK; clear HB; clear HI0; have HK := n0_; have HB := n1_; have HI0 := n2_; clear n0_ n1_ n2_; (try clear hb); (try clear hb2); (try clear hk); (try clear hi)))
                      repeat (go_quiet (first | (go_at_call 32; (with_reducible refine (edits_scanner_byte.calls g s0_0 x1001_3 x1002_3 a1 t182 t183 t184 w0 _ ?side1 ?side2 A52.out).mono ?_); (case side1 => repeat (first | (with_reducible first | exact HI0.out | apply IsS65.alloc | apply IsS65.drewN | apply IsS65.drew | apply IsS65.set_0 | apply IsS65.set_1 | apply IsS65.set_2) | exact HI0.out)); (case side2 => repeat (first | (with_reducible first | exact HB.out | apply below_alloc | apply pw_below_drewN | apply below_drew1 | refine below_set ?_ (IsS65.ge HI0.out)) | exact HB.out)); rintro e w53 ⟨rfl, hi, hb, hk⟩; have n0_ := Aside0.mk (KeepBut.trans (by repeat (first | (with_reducible first | exact HK.out | apply KeepBut.set_ | apply keep_drewN | apply keep_drew | apply keep_alloc) | exact HK.out)) hk (.inl rfl)); have n1_ := Aside0.mk (hb); have n2_ := Aside0.mk (hi); clear HK; clear HB; clear HI0; have HK := n0_; have HB := n1_; have HI0 := n2_; clear n0_ n1_ n2_; (try clear hb); (try clear hb2); (try clear hk); (try clear hi))); try go_wp2_with (first | (go_at_call 32; (with_reducible refine (edits_scanner_byte.calls g s0_0 x1001_3 x1002_3 a1 t182 t183 t184 w0 _ ?side1 ?side2 A52.out).mono ?_); (case side1 => repeat (first | (with_reducible first | exact HI0.out | apply IsS65.alloc | apply IsS65.drewN | apply IsS65.drew | apply IsS65.set_0 | apply IsS65.set_1 | apply IsS65.set_2) | exact HI0.out)); (case side2 => repeat (first | (with_reducible first | exact HB.out | apply below_alloc | apply pw_below_drewN | apply below_drew1 | refine below_set ?_ (IsS65.ge HI0.out)) | exact HB.out)); rintro e w53 ⟨rfl, hi, hb, hk⟩; have n0_ := Aside0.mk (KeepBut.trans (by repeat (first | (with_reducible first | exact HK.out | apply KeepBut.set_ | apply keep_drewN | apply keep_drew | apply keep_alloc) | exact HK.out)) hk (.inl rfl)); have n1_ := Aside0.mk (hb); have n2_ := Aside0.mk (hi); clear HK; clear HB; clear HI0; have HK := n0_; have HB := n1_; have HI0 := n2_; clear n0_ n1_ n2_; (try clear hb); (try clear hb2); (try clear hk); (try clear hi))))
                      go_ret
                      exact ⟨by first | rfl | (simp [errW_none, errW_some] <;> rfl) | (simp [*, errW_none, errW_some] <;> rfl), by repeat (first | (with_reducible first | exact HI0.out | apply IsS65.alloc | apply IsS65.drewN | apply IsS65.drew | apply IsS65.set_0 | apply IsS65.set_1 | apply IsS65.set_2) | exact HI0.out), by repeat (first | (with_reducible first | exact HB.out | apply below_alloc | apply pw_below_drewN | apply below_drew1 | refine below_set ?_ (IsS65.ge HI0.out)) | exact HB.out), by repeat (first | (with_reducible first | exact HK.out | apply KeepBut.set_ | apply keep_drewN | apply keep_drew | apply keep_alloc) | exact HK.out)⟩

end Go.Proofs.YtaihajmdngoeiaaDoor.F
