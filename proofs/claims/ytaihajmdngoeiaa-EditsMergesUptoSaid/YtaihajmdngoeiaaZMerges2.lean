/- The law EditsMerges of package monikerlaw holds of the given program: called with any arguments that can be read as data, together of bulk at most 1048576, it returns true, and its arguments read behind the call as before. Conditions: those of the given row '..Upto', no others. -/
import Derived.Test.YtaihajmdngoeiaaZMerges1
import Derived.BigRegion
import Derived.Test.YtaihajmdngoeiaaWMore
import Derived.SizedLaws
import Derived.ChangeSlices
import Derived.Deep.Slices
import Derived.Test.YtaihajmdngoeiaaRows
import Derived.JoinedCond
import Derived.ChangeArms
import Derived.WalkKit
import Derived.ProofKit
import Derived.OpenShut
import Derived.ShutString
import Derived.ChangeOld
import Derived.Below
-- Merge of the document, plainly
namespace Go.Proofs.Ytaihajmdngoeiaa.Q
open Go.RowKit Go.Proofs.YtaihajmdngoeiaaW.PrintWords Go.Proofs.YtaihajmdngoeiaaW.PrintLast Go.Proofs.YtaihajmdngoeiaaW.PrintMore
open Go.Proofs.Ytaihajmdngoeiaa.F
set_option linter.unusedVariables false
set_option linter.unusedSimpArgs false

/-- How many bytes all texts have. -/
def sz : List S42 → Nat
  | [] => 0
  | e :: t => e.f2.size + sz t
theorem sz_app (a b : List S42) : sz (a ++ b) = sz a + sz b := by
  induction a with
  | nil => simp [sz]
  | cons x a ih => simp only [List.cons_append, sz, ih]; omega
theorem sz_mem {l : List S42} {i : Nat} (h : i < l.length) : (l[i]).f2.size ≤ sz l := by
  induction l generalizing i with
  | nil => cases h
  | cons x l ih =>
    cases i with
    | zero => simp only [List.getElem_cons_zero, sz]; omega
    | succ i => simp only [List.getElem_cons_succ, sz]; have := ih (i := i) (by simpa using h); omega
theorem sz_set {l : List S42} {i : Nat} (h : i < l.length) (e : S42) : sz (l.set i e) + (l[i]).f2.size = sz l + e.f2.size := by
  induction l generalizing i with
  | nil => cases h
  | cons x l ih =>
    cases i with
    | zero => simp only [List.set_cons_zero, List.getElem_cons_zero, sz]; omega
    | succ i => simp only [List.set_cons_succ, List.getElem_cons_succ, sz]; have := ih (i := i) (by simpa using h); omega
/-- One more in the list: with the last one, where it begins at its end. -/
def joinE (out : List S42) (e : S42) : List S42 :=
  if 0 < out.length ∧ (rd_T42 out ((out.length : Int) - 1)).f1 = e.f0 then out.set (out.length - 1) ⟨(rd_T42 out ((out.length : Int) - 1)).f0, e.f1, (rd_T42 out ((out.length : Int) - 1)).f2 ++ e.f2⟩ else out ++ [e]
def joinR (out : List S42) (l : List S42) : List S42 := l.foldl joinE out
theorem rd_last {out : List S42} (h : 0 < out.length) : rd_T42 out ((out.length : Int) - 1) = out[out.length - 1] := by
  rw [show (out.length : Int) - 1 = ((out.length - 1 : Nat) : Int) by omega]
  exact rd_at out _ (by omega)
theorem joinE_sz (out : List S42) (e : S42) : sz (joinE out e) ≤ sz out + e.f2.size := by
  unfold joinE
  by_cases c : 0 < out.length ∧ (rd_T42 out ((out.length : Int) - 1)).f1 = e.f0
  · rw [if_pos c]
    have h := sz_set (l := out) (i := out.length - 1) (by omega) ⟨(rd_T42 out ((out.length : Int) - 1)).f0, e.f1, (rd_T42 out ((out.length : Int) - 1)).f2 ++ e.f2⟩
    rw [rd_last c.1] at h ⊢
    simp only [ByteArray.size_append] at h
    omega
  · rw [if_neg c, sz_app]
    simp [sz]
theorem joinE_len (out : List S42) (e : S42) : (joinE out e).length ≤ out.length + 1 := by
  unfold joinE
  split <;> simp
def fin (o : List S42) : List S42 × Int := if o.length > 65536 then ([], 2) else (o, 0)

theorem Meet_is (x y : S42) : ∀ k, 1 ≤ k → monikerref1_Meet.f k x.f0 x.f1 x.f2 y.f0 y.f1 y.f2 = some (meetB x y) := by
  intro k hk
  obtain ⟨k, rfl⟩ : ∃ j, k = j + 1 := ⟨k - 1, by omega⟩
  unfold monikerref1_Meet.f meetB
  simp only [monikerref1_Meet.j0]
  by_cases c1 : x.f0 = x.f1 <;> by_cases c2 : y.f0 = y.f1 <;> simp [c1, c2, Bool.and_comm]
  all_goals (first | done | (by_cases c3 : y.f0 < x.f1 <;> simp [c3]; done) | (by_cases c3 : x.f0 < y.f1 <;> simp [c3]; done) | (by_cases c3 : x.f1 = y.f1 <;> simp [c3]; done) | skip)
theorem ahead_is (x y : S42) : monikerref1_ahead.f x.f0 x.f1 x.f2 y.f0 y.f1 y.f2 = some (aheadB x y) := by
  unfold monikerref1_ahead.f aheadB
  by_cases c1 : x.f0 < y.f0 <;> by_cases c2 : x.f0 = y.f0 <;> simp [c1, c2]

/-- The neighbours, as the document numbers them. -/
def qOf (b : List S42) (k : Nat) : Option S42 := if k = 0 then none else b[k - 1]?
def near (b : List S42) (k : Nat) : List S42 := (b.drop (k - 1)).take (min (k + 2) b.length - (k - 1))
theorem near_is (b : List S42) (k : Nat) (hk : k ≤ b.length) : near b k = nears (qOf b k) (b.drop k) := by
  unfold near nears qOf
  cases k with
  | zero =>
    simp only [if_true, Option.toList_none, List.nil_append, Nat.zero_add, Nat.zero_sub, Nat.sub_zero, List.drop_zero]
    rw [Nat.min_def]
    split
    · rfl
    · rw [List.take_of_length_le (Nat.le_refl _), List.take_of_length_le (by omega)]
  | succ k =>
    rw [if_neg (by omega)]
    simp only [Nat.add_sub_cancel]
    have h : k < b.length := by omega
    rw [List.getElem?_eq_getElem h, List.drop_eq_getElem_cons h]
    simp only [Option.toList_some, List.singleton_append]
    rw [show min (k + 1 + 2) b.length - k = (min (k + 1 + 2) b.length - k - 1) + 1 by omega, List.take_succ_cons]
    congr 1
    rw [Nat.min_def]
    split
    · rw [show k + 1 + 2 - k - 1 = 2 by omega]
    · rw [List.take_of_length_le (by rw [List.length_drop]; omega), List.take_of_length_le (by rw [List.length_drop]; omega)]

theorem l1_loop (a b all : List S42) (i k : Nat) (ha : a.length ≤ 1000000) (hb : b.length ≤ 1000000) (hi : i < a.length) (hk : k ≤ b.length) (R : List S42 × Int)
    (hR : Ev (fun K => monikerref1_Merge.l2 K a b all (i : Int) (k : Int) (mx (wrap64 ((i : Int) - 1)) 0)) R) (d : Nat) : ∀ n : Nat, n ≤ min (k + 2) b.length → min (k + 2) b.length - n = d →
    Ev (fun K => monikerref1_Merge.l1 K a b all (i : Int) (k : Int) (n : Int)) (if ((b.drop n).take (min (k + 2) b.length - n)).any (fun y => meetB a[i] y) = true then ([], 11) else R) := by
  have hmn : mn (wrap64 ((k : Int) + 2)) (b.length : Int) = ((min (k + 2) b.length : Nat) : Int) := by
    rw [w64 (by omega) (by omega)]
    unfold mn
    split <;> omega
  have hia : (i : Int) < (a.length : Int) := by omega
  induction d with
  | zero =>
    intro n h1 h2
    obtain ⟨K, hK⟩ := hR
    refine ⟨K + 2, fun m hm => ?_⟩
    obtain ⟨j, rfl⟩ : ∃ j, m = j + 2 := ⟨m - 2, by omega⟩
    simp only [monikerref1_Merge.l1, monikerref1_Merge.j4]
    rw [if_pos hia, hmn, decide_eq_false (by omega)]
    simp only [Bool.false_eq_true, if_false]
    rw [h2]
    simpa using hK j (by omega)
  | succ d ih =>
    intro n h1 h2
    have hn : n < b.length := by omega
    obtain ⟨K, hK⟩ := ih (n + 1) (by omega) (by omega)
    refine ⟨K + 3, fun m hm => ?_⟩
    obtain ⟨j, rfl⟩ : ∃ j, m = j + 2 := ⟨m - 2, by omega⟩
    have hgo := hK j (by omega)
    simp only [monikerref1_Merge.l1, monikerref1_Merge.j4]
    rw [if_pos hia, hmn, decide_eq_true (show (n : Int) < ((min (k + 2) b.length : Nat) : Int) by omega), if_pos rfl, if_pos (by omega), if_pos hia, if_pos (by omega), if_pos (by omega), rd_at a i hi, rd_at b n hn, Meet_is _ _ j (by omega), List.drop_eq_getElem_cons hn, h2, List.take_succ_cons, List.any_cons]
    simp only [Option.bind_some]
    rw [show min (k + 2) b.length - (n + 1) = d by omega] at hgo
    rw [w64 (by omega) (by omega), show (n : Int) + 1 = ((n + 1 : Nat) : Int) by omega]
    cases meetB a[i] b[n] with
    | true => simp
    | false => simpa using hgo
theorem l1_past (a b all : List S42) (i k : Nat) (n : Int) (hi : ¬ i < a.length) (R : List S42 × Int)
    (hR : Ev (fun K => monikerref1_Merge.l2 K a b all (i : Int) (k : Int) (mx (wrap64 ((i : Int) - 1)) 0)) R) : Ev (fun K => monikerref1_Merge.l1 K a b all (i : Int) (k : Int) n) R := by
  obtain ⟨K, hK⟩ := hR
  refine ⟨K + 2, fun m hm => ?_⟩
  obtain ⟨j, rfl⟩ : ∃ j, m = j + 2 := ⟨m - 2, by omega⟩
  simp only [monikerref1_Merge.l1, monikerref1_Merge.j4]
  rw [if_neg (by omega)]
  simp only [Bool.false_eq_true, if_false]
  exact hK j (by omega)
/-- Behind the checks: which one is taken. -/
def selN (a b : List S42) (i k : Nat) : Bool := if k = b.length then true else if h : i < a.length ∧ k < b.length then aheadB a[i] b[k] else false
theorem l2_end (a b all : List S42) (i k : Nat) (hk : k ≤ b.length) (hab : i < a.length ∨ k < b.length) (R : List S42 × Int)
    (hR : Ev (fun K => monikerref1_Merge.j7 K a b all (i : Int) (k : Int) (selN a b i k)) R) (n : Int) (hn : ¬ (k < b.length ∧ n < mn (wrap64 ((i : Int) + 2)) (a.length : Int))) :
    Ev (fun K => monikerref1_Merge.l2 K a b all (i : Int) (k : Int) n) R := by
  obtain ⟨K, hK⟩ := hR
  refine ⟨K + 2, fun m hm => ?_⟩
  obtain ⟨j, rfl⟩ : ∃ j, m = j + 2 := ⟨m - 2, by omega⟩
  have hgo := hK j (by omega)
  have hj : monikerref1_Merge.j6 (j + 1) a b all (i : Int) (k : Int) n false = some R := by
    simp only [monikerref1_Merge.j6]
    simp only [Bool.false_eq_true, if_false]
    unfold selN at hgo
    by_cases c : k = b.length
    · rw [if_pos c] at hgo
      rw [if_pos (by omega)]
      exact hgo
    · rw [if_neg c] at hgo
      rw [if_neg (by omega)]
      by_cases ci : i < a.length
      · rw [dif_pos ⟨ci, by omega⟩] at hgo
        rw [if_pos (by omega), if_pos (by omega), if_pos (by omega), if_pos (by omega), rd_at a i ci, rd_at b k (by omega), ahead_is]
        exact hgo
      · rw [dif_neg (fun h => ci h.1)] at hgo
        rw [if_neg (by omega)]
        exact hgo
  simp only [monikerref1_Merge.l2]
  by_cases ck : (k : Int) < (b.length : Int)
  · rw [if_pos ck, decide_eq_false (fun h => hn ⟨by omega, h⟩)]
    exact hj
  · rw [if_neg ck]
    exact hj
theorem l2_loop (a b all : List S42) (i k : Nat) (ha : a.length ≤ 1000000) (hb : b.length ≤ 1000000) (hi : i ≤ a.length) (hk : k < b.length) (R : List S42 × Int)
    (hR : Ev (fun K => monikerref1_Merge.j7 K a b all (i : Int) (k : Int) (selN a b i k)) R) (d : Nat) : ∀ n : Nat, n ≤ min (i + 2) a.length → min (i + 2) a.length - n = d →
    Ev (fun K => monikerref1_Merge.l2 K a b all (i : Int) (k : Int) (n : Int)) (if ((a.drop n).take (min (i + 2) a.length - n)).any (fun x => meetB x b[k]) = true then ([], 11) else R) := by
  have hmn : mn (wrap64 ((i : Int) + 2)) (a.length : Int) = ((min (i + 2) a.length : Nat) : Int) := by
    rw [w64 (by omega) (by omega)]
    unfold mn
    split <;> omega
  have hkb : (k : Int) < (b.length : Int) := by omega
  induction d with
  | zero =>
    intro n h1 h2
    rw [h2]
    simpa using l2_end a b all i k (by omega) (.inr hk) R hR (n : Int) (by rw [hmn]; omega)
  | succ d ih =>
    intro n h1 h2
    have hn : n < a.length := by omega
    obtain ⟨K, hK⟩ := ih (n + 1) (by omega) (by omega)
    refine ⟨K + 3, fun m hm => ?_⟩
    obtain ⟨j, rfl⟩ : ∃ j, m = j + 2 := ⟨m - 2, by omega⟩
    have hgo := hK j (by omega)
    simp only [monikerref1_Merge.l2, monikerref1_Merge.j6]
    rw [if_pos hkb, hmn, decide_eq_true (show (n : Int) < ((min (i + 2) a.length : Nat) : Int) by omega), if_pos rfl, if_pos (by omega), if_pos (by omega), if_pos (by omega), if_pos hkb, rd_at a n hn, rd_at b k hk, Meet_is _ _ j (by omega), List.drop_eq_getElem_cons hn, h2, List.take_succ_cons, List.any_cons]
    simp only [Option.bind_some]
    rw [show min (i + 2) a.length - (n + 1) = d by omega] at hgo
    rw [w64 (by omega) (by omega), show (n : Int) + 1 = ((n + 1 : Nat) : Int) by omega]
    cases meetB a[n] b[k] with
    | true => simp
    | false => simpa using hgo
theorem mx_pred (k : Nat) (h : k ≤ 1000000) : mx (wrap64 ((k : Int) - 1)) 0 = ((k - 1 : Nat) : Int) := by
  rw [w64 (by omega) (by omega)]
  unfold mx
  split <;> omega
def anyH (f : S42 → Bool) : List S42 → Bool
  | [] => false
  | x :: _ => f x
theorem chkB_eq (p q : Option S42) (a b : List S42) : chkB p q a b = (anyH (fun x => (nears q b).any (fun y => meetB x y)) a || anyH (fun y => (nears p a).any (fun x => meetB x y)) b) := by
  cases a <;> cases b <;> rfl
/-- The checks at a place, and what comes behind them. -/
theorem chk_is (a b all : List S42) (i k : Nat) (ha : a.length ≤ 1000000) (hb : b.length ≤ 1000000) (hi : i ≤ a.length) (hk : k ≤ b.length) (hab : i < a.length ∨ k < b.length) (R : List S42 × Int)
    (hR : Ev (fun K => monikerref1_Merge.j7 K a b all (i : Int) (k : Int) (selN a b i k)) R) :
    Ev (fun K => monikerref1_Merge.l1 K a b all (i : Int) (k : Int) (mx (wrap64 ((k : Int) - 1)) 0)) (if chkB (qOf a i) (qOf b k) (a.drop i) (b.drop k) = true then ([], 11) else R) := by
  have h2 : Ev (fun K => monikerref1_Merge.l2 K a b all (i : Int) (k : Int) (mx (wrap64 ((i : Int) - 1)) 0)) (if anyH (fun y => (nears (qOf a i) (a.drop i)).any (fun x => meetB x y)) (b.drop k) = true then ([], 11) else R) := by
    by_cases ck : k < b.length
    · rw [mx_pred i (by omega), List.drop_eq_getElem_cons ck]
      have h := l2_loop a b all i k ha hb hi ck R hR _ (i - 1) (by omega) rfl
      rw [show (a.drop (i - 1)).take (min (i + 2) a.length - (i - 1)) = near a i from rfl, near_is a i hi] at h
      exact h
    · rw [List.drop_eq_nil_of_le (show b.length ≤ k by omega)]
      simpa [anyH] using l2_end a b all i k hk hab R hR _ (fun h => ck h.1)
  rw [chkB_eq]
  generalize anyH (fun y => (nears (qOf a i) (a.drop i)).any (fun x => meetB x y)) (b.drop k) = v at h2 ⊢
  by_cases ci : i < a.length
  · rw [mx_pred k (by omega), List.drop_eq_getElem_cons ci]
    have h := l1_loop a b all i k ha hb ci hk _ h2 _ (k - 1) (by omega) rfl
    rw [show (b.drop (k - 1)).take (min (k + 2) b.length - (k - 1)) = near b k from rfl, near_is b k hk] at h
    have e0 : anyH (fun x => (nears (qOf b k) (b.drop k)).any (fun y => meetB x y)) (a[i] :: a.drop (i + 1)) = (nears (qOf b k) (b.drop k)).any (fun y => meetB a[i] y) := rfl
    rw [e0]
    by_cases hu : (nears (qOf b k) (b.drop k)).any (fun y => meetB a[i] y) = true
    · rw [if_pos hu] at h
      rw [if_pos (by rw [hu, Bool.true_or])]
      exact h
    · rw [if_neg hu] at h
      have hu' : (nears (qOf b k) (b.drop k)).any (fun y => meetB a[i] y) = false := by simpa using hu
      simp only [hu', Bool.false_or]
      exact h
  · rw [List.drop_eq_nil_of_le (show a.length ≤ i by omega)]
    have h := l1_past a b all i k (mx (wrap64 ((k : Int) - 1)) 0) ci _ h2
    simpa [anyH] using h

theorem fold_cons (out : List S42) (e : S42) (l : List S42) : joinR out (e :: l) = joinR (joinE out e) l := rfl
theorem l3_loop (all : List S42) (ha : all.length ≤ 2000000) (d : Nat) : ∀ (i : Nat) (out : List S42), i ≤ all.length → all.length - i = d → sz out + sz (all.drop i) ≤ 1000000000000 → out.length + d ≤ 2000000 →
    Ev (fun K => monikerref1_Merge.l3 K all out (i : Int)) (fin (joinR out (all.drop i))) := by
  induction d with
  | zero =>
    intro i out h1 h2 _ _
    refine ⟨1, fun m hm => ?_⟩
    obtain ⟨j, rfl⟩ : ∃ j, m = j + 1 := ⟨m - 1, by omega⟩
    simp only [monikerref1_Merge.l3]
    rw [if_neg (by omega), List.drop_eq_nil_of_le (by omega)]
    rw [show joinR out [] = out from rfl]
    unfold fin
    by_cases c : out.length > 65536
    · rw [if_pos (by omega), if_pos c]
    · rw [if_neg (by omega), if_neg c]
  | succ d ih =>
    intro i out h1 h2 h3 h4
    have hi : i < all.length := by omega
    have hia : (i : Int) < (all.length : Int) := by omega
    have hi0 : (0 : Int) ≤ (i : Int) := by omega
    have hw : wrap64 ((i : Int) + 1) = ((i + 1 : Nat) : Int) := by rw [w64] <;> omega
    rw [List.drop_eq_getElem_cons hi] at h3 ⊢
    simp only [sz] at h3
    obtain ⟨K, hK⟩ := ih (i + 1) (joinE out all[i]) (by omega) (by omega) (by have := joinE_sz out all[i]; omega) (by have := joinE_len out all[i]; omega)
    refine ⟨K + 1, fun m hm => ?_⟩
    obtain ⟨j, rfl⟩ : ∃ j, m = j + 1 := ⟨m - 1, by omega⟩
    have hgo : monikerref1_Merge.l3 j all (joinE out all[i]) ((i + 1 : Nat) : Int) = some (fin (joinR (joinE out all[i]) (all.drop (i + 1)))) := hK j (by omega)
    rw [fold_cons]
    obtain ⟨oj, hJ⟩ : ∃ oj, joinE out all[i] = oj := ⟨_, rfl⟩
    rw [hJ] at hgo ⊢
    unfold joinE at hJ
    simp only [monikerref1_Merge.l3]
    rw [if_pos hia, rd_at all i hi, hw]
    by_cases c : 0 < out.length
    · have hl := rd_last c
      have hw2 : wrap64 ((out.length : Int) - 1) = (out.length : Int) - 1 := by rw [w64] <;> omega
      have hsz := sz_mem (l := out) (i := out.length - 1) (by omega)
      have o1 : (out.length : Int) > 0 := by omega
      have o2 : (0 : Int) ≤ (out.length : Int) - 1 := by omega
      have o3 : (out.length : Int) - 1 < (out.length : Int) := by omega
      have o4 : out.length < 4398046511104 := by omega
      rw [if_pos o1, hw2, if_pos o2, if_pos o3, if_pos hi0, hl, show ((out.length : Int) - 1).toNat = out.length - 1 by omega]
      rw [hl] at hJ
      by_cases c2 : (out[out.length - 1]).f1 = (all[i]).f0
      · rw [if_pos ⟨c, c2⟩] at hJ
        rw [if_pos c2]
        simp only [Option.bind_some]
        have hr : rd_T42 (out.set (out.length - 1) ⟨(out[out.length - 1]).f0, (all[i]).f1, (out[out.length - 1]).f2⟩) ((out.length : Int) - 1) = ⟨(out[out.length - 1]).f0, (all[i]).f1, (out[out.length - 1]).f2⟩ := by
          rw [show (out.length : Int) - 1 = ((out.length - 1 : Nat) : Int) by omega, rd_at _ _ (by rw [List.length_set]; omega)]
          simp
        rw [hr, if_pos (by simp only; omega), List.set_set]
        rw [← hJ] at hgo ⊢
        exact hgo
      · rw [if_neg (fun h => c2 h.2)] at hJ
        rw [if_neg c2, if_pos o4]
        rw [← hJ] at hgo ⊢
        exact hgo
    · skip
      rw [if_neg (fun h => c h.1)] at hJ
      have o1 : ¬ (out.length : Int) > 0 := by omega
      have o4 : out.length < 4398046511104 := by omega
      rw [if_neg o1, if_pos hi0, if_pos o4]
      rw [← hJ] at hgo ⊢
      exact hgo
theorem qOf_succ (b : List S42) (k : Nat) (h : k < b.length) : qOf b (k + 1) = some b[k] := by
  unfold qOf
  rw [if_neg (by omega), Nat.add_sub_cancel, List.getElem?_eq_getElem h]
theorem l0_loop (a b : List S42) (ha : a.length ≤ 1000000) (hb : b.length ≤ 1000000) (hs : sz a + sz b ≤ 1000000000) (d : Nat) : ∀ (i k : Nat) (all : List S42), i ≤ a.length → k ≤ b.length → a.length - i + (b.length - k) ≤ d → all.length = i + k → sz all + sz (a.drop i) + sz (b.drop k) ≤ 1000000000 →
    Ev (fun K => monikerref1_Merge.l0 K a b all (i : Int) (k : Int)) (match refGo d (qOf a i) (qOf b k) (a.drop i) (b.drop k) with | none => ([], 11) | some L => fin (joinR [] (all ++ L))) := by
  induction d with
  | zero =>
    intro i k all h1 h2 h3 h4 h5
    have h := l3_loop all (by omega) _ 0 [] (by omega) rfl (by simp only [sz, List.drop_zero]; omega) (by simp; omega)
    obtain ⟨K, hK⟩ := h
    refine ⟨K + 2, fun m hm => ?_⟩
    obtain ⟨j, rfl⟩ : ∃ j, m = j + 2 := ⟨m - 2, by omega⟩
    simp only [monikerref1_Merge.l0, monikerref1_Merge.j2]
    rw [if_neg (by omega), decide_eq_false (by omega)]
    simp only [Bool.false_eq_true, if_false, refGo, List.append_nil]
    simpa using hK j (by omega)
  | succ d ih =>
    intro i k all h1 h2 h3 h4 h5
    by_cases hab : i < a.length ∨ k < b.length
    · have hgo : ∀ R, Ev (fun K => monikerref1_Merge.l1 K a b all (i : Int) (k : Int) (mx (wrap64 ((k : Int) - 1)) 0)) R → Ev (fun K => monikerref1_Merge.l0 K a b all (i : Int) (k : Int)) R := by
        rintro R ⟨K, hK⟩
        refine ⟨K + 2, fun m hm => ?_⟩
        obtain ⟨j, rfl⟩ : ∃ j, m = j + 2 := ⟨m - 2, by omega⟩
        simp only [monikerref1_Merge.l0, monikerref1_Merge.j2]
        by_cases ci : i < a.length
        · rw [if_pos (by omega), if_pos trivial]
          exact hK j (by omega)
        · rw [if_neg (by omega), decide_eq_true (by omega), if_pos rfl]
          exact hK j (by omega)
      refine hgo _ ?_
      clear hgo
      have take_a : ∀ (ci : i < a.length) R, Ev (fun K => monikerref1_Merge.l0 K a b (all ++ [a[i]]) ((i + 1 : Nat) : Int) (k : Int)) R → Ev (fun K => monikerref1_Merge.j7 K a b all (i : Int) (k : Int) true) R := by
        rintro ci R ⟨K, hK⟩
        refine ⟨K + 1, fun m hm => ?_⟩
        obtain ⟨j, rfl⟩ : ∃ j, m = j + 1 := ⟨m - 1, by omega⟩
        simp only [monikerref1_Merge.j7]
        rw [if_pos trivial, if_pos (by omega), if_pos (by omega), if_pos (by omega), rd_at a i ci, show wrap64 ((i : Int) + 1) = ((i + 1 : Nat) : Int) by rw [w64] <;> omega]
        exact hK j (by omega)
      have take_b : ∀ (ck : k < b.length) R, Ev (fun K => monikerref1_Merge.l0 K a b (all ++ [b[k]]) (i : Int) ((k + 1 : Nat) : Int)) R → Ev (fun K => monikerref1_Merge.j7 K a b all (i : Int) (k : Int) false) R := by
        rintro ck R ⟨K, hK⟩
        refine ⟨K + 1, fun m hm => ?_⟩
        obtain ⟨j, rfl⟩ : ∃ j, m = j + 1 := ⟨m - 1, by omega⟩
        simp only [monikerref1_Merge.j7]
        rw [if_neg (by simp), if_pos (by omega), if_pos (by omega), if_pos (by omega), rd_at b k ck, show wrap64 ((k : Int) + 1) = ((k + 1 : Nat) : Int) by rw [w64] <;> omega]
        exact hK j (by omega)
      have key : ∀ (ci : i < a.length), Ev (fun K => monikerref1_Merge.j7 K a b all (i : Int) (k : Int) true) (match (refGo d (some a[i]) (qOf b k) (a.drop (i + 1)) (b.drop k)).map (a[i] :: ·) with | none => ([], 11) | some L => fin (joinR [] (all ++ L))) := fun ci => by
        refine take_a ci _ ?_
        have h := ih (i + 1) k (all ++ [a[i]]) (by omega) h2 (by omega) (by simp; omega) (by rw [sz_app]; rw [List.drop_eq_getElem_cons ci] at h5; simp only [sz] at h5 ⊢; omega)
        rw [qOf_succ a i ci] at h
        cases hr : refGo d (some a[i]) (qOf b k) (a.drop (i + 1)) (b.drop k) with
        | none => rw [hr] at h; exact h
        | some L => rw [hr] at h; simpa using h
      have keyb : ∀ (ck : k < b.length), Ev (fun K => monikerref1_Merge.j7 K a b all (i : Int) (k : Int) false) (match (refGo d (qOf a i) (some b[k]) (a.drop i) (b.drop (k + 1))).map (b[k] :: ·) with | none => ([], 11) | some L => fin (joinR [] (all ++ L))) := fun ck => by
        refine take_b ck _ ?_
        have h := ih i (k + 1) (all ++ [b[k]]) h1 (by omega) (by omega) (by simp; omega) (by rw [sz_app]; rw [List.drop_eq_getElem_cons ck] at h5; simp only [sz] at h5 ⊢; omega)
        rw [qOf_succ b k ck] at h
        cases hr : refGo d (qOf a i) (some b[k]) (a.drop i) (b.drop (k + 1)) with
        | none => rw [hr] at h; exact h
        | some L => rw [hr] at h; simpa using h
      by_cases ci : i < a.length
      · by_cases ck : k < b.length
        · have hsel : selN a b i k = aheadB a[i] b[k] := by unfold selN; rw [if_neg (by omega), dif_pos ⟨ci, ck⟩]
          rw [List.drop_eq_getElem_cons ci, List.drop_eq_getElem_cons ck]
          simp only [refGo]
          rw [← List.drop_eq_getElem_cons ci, ← List.drop_eq_getElem_cons ck]
          cases ht : aheadB a[i] b[k] with
          | true =>
            have h := chk_is a b all i k ha hb h1 h2 hab _ (by rw [hsel, ht]; exact key ci)
            revert h
            cases chkB (qOf a i) (qOf b k) (a.drop i) (b.drop k) <;> intro h <;> simpa using h
          | false =>
            have h := chk_is a b all i k ha hb h1 h2 hab _ (by rw [hsel, ht]; exact keyb ck)
            revert h
            cases chkB (qOf a i) (qOf b k) (a.drop i) (b.drop k) <;> intro h <;> simpa using h
        · have hsel : selN a b i k = true := by unfold selN; rw [if_pos (by omega)]
          have h := chk_is a b all i k ha hb h1 h2 hab _ (by rw [hsel]; exact key ci)
          rw [List.drop_eq_nil_of_le (show b.length ≤ k by omega), List.drop_eq_getElem_cons ci] at h ⊢
          simp only [refGo]
          revert h
          cases chkB (qOf a i) (qOf b k) (a[i] :: a.drop (i + 1)) [] <;> intro h <;> simpa using h
      · have ck : k < b.length := by omega
        have hsel : selN a b i k = false := by unfold selN; rw [if_neg (by omega), dif_neg (fun h => ci h.1)]
        have h := chk_is a b all i k ha hb h1 h2 hab _ (by rw [hsel]; exact keyb ck)
        rw [List.drop_eq_nil_of_le (show a.length ≤ i by omega), List.drop_eq_getElem_cons ck] at h ⊢
        simp only [refGo]
        revert h
        cases chkB (qOf a i) (qOf b k) [] (b[k] :: b.drop (k + 1)) <;> intro h <;> simpa using h
    · have h := l3_loop all (by omega) _ 0 [] (by omega) rfl (by simp only [sz, List.drop_zero]; omega) (by simp; omega)
      obtain ⟨K, hK⟩ := h
      rw [List.drop_eq_nil_of_le (show a.length ≤ i by omega), List.drop_eq_nil_of_le (show b.length ≤ k by omega)]
      refine ⟨K + 2, fun m hm => ?_⟩
      obtain ⟨j, rfl⟩ : ∃ j, m = j + 2 := ⟨m - 2, by omega⟩
      simp only [monikerref1_Merge.l0, monikerref1_Merge.j2]
      rw [if_neg (by omega), decide_eq_false (by omega)]
      simp only [Bool.false_eq_true, if_false, refGo, List.append_nil]
      simpa using hK j (by omega)
/-- What Merge says. -/
def Mspec (size : Int) (a b : List S42) : List S42 × Int :=
  if Vspec size a = 0 then (if Vspec size b = 0 then (if okL (-1) (-1) (mergeL (a.length + b.length) a b) = true then fin (joinR [] (mergeL (a.length + b.length) a b)) else ([], 11)) else ([], Vspec size b)) else ([], Vspec size a)
theorem Vspec_chain {size : Int} {l : List S42} (h : Vspec size l = 0) : l.length ≤ 65536 ∧ Chain none l := by
  unfold Vspec at h
  split at h
  · cases h
  · split at h
    · cases h
    · unfold vspec at h
      split at h
      · cases h
      · exact ⟨by omega, vgo_chain size l none h⟩
theorem RMerge_is (size : Int) (a b : List S42) (hs : sz a + sz b ≤ 1000000000) : Ev (fun k => monikerref1_Merge.f k size a b) (Mspec size a b) := by
  obtain ⟨K1, hK1⟩ := RValid_is size a
  obtain ⟨K2, hK2⟩ := RValid_is size b
  unfold Mspec
  by_cases c1 : Vspec size a = 0
  · rw [if_pos c1]
    by_cases c2 : Vspec size b = 0
    · rw [if_pos c2]
      obtain ⟨la, ca⟩ := Vspec_chain c1
      obtain ⟨lb, cb⟩ := Vspec_chain c2
      obtain ⟨K3, hK3⟩ := l0_loop a b (by omega) (by omega) hs (a.length + b.length) 0 0 [] (by omega) (by omega) (by omega) rfl (by simp only [sz, List.drop_zero]; omega)
      rw [show qOf a 0 = none from rfl, show qOf b 0 = none from rfl, List.drop_zero, List.drop_zero, refGo_is a b ca cb _ (Nat.le_refl _)] at hK3
      refine ⟨K1 + K2 + K3 + 2, fun m hm => ?_⟩
      obtain ⟨j, rfl⟩ : ∃ j, m = j + 1 := ⟨m - 1, by omega⟩
      unfold monikerref1_Merge.f
      have h3 := hK3 j (by omega)
      have v1 : monikerref1_Valid.f (j + 1) size a = some (Vspec size a) := hK1 (j + 1) (by omega)
      have v2 : monikerref1_Valid.f (j + 1) size b = some (Vspec size b) := hK2 (j + 1) (by omega)
      simp only [v1, c1]
      simp only [Option.bind_some]
      rw [if_pos trivial]
      simp only [v2, c2]
      simp only [Option.bind_some, monikerref1_Merge.j0, if_true]
      revert h3
      cases okL (-1) (-1) (mergeL (a.length + b.length) a b) <;> intro h3 <;> simpa using h3
    · rw [if_neg c2]
      refine ⟨K1 + K2 + 2, fun m hm => ?_⟩
      obtain ⟨j, rfl⟩ : ∃ j, m = j + 1 := ⟨m - 1, by omega⟩
      unfold monikerref1_Merge.f
      have v1 : monikerref1_Valid.f (j + 1) size a = some (Vspec size a) := hK1 (j + 1) (by omega)
      have v2 : monikerref1_Valid.f (j + 1) size b = some (Vspec size b) := hK2 (j + 1) (by omega)
      simp only [v1, c1]
      simp only [Option.bind_some]
      rw [if_pos trivial]
      simp only [v2]
      simp only [Option.bind_some, monikerref1_Merge.j0]
      rw [if_neg c2]
  · rw [if_neg c1]
    refine ⟨K1 + K2 + 2, fun m hm => ?_⟩
    obtain ⟨j, rfl⟩ : ∃ j, m = j + 1 := ⟨m - 1, by omega⟩
    unfold monikerref1_Merge.f
    have v1 : monikerref1_Valid.f (j + 1) size a = some (Vspec size a) := hK1 (j + 1) (by omega)
    simp only [v1, Option.bind_some]
    rw [if_neg c1]
    simp only [monikerref1_Merge.j0]
    rw [if_neg c1]
end Go.Proofs.Ytaihajmdngoeiaa.Q

-- Merge (28), walked by hand: two boxed lists, a pointer to the one that is taken from
namespace Go.Proofs.Ytaihajmdngoeiaa.F
open Go.RowKit Go.Proofs.YtaihajmdngoeiaaW.PrintWords Go.Proofs.YtaihajmdngoeiaaW.PrintLast Go.Proofs.YtaihajmdngoeiaaW.PrintMore
open Go.Proofs.Ytaihajmdngoeiaa.Q
attribute [local go_sem] max2_int min2_int max_two min_two
set_option linter.unusedVariables false
set_option linter.unusedSimpArgs false

/-- A box that holds what is left of a list that came in. -/
def BxL (w W : World) (g : Nat) (l : List S42) : Prop := ∃ A c, W.heap[g]? = some (.cells #[.slice A l.length c] 22 (0, 0)) ∧ Kd.C k42 w A l.length l ∧ l.length ≤ c
def specM (en pt : Int) (out a b : List S42) : List S42 × Int :=
  if okL en pt (mergeL (a.length + b.length) a b) = true then fin (joinR out (mergeL (a.length + b.length) a b)) else ([], 11)
structure MR (w W : World) (g4 g5 : Nat) (a b out : List S42) (v10 : Value) (en pt : Int) (R : List S42 × Int) : Prop where
  ba : BxL w W g4 a
  bb : BxL w W g5 b
  ho : Kd.R k42 42 W w.heap.size (fun k => k ≠ g4 ∧ k ≠ g5) v10 out
  hb : Below w.heap.size w W
  sp : specM en pt out a b = R
  la : 0 < out.length → (rd_T42 out ((out.length : Int) - 1)).f1 = en
  le : out.length + a.length + b.length ≤ 200000
  ls : sz out + sz a + sz b ≤ 1000000000

/-- One more, or the fault. -/
def stepM (en pt : Int) (out : List S42) (e : S42) (k : Int → Int → List S42 → List S42 × Int) : List S42 × Int :=
  if e.f0 < en ∨ (e.f0 = e.f1 ∧ e.f0 = pt) then ([], 11) else k e.f1 (if e.f0 = e.f1 then e.f0 else pt) (joinE out e)
theorem spec_step (en pt : Int) (out : List S42) (e : S42) (L : List S42) :
    (if okL en pt (e :: L) = true then fin (joinR out (e :: L)) else ([], 11)) = stepM en pt out e (fun en pt out => if okL en pt L = true then fin (joinR out L) else ([], 11)) := by
  unfold stepM
  simp only [okL]
  by_cases c : e.f0 < en ∨ (e.f0 = e.f1 ∧ e.f0 = pt)
  · simp only [if_pos c]
    rfl
  · simp only [if_neg c]
    rfl
theorem spec_a {en pt : Int} {out a b : List S42} {x : S42} (h : ∀ y b', b = y :: b' → aheadB y x = false) : specM en pt out (x :: a) b = stepM en pt out x (fun en pt out => specM en pt out a b) := by
  have e : mergeL ((x :: a).length + b.length) (x :: a) b = x :: mergeL (a.length + b.length) a b := by
    rw [show (x :: a).length + b.length = (a.length + b.length) + 1 by simp only [List.length_cons]; omega]
    cases b with
    | nil => rfl
    | cons y b => simp only [mergeL]; rw [if_neg (by rw [h y b rfl]; simp)]
  unfold specM
  rw [e]
  exact spec_step en pt out x _
theorem spec_b {en pt : Int} {out a b : List S42} {y : S42} (h : ∀ x a', a = x :: a' → aheadB y x = true) : specM en pt out a (y :: b) = stepM en pt out y (fun en pt out => specM en pt out a b) := by
  have e : mergeL (a.length + (y :: b).length) a (y :: b) = y :: mergeL (a.length + b.length) a b := by
    rw [show a.length + (y :: b).length = (a.length + b.length) + 1 by simp only [List.length_cons]; omega]
    cases a with
    | nil => rfl
    | cons x a => simp only [mergeL]; rw [if_pos (h x a rfl)]
  unfold specM
  rw [e]
  exact spec_step en pt out y _
theorem spec_end (en pt : Int) (out : List S42) : specM en pt out [] [] = fin out := rfl
/-- Which list is taken from. -/
def SelP (sel : Bool) (en pt : Int) (out a b : List S42) : Prop :=
  (sel = false ∧ ∃ x a2, a = x :: a2 ∧ specM en pt out a b = stepM en pt out x (fun en pt out => specM en pt out a2 b)) ∨
  (sel = true ∧ ∃ y b2, b = y :: b2 ∧ specM en pt out a b = stepM en pt out y (fun en pt out => specM en pt out a b2))
theorem MR.drewN {w W : World} {g4 g5 : Nat} {a b out : List S42} {v10 : Value} {en pt : Int} {R : List S42 × Int} (h : MR w W g4 g5 a b out v10 en pt R) (n : Nat) : MR w (W.drewN n) g4 g5 a b out v10 en pt R :=
  ⟨h.ba, h.bb, Kd.R_drewN h.ho n, pw_below_drewN h.hb n, h.sp, h.la, h.le, h.ls⟩
/-- One of them is taken from: box g, the other one is gO. -/
def Sym (g gO g4 g5 : Nat) (a b : List S42) (z : S42) (zs lO : List S42) (en pt : Int) (out : List S42) : Prop :=
  (g = g4 ∧ gO = g5 ∧ a = z :: zs ∧ b = lO ∧ specM en pt out a b = stepM en pt out z (fun en pt out => specM en pt out zs lO)) ∨
  (g = g5 ∧ gO = g4 ∧ b = z :: zs ∧ a = lO ∧ specM en pt out a b = stepM en pt out z (fun en pt out => specM en pt out lO zs))
theorem joinE_last (out : List S42) (e : S42) : (rd_T42 (joinE out e) (((joinE out e).length : Int) - 1)).f1 = e.f1 := by
  have hl : 0 < (joinE out e).length := by
    unfold joinE
    split
    · rename_i h; rw [List.length_set]; exact h.1
    · simp
  rw [rd_last hl]
  unfold joinE
  split
  · simp
  · simp
theorem sym_bad {g gO g4 g5 : Nat} {w W : World} {a b zs lO out : List S42} {z : S42} {en pt : Int} {v : Value} {R : List S42 × Int} (h : Sym g gO g4 g5 a b z zs lO en pt out) (hm : MR w W g4 g5 a b out v en pt R) (hb : z.f0 < en ∨ (z.f0 = z.f1 ∧ z.f0 = pt)) : R = ([], 11) := by
  rw [← hm.sp]
  rcases h with ⟨_, _, _, _, e⟩ | ⟨_, _, _, _, e⟩ <;> rw [e] <;> unfold stepM <;> rw [if_pos hb]
theorem sym_next {g gO g4 g5 : Nat} {w W W' : World} {a b zs lO out : List S42} {z : S42} {en pt pt' : Int} {v v' : Value} {R : List S42 × Int} (h : Sym g gO g4 g5 a b z zs lO en pt out) (hm : MR w W g4 g5 a b out v en pt R) (hb : ¬ (z.f0 < en ∨ (z.f0 = z.f1 ∧ z.f0 = pt)))
    (h1 : BxL w W' g zs) (h2 : BxL w W' gO lO) (ho : Kd.R k42 42 W' w.heap.size (fun k => k ≠ g4 ∧ k ≠ g5) v' (joinE out z)) (hw : Below w.heap.size w W') (hp : pt' = if z.f0 = z.f1 then z.f0 else pt) :
    ∃ a' b', MR w W' g4 g5 a' b' (joinE out z) v' z.f1 pt' R ∧ a'.length + b'.length + 1 < a.length + b.length + 1 := by
  subst hp
  have hsp := hm.sp
  have hle := hm.le
  have hls := hm.ls
  have j1 := joinE_sz out z
  have j2 := joinE_len out z
  rcases h with ⟨rfl, rfl, rfl, rfl, e⟩ | ⟨rfl, rfl, rfl, rfl, e⟩
  · refine ⟨zs, b, ⟨h1, h2, ho, hw, ?_, fun _ => joinE_last out z, ?_, ?_⟩, by simp only [List.length_cons]; omega⟩
    · rw [← hsp, e]; unfold stepM; rw [if_neg hb]
    · simp only [List.length_cons] at hle; omega
    · simp only [sz] at hls; omega
  · refine ⟨a, zs, ⟨h2, h1, ho, hw, ?_, fun _ => joinE_last out z, ?_, ?_⟩, by simp only [List.length_cons]; omega⟩
    · rw [← hsp, e]; unfold stepM; rw [if_neg hb]
    · simp only [List.length_cons] at hle; omega
    · simp only [sz] at hls; omega
/-- Behind the taking: what is left, what was taken. -/
structure Tk (w W : World) (g gO gE : Nat) (z : S42) (zs lO out : List S42) (v10 : Value) : Prop where
  b1 : BxL w W g zs
  b2 : BxL w W gO lO
  be : W.heap[gE]? = some (.cells #[.int .i64 z.f0, .int .i64 z.f1, .string z.f2] 42 (0, 0))
  ho : Kd.R k42 42 W w.heap.size (fun k => (k ≠ g ∧ k ≠ gO) ∧ k ≠ gE) v10 out
  hb : Below w.heap.size w W
theorem sym_ok {g gO g4 g5 : Nat} {a b zs lO out : List S42} {z : S42} {en pt : Int} (h : Sym g gO g4 g5 a b z zs lO en pt out) (k : Nat) : (k ≠ g4 ∧ k ≠ g5) ↔ (k ≠ g ∧ k ≠ gO) := by
  rcases h with ⟨rfl, rfl, _⟩ | ⟨rfl, rfl, _⟩
  · exact Iff.rfl
  · exact And.comm
theorem BxL.to {w W W' : World} {g : Nat} {l : List S42} (h : BxL w W g l) (e : W'.heap[g]? = W.heap[g]?) : BxL w W' g l := by
  obtain ⟨A, c, h1, h2, h3⟩ := h
  exact ⟨A, c, e.trans h1, h2, h3⟩
theorem BxL.lt {w W : World} {g : Nat} {l : List S42} (h : BxL w W g l) : g < W.heap.size := by
  obtain ⟨A, c, h1, h2, h3⟩ := h
  exact blk_lt h1
theorem Tk.drewN {w W : World} {g gO gE : Nat} {z : S42} {zs lO out : List S42} {v : Value} (h : Tk w W g gO gE z zs lO out v) (n : Nat) : Tk w (W.drewN n) g gO gE z zs lO out v :=
  ⟨h.b1, h.b2, h.be, Kd.R_drewN h.ho n, pw_below_drewN h.hb n⟩
/-- A step that turns the row alone. -/
theorem Tk.turn {w W W' : World} {g gO gE : Nat} {z : S42} {zs lO out out' : List S42} {v v' : Value} (h : Tk w W g gO gE z zs lO out v) (hg : W.grownBy W' v.ownBlock) (hb : Below w.heap.size w W')
    (ho : Kd.R k42 42 W' w.heap.size (fun k => (k ≠ g ∧ k ≠ gO) ∧ k ≠ gE) v' out') : Tk w W' g gO gE z zs lO out' v' := by
  have hne := h.ho.1
  have far : ∀ k, k < W.heap.size → (k = g ∨ k = gO ∨ k = gE) → W'.heap[k]? = W.heap[k]? := fun k hk hq => hg.block k hk (fun e => by
    have := hne k e.symm
    omega)
  exact ⟨h.b1.to (far _ h.b1.lt (.inl rfl)), h.b2.to (far _ h.b2.lt (.inr (.inl rfl))), (far _ (blk_lt h.be) (.inr (.inr rfl))).trans h.be, ho, hb⟩
theorem Tk.last {w W : World} {g gO gE go m co : Nat} {z : S42} {zs lO out : List S42} (h : Tk w W g gO gE z zs lO out (.slice (some ⟨go, 0, none⟩) (m + 1) co)) (hm : out.length = m + 1) (l : S42) (hl : rd_T42 out (m : Int) = l) :
    W.cell? ⟨go, m * 3, none⟩ = some (.int .i64 l.f0) ∧ W.cell? ⟨go, m * 3 + 1, none⟩ = some (.int .i64 l.f1) ∧ W.cell? ⟨go, m * 3 + 2, none⟩ = some (.string l.f2) ∧ (∀ j, W.frozen? ⟨go, m * 3 + j, none⟩ = false) ∧
    (∀ u, Tk w (W.setCell ⟨go, m * 3 + 1, none⟩ (.int .i64 u)) g gO gE z zs lO (out.set m ⟨l.f0, u, l.f2⟩) (.slice (some ⟨go, 0, none⟩) (m + 1) co)) ∧
    (∀ s, Tk w (W.setCell ⟨go, m * 3 + 2, none⟩ (.string s)) g gO gE z zs lO (out.set m ⟨l.f0, l.f1, s⟩) (.slice (some ⟨go, 0, none⟩) (m + 1) co)) := by
  obtain ⟨c, hcl, hM, hcc, hfr⟩ := Kd.R_elem h.ho z42 (m : Int) (by omega) (by omega)
  obtain rfl := k42_openM hM
  have e : out.getD ((m : Int)).toNat z42 = l := hl
  rw [e] at hcc
  rw [e] at hcl
  have hbase := Kd.R_base h.ho go (by simp [Value.ownBlock])
  refine ⟨hcc 0 _ rfl, hcc 1 _ rfl, hcc 2 _ rfl, hfr, fun u => ?_, fun s => ?_⟩
  · obtain ⟨h1, h2⟩ := Kd.R_seg h.ho (m : Int) (by omega) (by omega) (seg := [.int .i64 u]) (j := 1) hcl hcc (show 2 ≤ 3 by decide) (x' := ⟨l.f0, u, l.f2⟩) (k42_mkM _ _ _ ⟨l.f0, u, l.f2⟩) (fun _ hk => hk)
    exact h.turn h2 (below_set h.hb hbase) h1
  · obtain ⟨h1, h2⟩ := Kd.R_seg h.ho (m : Int) (by omega) (by omega) (seg := [.string s]) (j := 2) hcl hcc (show 3 ≤ 3 by decide) (x' := ⟨l.f0, l.f1, s⟩) (k42_mkM _ _ _ ⟨l.f0, l.f1, s⟩) (fun _ hk => hk)
    exact h.turn h2 (below_set h.hb hbase) h1
theorem tk_fresh {w W : World} {g gO gE : Nat} {z : S42} {zs lO out : List S42} {v : Value} (h : Tk w W g gO gE z zs lO out v) : ∀ k, W.heap.size ≤ k → (k ≠ g ∧ k ≠ gO) ∧ k ≠ gE := fun k hk => by
  have a := h.b1.lt
  have b := h.b2.lt
  have c := blk_lt h.be
  omega
theorem sym_sz {g gO g4 g5 : Nat} {w W : World} {a b zs lO out : List S42} {z : S42} {en pt : Int} {v : Value} {R : List S42 × Int} (h : Sym g gO g4 g5 a b z zs lO en pt out) (hm : MR w W g4 g5 a b out v en pt R) : sz out + z.f2.size ≤ 1000000000 := by
  have hls := hm.ls
  rcases h with ⟨_, _, rfl, rfl, _⟩ | ⟨_, _, rfl, rfl, _⟩ <;> simp only [sz] at hls <;> omega
theorem new_block (w : World) (o : Obj) : (w.alloc o).heap[w.heap.size]? = some o := by
  rw [World.alloc]
  simp
theorem valid_lens {size : Int} {a b : List S42} (h1 : Vspec size a = 0) (h2 : Vspec size b = 0) : a.length + b.length ≤ 200000 := by
  have := (Vspec_chain h1).1
  have := (Vspec_chain h2).1
  omega
def edits_Merge.f (k : Nat) (a0 : Int) (a b : List S42) : Option (List S42 × Int) := if sz a + sz b ≤ 1000000000 then some (Mspec a0 a b) else none
set_option maxRecDepth 100000 in
set_option maxHeartbeats 20000000 in
theorem edits_Merge.calls (k : Nat) (a0 : Int) (A1 : Option Addr) (c1 : Nat) (l1 : List S42) (A2 : Option Addr) (c2 : Nat) (l2 : List S42) (r1 : List S42) (r2 : Int) (w : World) (hr1 : Kd.C k42 w A1 l1.length l1) (hc1 : l1.length ≤ c1) (hr2 : Kd.C k42 w A2 l2.length l2) (hc2 : l2.length ≤ c2) (h : edits_Merge.f k a0 l1 l2 = some (r1, r2)) :
    Calls Try.prog 28 #[.int .i64 a0, .slice A1 l1.length c1, .slice A2 l2.length c2] w fun e w' => ∃ v0_ : Value, e = .returned (.tuple #[v0_, .int .i64 r2]) ∧ Kd.R k42 42 w' w.heap.size (fun _ => True) v0_ r1 ∧ Below w.heap.size w w' := by
  have hu22 := Try.underlying22
  have hu42 := Try.underlying42
  unfold edits_Merge.f at h
  have hsz : sz l1 + sz l2 ≤ 1000000000 := Classical.byContradiction fun hh => by rw [if_neg hh] at h; cases h
  rw [if_pos hsz] at h
  have h' := Option.some.inj h
  clear h
  have HS := Aside0.mk hsz
  have HM := Aside0.mk h'
  have HR1 := Aside0.mk hr1
  have HC1 := Aside0.mk hc1
  have HR2 := Aside0.mk hr2
  have HC2 := Aside0.mk hc2
  obtain ⟨k1, hk1⟩ := (Valid_is a0 l1).rounds
  obtain ⟨k2, hk2⟩ := (Valid_is a0 l2).rounds
  have HV1 := Aside0.mk hk1
  have HV2 := Aside0.mk hk2
  clear hsz h' hr1 hc1 hr2 hc2 hk1 hk2
  obtain ⟨e1, he1⟩ : ∃ e, Vspec a0 l1 = e := ⟨_, rfl⟩
  obtain ⟨e2, he2⟩ : ∃ e, Vspec a0 l2 = e := ⟨_, rfl⟩
  have HM' := HM.out
  unfold Mspec at HM'
  rw [he1, he2] at HM'
  rw [he1] at HV1
  rw [he2] at HV2
  have E1 := Aside0.mk he1
  have E2 := Aside0.mk he2
  clear HM he1 he2
  have HB := Aside0.mk (Below.refl w.heap.size w)
  by_cases q1 : e1 = 0
  · subst q1
    rw [if_pos rfl] at HM'
    by_cases q2 : e2 = 0
    · subst q2
      rw [if_pos rfl] at HM'
      have HM := Aside0.mk HM'
      clear HM'
      go_enter Try.func28, Try.ntmps28
      go_wp2_with (first | ((with_reducible refine gate_dst (N := 4) rfl ?_); refine box_event ?hg4 (N := 4) ?hd4 (cs := #[.slice A1 l1.length c1]) (t := 22) ?hr4 ?_; (case hd4 => rfl); (case hg4 => rfl); (case hr4 => first | (go_simp; done) | (go_simp; rfl)); intro g4 hg w1 hbox hb; have n0_ := Aside0.mk (below_step HB.out hb); have n1_ := Aside0.mk hbox; have GE4 := Aside0.mk (show w.heap.size ≤ g4 by rw [hg]; exact Nat.le_refl _); clear HB; have HB := n0_; have BK4 := n1_; clear n0_ n1_ hb hbox hg; have hcz4 : w1.cell? ⟨g4, 0, none⟩ = some (.slice A1 l1.length c1) := (blk_cell BK4.out 0).trans rfl) | ((with_reducible refine gate_dst (N := 5) rfl ?_); refine box_event ?hg5 (N := 5) ?hd5 (cs := #[.slice A2 l2.length c2]) (t := 22) ?hr5 ?_; (case hd5 => rfl); (case hg5 => rfl); (case hr5 => first | (go_simp; done) | (go_simp; rfl)); intro g5 hg w2 hbox hb; have n0_ := Aside0.mk (below_step HB.out hb); have n1_ := Aside0.mk hbox; have n2_ := Aside0.mk (blk_below BK4.out hb); have GE5 := Aside0.mk (show w.heap.size ≤ g5 by rw [hg]; exact HB.out.size); have N45 := Aside0.mk (show g5 ≠ g4 by rw [hg]; exact (Nat.ne_of_lt (blk_lt BK4.out)).symm); clear HB BK4 hcz4; have HB := n0_; have BK5 := n1_; have BK4 := n2_; clear n0_ n1_ n2_ hb hbox hg; have hcz4 : w2.cell? ⟨g4, 0, none⟩ = some (.slice A1 l1.length c1) := (blk_cell BK4.out 0).trans rfl) | ((with_reducible refine gate_callee (f := 16) rfl ?_); (with_reducible refine gate_dst (N := 19) rfl ?_); refine goesL_ (some 19) rfl rfl Try.func16 (by kernel_rfl) rfl #[.int .i64 a0, .slice A1 l1.length c1] rfl (by (try simp only [List.map_toArray, List.map_cons, List.map_nil]); first | done | rfl) ?_; (with_reducible refine (edits_Valid.calls k1 a0 A1 c1 l1 0 _ (Kd.C_below HR1.out HB.out) HC1.out HV1.out).mono ?_); rintro e w3 ⟨rfl, hb⟩; refine ⟨_, rfl, ?_⟩; have n0_ := Aside0.mk (below_step HB.out hb); have n1_ := Aside0.mk (blk_below BK4.out hb); have n2_ := Aside0.mk (blk_below BK5.out hb); clear HB BK4 BK5 hcz4 hb; have HB := n0_; have BK4 := n1_; have BK5 := n2_; clear n0_ n1_ n2_; have hcz5 : w3.cell? ⟨g5, 0, none⟩ = some (.slice A2 l2.length c2) := (blk_cell BK5.out 0).trans rfl) | ((with_reducible refine gate_callee (f := 16) rfl ?_); (with_reducible refine gate_dst (N := 25) rfl ?_); refine goesL_ (some 25) rfl rfl Try.func16 (by kernel_rfl) rfl #[.int .i64 a0, .slice A2 l2.length c2] rfl (by (try simp only [List.map_toArray, List.map_cons, List.map_nil]); first | done | rfl) ?_; (with_reducible refine (edits_Valid.calls k2 a0 A2 c2 l2 0 _ (Kd.C_below HR2.out HB.out) HC2.out HV2.out).mono ?_); rintro e w4 ⟨rfl, hb⟩; refine ⟨_, rfl, ?_⟩; have n0_ := Aside0.mk (below_step HB.out hb); have n1_ := Aside0.mk (blk_below BK4.out hb); have n2_ := Aside0.mk (blk_below BK5.out hb); clear HB BK4 BK5 hcz5 hb; have HB := n0_; have BK4 := n1_; have BK5 := n2_; clear n0_ n1_ n2_))
      go_loopg [10, 11, 12] (l1.length + l2.length + 1) (fun kq v10 v11 v12 w' => ∃ (a b out : List S42) (en pt : Int), v11 = .int .i64 en ∧ v12 = .int .i64 pt ∧ Aside0 (a.length + b.length + 1 = kq) ∧ Aside0 (MR w w' g4 g5 a b out v10 en pt (r1, r2)))
      case atStart => exact ⟨l1, l2, [], -1, -1, rfl, rfl, ⟨rfl⟩, ⟨⟨A1, c1, BK4.out, HR1.out, HC1.out⟩, ⟨A2, c2, BK5.out, HR2.out, HC2.out⟩, Kd.R_nil _ _ _ _ _, HB.out, HM.out, by simp, by simpa using (valid_lens E1.out E2.out), by have := HS.out; simp [sz]; omega⟩⟩
      case round =>
        clear HM BK4 BK5 HB HV1 HV2
        obtain ⟨a, b, out, en, pt, rfl, rfl, HK, HQ⟩ := hrel
        obtain ⟨Aa, ca, xa, CA, la⟩ := HQ.out.ba
        obtain ⟨Ab, cb, xb, CB, lb⟩ := HQ.out.bb
        obtain ⟨na, hna⟩ : ∃ n, n = a.length := ⟨_, rfl⟩
        obtain ⟨nb, hnb⟩ : ∃ n, n = b.length := ⟨_, rfl⟩
        rw [← hna] at xa
        rw [← hnb] at xb
        have hcz4 : wr.cell? ⟨g4, 0, none⟩ = some (.slice Aa na ca) := (blk_cell xa 0).trans rfl
        have hcz5 : wr.cell? ⟨g5, 0, none⟩ = some (.slice Ab nb cb) := (blk_cell xb 0).trans rfl
        have NA := Aside0.mk hna
        have NB := Aside0.mk hnb
        have XCA := Aside0.mk CA
        have XCB := Aside0.mk CB
        have XLA := Aside0.mk la
        have XLB := Aside0.mk lb
        clear xa xb CA CB la lb hna hnb
        by_cases hab : na = 0 ∧ nb = 0
        · obtain ⟨rfl, rfl⟩ := hab
          have ha : a = [] := List.eq_nil_of_length_eq_zero NA.out.symm
          have hb : b = [] := List.eq_nil_of_length_eq_zero NB.out.symm
          subst ha
          subst hb
          have hsp := HQ.out.sp
          rw [spec_end] at hsp
          unfold fin at hsp
          obtain ⟨Ao, co, eo⟩ := Kd.R_slice HQ.out.ho
          subst eo
          by_cases k1 : out.length > 65536
          · rw [if_pos k1] at hsp
            obtain ⟨rfl, rfl⟩ := Prod.mk.inj hsp
            have d1 : decide (65536 < out.length) = true := decide_eq_true k1
            have d2 : decide (65536 < (out.length : Int)) = true := decide_eq_true (by omega)
            clear k1 hsp
            go_wp2
            go_ret2
            exact ⟨_, rfl, Kd.R_nil _ _ _ _ _, HQ.out.hb⟩
          · rw [if_neg k1] at hsp
            obtain ⟨rfl, rfl⟩ := Prod.mk.inj hsp
            have d1 : decide (65536 < out.length) = false := decide_eq_false k1
            have d2 : decide (65536 < (out.length : Int)) = false := decide_eq_false (by omega)
            clear k1 hsp
            go_wp2
            go_ret2
            exact ⟨_, rfl, Kd.R_mono HQ.out.ho (fun _ _ => trivial), HQ.out.hb⟩
        · have hd : (na = 0 ∧ 0 < nb) ∨ 0 < na := by omega
          clear hab
          go_upto_region 10 with (fail)
          go_cut [36] (fun v36 wc => v36 = .bool true ∧ wc = wr)
          case first =>
            rcases hd with ⟨rfl, hd⟩ | hd
            · have d1 : decide (0 < nb) = true := decide_eq_true hd
              go_wp2
              go_meet
              case rel => exact ⟨rfl, rfl⟩
            · have d1 : decide (0 < na) = true := decide_eq_true hd
              go_wp2
              go_meet
              case rel => exact ⟨rfl, rfl⟩
          case rest =>
            obtain ⟨rfl, rfl⟩ := hcut
            go_upto_region 12 with (fail)
            go_cut [77] (fun v77 wc => ∃ sel : Bool, v77 = .bool sel ∧ Aside0 (SelP sel en pt out a b) ∧ Aside0 (MR w wc g4 g5 a b out u10 en pt (r1, r2)))
            case first =>
              have NA' := NA.out
              have NB' := NB.out
              cases a with
              | nil =>
                cases b with
                | nil => exact absurd hd (by rw [NA', NB']; simp)
                | cons y b =>
                  simp only [List.length_nil] at NA'
                  subst NA'
                  clear NB' hd
                  go_quiet (fail)
                  go_wp2
                  go_meet
                  case rel => exact ⟨true, rfl, ⟨.inr ⟨rfl, y, b, rfl, spec_b (fun x a' e => by cases e)⟩⟩, ⟨HQ.out.drewN _⟩⟩
              | cons x a =>
                obtain ⟨ada, ea, xa0, xa1, xa2⟩ := at_T42 (Kd.C_below XCA.out HQ.out.hb) 0 (by omega) (by simp)
                subst ea
                cases b with
                | nil =>
                  simp only [List.length_nil] at NB'
                  subst NB'
                  have dn : ((na : Int) == 0) = false := beq_eq_false_iff_ne.mpr (by rw [NA']; simp; omega)
                  clear NA' hd xa0 xa1 xa2
                  go_quiet (fail)
                  go_wp2
                  go_meet
                  case rel => exact ⟨false, rfl, ⟨.inl ⟨rfl, x, a, rfl, spec_a (fun y b' e => by cases e)⟩⟩, ⟨HQ.out.drewN _⟩⟩
                | cons y b =>
                  obtain ⟨adb, eb, xb0, xb1, xb2⟩ := at_T42 (Kd.C_below XCB.out HQ.out.hb) 0 (by omega) (by simp)
                  subst eb
                  have dn : ((na : Int) == 0) = false := beq_eq_false_iff_ne.mpr (by rw [NA']; simp; omega)
                  have dm : decide (0 < nb) = true := decide_eq_true (by rw [NB']; simp)
                  have qa : (0 < na) = True := eq_true (by rw [NA']; simp)
                  have qb : (0 < nb) = True := eq_true (by rw [NB']; simp)
                  have ra : rd_T42 (x :: a) 0 = x := rfl
                  have rb : rd_T42 (y :: b) 0 = y := rfl
                  simp only [ra, rb, Int.toNat_zero, Nat.zero_mul, Addr.add_zero'] at xa0 xa1 xa2 xb0 xb1 xb2
                  clear ra rb hd NA' NB'
                  by_cases k1 : y.f0 < x.f0
                  · have d1 : decide (y.f0 < x.f0) = true := decide_eq_true k1
                    have hs : aheadB y x = true := by unfold aheadB; rw [d1]; rfl
                    have HSL := Aside0.mk hs
                    clear k1 hs
                    go_quiet (fail)
                    go_wp2
                    go_meet
                    case rel => exact ⟨true, rfl, ⟨.inr ⟨rfl, y, b, rfl, spec_b (fun x' a' e => by cases e; exact HSL.out)⟩⟩, ⟨HQ.out.drewN _⟩⟩
                  · have d1 : decide (y.f0 < x.f0) = false := decide_eq_false k1
                    by_cases k2 : y.f0 = x.f0
                    · have d2 : (y.f0 == x.f0) = true := beq_iff_eq.mpr k2
                      by_cases k3 : y.f1 < x.f1
                      · have d3 : decide (y.f1 < x.f1) = true := decide_eq_true k3
                        have hs : aheadB y x = true := by unfold aheadB; rw [d3, decide_eq_true k2]; simp
                        have HSL := Aside0.mk hs
                        clear k1 k2 k3 hs
                        go_quiet (fail)
                        go_wp2
                        go_meet
                        case rel => exact ⟨true, rfl, ⟨.inr ⟨rfl, y, b, rfl, spec_b (fun x' a' e => by cases e; exact HSL.out)⟩⟩, ⟨HQ.out.drewN _⟩⟩
                      · have d3 : decide (y.f1 < x.f1) = false := decide_eq_false k3
                        have hs : aheadB y x = false := by unfold aheadB; rw [d1, d3, Bool.and_false]; rfl
                        have HSL := Aside0.mk hs
                        clear k1 k2 k3 hs
                        go_quiet (fail)
                        go_wp2
                        go_meet
                        case rel => exact ⟨false, rfl, ⟨.inl ⟨rfl, x, a, rfl, spec_a (fun y' b' e => by cases e; exact HSL.out)⟩⟩, ⟨HQ.out.drewN _⟩⟩
                    · have d2 : (y.f0 == x.f0) = false := beq_eq_false_iff_ne.mpr k2
                      have hs : aheadB y x = false := by unfold aheadB; rw [d1, decide_eq_false k2]; rfl
                      have HSL := Aside0.mk hs
                      clear k1 k2 hs
                      go_quiet (fail)
                      go_wp2
                      go_meet
                      case rel => exact ⟨false, rfl, ⟨.inl ⟨rfl, x, a, rfl, spec_a (fun y' b' e => by cases e; exact HSL.out)⟩⟩, ⟨HQ.out.drewN _⟩⟩
            case rest =>
              clear HQ NA NB XCA XCB XLA XLB hd hcz4 hcz5
              obtain ⟨sel, rfl, HSL, HQ⟩ := hcut
              go_upto_if 77 with (fail)
              go_cut [13] (fun v13 wd => ∃ g : Nat, v13 = .pointer (some ⟨g, 0, none⟩) ∧ wd = wc ∧ Aside0 (∃ gO z zs lO, Sym g gO g4 g5 a b z zs lO en pt out ∧ g ≠ gO ∧ BxL w wc g (z :: zs) ∧ BxL w wc gO lO))
              case first =>
                rcases HSL.out with ⟨rfl, x, a2, rfl, hsp⟩ | ⟨rfl, y, b2, rfl, hsp⟩
                · have HSP := Aside0.mk hsp
                  clear hsp HSL
                  go_wp2
                  go_meet
                  case rel => exact ⟨g4, rfl, rfl, ⟨⟨g5, x, a2, b, .inl ⟨rfl, rfl, rfl, rfl, HSP.out⟩, N45.out.symm, HQ.out.ba, HQ.out.bb⟩⟩⟩
                · have HSP := Aside0.mk hsp
                  clear hsp HSL
                  go_wp2
                  go_meet
                  case rel => exact ⟨g5, rfl, rfl, ⟨⟨g4, y, b2, a, .inr ⟨rfl, rfl, rfl, rfl, HSP.out⟩, N45.out, HQ.out.bb, HQ.out.ba⟩⟩⟩
              case rest =>
                clear HSL
                obtain ⟨g, rfl, rfl, HY⟩ := hcut
                obtain ⟨gO, x, a2, lO, hsym, hgo, hbx, hbo⟩ := HY.out
                have HSY := Aside0.mk hsym
                have HBO := Aside0.mk hbo
                have NGO := Aside0.mk hgo
                obtain ⟨Aa, ca, xa, CA, la⟩ := hbx
                obtain ⟨ada, ea, xa0, xa1, xa2⟩ := at_T42 (Kd.C_below CA HQ.out.hb) 0 (by omega) (by simp)
                subst ea
                obtain ⟨i0, hi0, _, hsz0, _⟩ := info_parts info42
                have hcut4 := cut_from (P := Try.prog) 22 42 .i64 Try.underlying22 hi0 3 hsz0 (some ada) (x :: a2).length ca 1 (by omega) (by simp; omega)
                have hC2 := Kd.C_drop (m := 1) CA (by simp) la
                obtain ⟨A', hA'⟩ : ∃ A', A' = (if ca = (1 : Int).toNat then (some ada) else ((some ada) : Option Addr).map (·.add ((1 : Int).toNat * 3))) := ⟨_, rfl⟩
                rw [← hA'] at hcut4
                have hC2' : Kd.C k42 w A' a2.length a2 := by rw [hA']; exact hC2
                obtain ⟨na, hna⟩ : ∃ n, n = (x :: a2).length := ⟨_, rfl⟩
                obtain ⟨nd, hnd⟩ : ∃ n, n = na - (1 : Int).toNat := ⟨_, rfl⟩
                obtain ⟨cd, hcd⟩ : ∃ c, c = ca - (1 : Int).toNat := ⟨_, rfl⟩
                rw [← hna] at xa hcut4
                rw [← hnd, ← hcd] at hcut4
                have hcz4 : wc.cell? ⟨g, 0, none⟩ = some (.slice (some ada) na ca) := (blk_cell xa 0).trans rfl
                have qa : (0 < na) = True := eq_true (by rw [hna]; simp)
                have ra : rd_T42 (x :: a2) 0 = x := rfl
                simp only [ra, Int.toNat_zero, Nat.zero_mul, Addr.add_zero'] at xa0 xa1 xa2
                obtain ⟨gE, hgE⟩ : ∃ n, n = wc.heap.size := ⟨_, rfl⟩
                obtain ⟨W1, hW1⟩ : ∃ W, W = wc.alloc (.cells #[.int .i64 x.f0, .int .i64 x.f1, .string x.f2] 42) := ⟨_, rfl⟩
                have m4 : W1.cell? ⟨g, 0, none⟩ = some (.slice (some ada) na ca) := by rw [hW1]; exact (blk_cell (blk_alloc xa _) 0).trans rfl
                have mf : W1.frozen? ⟨g, 0, none⟩ = false := by rw [hW1]; exact blk_frozen (blk_alloc xa _) 0
                obtain ⟨W2, hW2⟩ : ∃ W, W = W1.setCell ⟨g, 0, none⟩ (.slice A' nd cd) := ⟨_, rfl⟩
                have hTK : Tk w W2 g gO gE x a2 lO out u10 := by
                  have z1 : g < wc.heap.size := blk_lt xa
                  have z2 : gO < wc.heap.size := hbo.lt
                  have hbe : W1.heap[gE]? = some (.cells #[.int .i64 x.f0, .int .i64 x.f1, .string x.f2] 42 (0, 0)) := by rw [hW1, hgE]; exact new_block wc _
                  have hnd' : nd = a2.length := by rw [hnd, hna]; simp
                  have hge : g ≥ w.heap.size := by
                    have h4 := GE4.out
                    have h5 := GE5.out
                    rcases hsym with ⟨rfl, _⟩ | ⟨rfl, _⟩ <;> assumption
                  refine ⟨⟨A', cd, ?_, hC2', ?_⟩, hbo.to ?_, ?_, ?_, ?_⟩
                  · rw [hW2, hW1, ← hnd']; exact blk_put (blk_alloc xa _) 0 _ rfl
                  · rw [hcd, ← hnd', hnd]; have := la; rw [← hna] at this; omega
                  · rw [hW2, Below.heap_setCell _ _ _ _ (fun e => hgo e.symm), hW1]; exact Below.heap_alloc _ _ _ z2
                  · rw [hW2]; exact blk_far (p := ⟨g, 0, none⟩) hbe (by show gE ≠ g; omega) _
                  · have hR := Kd.R_alloc (Kd.R_mono (ok' := fun k => (k ≠ g ∧ k ≠ gO) ∧ k ≠ gE) (Kd.R_bound HQ.out.ho) (fun k hk => ⟨(sym_ok hsym k).1 hk.1, by have := hk.2.2.1; omega⟩)) (.cells #[.int .i64 x.f0, .int .i64 x.f1, .string x.f2] 42)
                    rw [hW2, hW1]
                    exact Kd.R_far (p := ⟨g, 0, none⟩) hR (fun k hk => hk.1.1) _
                  · rw [hW2, hW1]; exact below_set (below_alloc HQ.out.hb _) hge
                have HTK := Aside0.mk hTK
                have e0 : W2.cell? ⟨gE, 0, none⟩ = some (.int .i64 x.f0) := (blk_cell hTK.be 0).trans rfl
                have e1 : W2.cell? ⟨gE, 1, none⟩ = some (.int .i64 x.f1) := (blk_cell hTK.be 1).trans rfl
                have e2 : W2.cell? ⟨gE, 2, none⟩ = some (.string x.f2) := (blk_cell hTK.be 2).trans rfl
                clear hTK ra hna hnd hcd hA' hC2 hC2' CA la xa hi0 hsz0 hsym hbo hgo HBO
                rw [hW1] at m4 mf
                have HG := Aside0.mk hgE
                have HW1 := Aside0.mk hW1
                have HW2 := Aside0.mk hW2
                have E0 := Aside0.mk e0
                have E1' := Aside0.mk e1
                have E2' := Aside0.mk e2
                clear hgE hW1 hW2 e0 e1 e2
                go_upto_region 16 with (fail)
                clear hcut4 hcz4 m4 mf xa0 xa1 xa2 qa
                rw [← HG.out, ← HW1.out, ← HW2.out]
                have e0 := E0.out
                have e1 := E1'.out
                have e2 := E2'.out
                clear E0 E1' E2' HG HW1 HW2
                by_cases k1 : x.f0 < en
                · have d1 : decide (x.f0 < en) = true := decide_eq_true k1
                  have hbad := sym_bad HSY.out HQ.out (.inl k1)
                  obtain ⟨rfl, rfl⟩ := Prod.mk.inj hbad
                  clear k1
                  go_wp2
                  go_ret2
                  exact ⟨_, rfl, Kd.R_nil _ _ _ _ _, HTK.out.hb⟩
                · have d1 : decide (x.f0 < en) = false := decide_eq_false k1
                  have K1 := Aside0.mk k1
                  clear k1
                  by_cases k2 : x.f0 = x.f1
                  · have d2 : (x.f0 == x.f1) = true := beq_iff_eq.mpr k2
                    have K2 := Aside0.mk k2
                    clear k2
                    by_cases k3 : x.f0 = pt
                    · have d3 : (x.f0 == pt) = true := beq_iff_eq.mpr k3
                      have hbad := sym_bad HSY.out HQ.out (.inr ⟨K2.out, k3⟩)
                      obtain ⟨rfl, rfl⟩ := Prod.mk.inj hbad
                      clear k3
                      go_wp2
                      go_ret2
                      exact ⟨_, rfl, Kd.R_nil _ _ _ _ _, HTK.out.hb⟩
                    · have d3 : (x.f0 == pt) = false := beq_eq_false_iff_ne.mpr k3
                      have K3 := Aside0.mk k3
                      clear k3
                      have hbd : ¬ (x.f0 < en ∨ (x.f0 = x.f1 ∧ x.f0 = pt)) := by have a1 := K1.out; have a2 := K2.out; have a3 := K3.out; omega
                      have HBD := Aside0.mk hbd
                      clear hbd
                      obtain ⟨Ao, co, eo⟩ := Kd.R_slice HTK.out.ho
                      subst eo
                      by_cases k4 : 0 < out.length ∧ x.f0 = en
                      · obtain ⟨m, hm⟩ : ∃ m, out.length = m + 1 := ⟨out.length - 1, by omega⟩
                        obtain ⟨go, co', eo', _, _, _⟩ := Kd.R_form HTK.out.ho k4.1
                        injection eo' with ea en' ec
                        subst ea
                        subst ec
                        clear en'
                        rw [hm]
                        have hT0 := HTK.out
                        rw [hm] at hT0
                        obtain ⟨l, hl⟩ : ∃ l, rd_T42 out (m : Int) = l := ⟨_, rfl⟩
                        obtain ⟨y0, y1, y2, yf, ys1, _⟩ := hT0.last hm l hl
                        have hT1 := ys1 x.f1
                        have hlt : m < out.length := by omega
                        have hmb : (m : Int) ≤ 200000 := by have := HQ.out.le; omega
                        have hmc : m ≤ 200000 := by have := HQ.out.le; omega
                        have hl1 : rd_T42 (out.set m ⟨l.f0, x.f1, l.f2⟩) (m : Int) = ⟨l.f0, x.f1, l.f2⟩ := by simp [rd_T42, hlt]
                        obtain ⟨t0, t1, t2, tf, _, ts2⟩ := hT1.last (by rw [List.length_set]; exact hm) _ hl1
                        have hT2 := ts2 (l.f2 ++ x.f2)
                        have hj : joinE out x = (out.set m ⟨l.f0, x.f1, l.f2⟩).set m ⟨l.f0, x.f1, l.f2 ++ x.f2⟩ := by
                          unfold joinE
                          have hq := HQ.out.la k4.1
                          rw [if_pos ⟨k4.1, by rw [hq]; exact k4.2.symm⟩, show out.length - 1 = m by omega, show (out.length : Int) - 1 = (m : Int) by omega, hl]
                          simp
                        have hsz2 : l.f2.size + x.f2.size ≤ 9223372036854775807 := by
                          have q1 := sz_mem hlt
                          have q2 := joinE_sz out x
                          have q3 : out[m] = l := by rw [← hl]; simp [rd_T42, hlt]
                          rw [q3] at q1
                          have q4 := sym_sz HSY.out HQ.out
                          omega
                        have d4 : (x.f0 == en) = true := beq_iff_eq.mpr k4.2
                        have hf1 := yf 1
                        have hf2 := tf 2
                        obtain ⟨W3, hW3⟩ : ∃ W, W = W2.setCell ⟨go, m * 3 + 1, none⟩ (.int .i64 x.f1) := ⟨_, rfl⟩
                        have f2 : W3.cell? ⟨gE, 2, none⟩ = some (.string x.f2) := by rw [hW3]; exact (blk_cell hT1.be 2).trans rfl
                        rw [← hW3] at hT2 t2 hf2
                        have HW3 := Aside0.mk hW3
                        have HJ := Aside0.mk hj
                        have HT2 := Aside0.mk hT2
                        have F2 := Aside0.mk f2
                        have T2 := Aside0.mk t2
                        have FR := Aside0.mk hf2
                        have HTF := Aside0.mk hT1
                        clear hT0 hT1 hT2 hl hl1 hlt hm k4 ys1 ts2 yf tf t0 t1 t2 hj hW3 f2 hf2
                        go_upto_region 24 with (fail)
                        rw [← HW3.out]
                        have f2 := F2.out
                        have t2 := T2.out
                        have hf2 := FR.out
                        clear HW3 F2 T2 FR y0 y1 y2 e0 e1 e2 hf1
                        go_region
                        have hT9 : Tk w (W3.setCell ⟨go, m * 3 + 2, none⟩ (.string (l.f2 ++ x.f2))).drew g gO gE x a2 lO _ (.slice (some ⟨go, 0, none⟩) (m + 1) co) := HT2.out.drewN 1
                        have HT9 := Aside0.mk hT9
                        have e9 : (W3.setCell ⟨go, m * 3 + 2, none⟩ (.string (l.f2 ++ x.f2))).drew.cell? ⟨gE, 1, none⟩ = some (.int .i64 x.f1) := (blk_cell hT9.be 1).trans rfl
                        clear hT9 f2 t2 hf2
                        generalize (W3.setCell ⟨go, m * 3 + 2, none⟩ (.string (l.f2 ++ x.f2))).drew = W4 at HT9 e9 ⊢
                        go_wp2
                        obtain ⟨a', b', hMR, hlt⟩ := sym_next HSY.out HQ.out HBD.out HT9.out.b1 HT9.out.b2 (by rw [HJ.out]; exact Kd.R_mono HT9.out.ho (fun k hk => (sym_ok HSY.out k).2 hk.1)) HT9.out.hb (by rw [if_pos K2.out])
                        have HLT := Aside0.mk hlt
                        have HMR := Aside0.mk hMR
                        clear hlt hMR
                        go_roundg (a'.length + b'.length + 1)
                        case measure => have h1 := HLT.out; have h2 := HK.out; omega
                        case rel => exact ⟨a', b', _, _, _, rfl, rfl, ⟨rfl⟩, HMR⟩
                      · by_cases k5 : 0 < out.length
                        · have d5 : decide (0 < out.length) = true := decide_eq_true k5
                          have d4 : (x.f0 == en) = false := beq_eq_false_iff_ne.mpr (fun e => k4 ⟨k5, e⟩)
                          have hj : joinE out x = out ++ [x] := by
                            unfold joinE
                            rw [if_neg (fun h => k4 ⟨k5, by rw [HQ.out.la k5] at h; exact h.2.symm⟩)]
                          have HJ := Aside0.mk hj
                          clear k4 k5 hj
                          go_wp2_with (first | ((with_reducible refine gate_builtin (b := .append) (xs := #[.tmp 138, .tmp 140]) rfl ?_); at_builtin; refine Kd.R_append k42 (w0 := w) w.heap.size rfl (.tmp 138) (.tmp 140) 22 42 (.agg #[(.int .i64 0), (.int .i64 0), (.string ⟨#[]⟩)]) 32 rfl Try.underlying22 info42 rfl (by decide) (by omega) (.slice Ao out.length co) out (x : S42) [.int .i64 x.f0, .int .i64 x.f1, .string x.f2] (fun k => (k ≠ g ∧ k ≠ gO) ∧ k ≠ gE) (fun _ => False) rfl rfl ?aP (fun _ hk => hk.elim) ?aF ?aO ?aB ?aS ?aL ?_; (case aP => exact k42_mkM _ _ _ x); (case aB => exact HTK.out.hb); (case aF => exact tk_fresh HTK.out); (case aO => exact HTK.out.ho); (case aS => exact HTK.out.hb.size); (case aL => have := HQ.out.le; omega); intro v9 W3 ho hb hg hat; have HT9 := Aside0.mk (HTK.out.turn hg hb ho); have e9 : W3.cell? ⟨gE, 1, none⟩ = some (.int .i64 x.f1) := (blk_cell HT9.out.be 1).trans rfl; clear ho hb hg hat))
                          obtain ⟨a', b', hMR, hlt⟩ := sym_next HSY.out HQ.out HBD.out HT9.out.b1 HT9.out.b2 (by rw [HJ.out]; exact Kd.R_mono HT9.out.ho (fun k hk => (sym_ok HSY.out k).2 hk.1)) HT9.out.hb (by rw [if_pos K2.out])
                          have HLT := Aside0.mk hlt
                          have HMR := Aside0.mk hMR
                          clear hlt hMR
                          go_roundg (a'.length + b'.length + 1)
                          case measure => have h1 := HLT.out; have h2 := HK.out; omega
                          case rel => exact ⟨a', b', _, _, _, rfl, rfl, ⟨rfl⟩, HMR⟩
                        · have h0 : out = [] := List.eq_nil_of_length_eq_zero (by omega)
                          subst h0
                          clear k4 k5
                          go_wp2_with (first | ((with_reducible refine gate_builtin (b := .append) (xs := #[.tmp 138, .tmp 140]) rfl ?_); at_builtin; refine Kd.R_append k42 (w0 := w) w.heap.size rfl (.tmp 138) (.tmp 140) 22 42 (.agg #[(.int .i64 0), (.int .i64 0), (.string ⟨#[]⟩)]) 32 rfl Try.underlying22 info42 rfl (by decide) (by omega) (.slice Ao 0 co) ([] : List S42) (x : S42) [.int .i64 x.f0, .int .i64 x.f1, .string x.f2] (fun k => (k ≠ g ∧ k ≠ gO) ∧ k ≠ gE) (fun _ => False) rfl rfl ?aP (fun _ hk => hk.elim) ?aF ?aO ?aB ?aS ?aL ?_; (case aP => exact k42_mkM _ _ _ x); (case aB => exact HTK.out.hb); (case aF => exact tk_fresh HTK.out); (case aO => exact HTK.out.ho); (case aS => exact HTK.out.hb.size); (case aL => have := HQ.out.le; omega); intro v9 W3 ho hb hg hat; have HT9 := Aside0.mk (HTK.out.turn hg hb ho); have e9 : W3.cell? ⟨gE, 1, none⟩ = some (.int .i64 x.f1) := (blk_cell HT9.out.be 1).trans rfl; clear ho hb hg hat))
                          obtain ⟨a', b', hMR, hlt⟩ := sym_next HSY.out HQ.out HBD.out HT9.out.b1 HT9.out.b2 (by rw [show joinE [] x = [] ++ [x] from rfl]; exact Kd.R_mono HT9.out.ho (fun k hk => (sym_ok HSY.out k).2 hk.1)) HT9.out.hb (by rw [if_pos K2.out])
                          have HLT := Aside0.mk hlt
                          have HMR := Aside0.mk hMR
                          clear hlt hMR
                          go_roundg (a'.length + b'.length + 1)
                          case measure => have h1 := HLT.out; have h2 := HK.out; omega
                          case rel => exact ⟨a', b', _, _, _, rfl, rfl, ⟨rfl⟩, HMR⟩
                  · have d2 : (x.f0 == x.f1) = false := beq_eq_false_iff_ne.mpr k2
                    have K2 := Aside0.mk k2
                    clear k2
                    have hbd : ¬ (x.f0 < en ∨ (x.f0 = x.f1 ∧ x.f0 = pt)) := by have a1 := K1.out; have a2 := K2.out; omega
                    have HBD := Aside0.mk hbd
                    clear hbd
                    obtain ⟨Ao, co, eo⟩ := Kd.R_slice HTK.out.ho
                    subst eo
                    by_cases k4 : 0 < out.length ∧ x.f0 = en
                    · obtain ⟨m, hm⟩ : ∃ m, out.length = m + 1 := ⟨out.length - 1, by omega⟩
                      obtain ⟨go, co', eo', _, _, _⟩ := Kd.R_form HTK.out.ho k4.1
                      injection eo' with ea en' ec
                      subst ea
                      subst ec
                      clear en'
                      rw [hm]
                      have hT0 := HTK.out
                      rw [hm] at hT0
                      obtain ⟨l, hl⟩ : ∃ l, rd_T42 out (m : Int) = l := ⟨_, rfl⟩
                      obtain ⟨y0, y1, y2, yf, ys1, _⟩ := hT0.last hm l hl
                      have hT1 := ys1 x.f1
                      have hlt : m < out.length := by omega
                      have hmb : (m : Int) ≤ 200000 := by have := HQ.out.le; omega
                      have hmc : m ≤ 200000 := by have := HQ.out.le; omega
                      have hl1 : rd_T42 (out.set m ⟨l.f0, x.f1, l.f2⟩) (m : Int) = ⟨l.f0, x.f1, l.f2⟩ := by simp [rd_T42, hlt]
                      obtain ⟨t0, t1, t2, tf, _, ts2⟩ := hT1.last (by rw [List.length_set]; exact hm) _ hl1
                      have hT2 := ts2 (l.f2 ++ x.f2)
                      have hj : joinE out x = (out.set m ⟨l.f0, x.f1, l.f2⟩).set m ⟨l.f0, x.f1, l.f2 ++ x.f2⟩ := by
                        unfold joinE
                        have hq := HQ.out.la k4.1
                        rw [if_pos ⟨k4.1, by rw [hq]; exact k4.2.symm⟩, show out.length - 1 = m by omega, show (out.length : Int) - 1 = (m : Int) by omega, hl]
                        simp
                      have hsz2 : l.f2.size + x.f2.size ≤ 9223372036854775807 := by
                        have q1 := sz_mem hlt
                        have q2 := joinE_sz out x
                        have q3 : out[m] = l := by rw [← hl]; simp [rd_T42, hlt]
                        rw [q3] at q1
                        have q4 := sym_sz HSY.out HQ.out
                        omega
                      have d4 : (x.f0 == en) = true := beq_iff_eq.mpr k4.2
                      have hf1 := yf 1
                      have hf2 := tf 2
                      obtain ⟨W3, hW3⟩ : ∃ W, W = W2.setCell ⟨go, m * 3 + 1, none⟩ (.int .i64 x.f1) := ⟨_, rfl⟩
                      have f2 : W3.cell? ⟨gE, 2, none⟩ = some (.string x.f2) := by rw [hW3]; exact (blk_cell hT1.be 2).trans rfl
                      rw [← hW3] at hT2 t2 hf2
                      have HW3 := Aside0.mk hW3
                      have HJ := Aside0.mk hj
                      have HT2 := Aside0.mk hT2
                      have F2 := Aside0.mk f2
                      have T2 := Aside0.mk t2
                      have FR := Aside0.mk hf2
                      have HTF := Aside0.mk hT1
                      clear hT0 hT1 hT2 hl hl1 hlt hm k4 ys1 ts2 yf tf t0 t1 t2 hj hW3 f2 hf2
                      go_upto_region 24 with (fail)
                      rw [← HW3.out]
                      have f2 := F2.out
                      have t2 := T2.out
                      have hf2 := FR.out
                      clear HW3 F2 T2 FR y0 y1 y2 e0 e1 e2 hf1
                      go_region
                      have hT9 : Tk w (W3.setCell ⟨go, m * 3 + 2, none⟩ (.string (l.f2 ++ x.f2))).drew g gO gE x a2 lO _ (.slice (some ⟨go, 0, none⟩) (m + 1) co) := HT2.out.drewN 1
                      have HT9 := Aside0.mk hT9
                      have e9 : (W3.setCell ⟨go, m * 3 + 2, none⟩ (.string (l.f2 ++ x.f2))).drew.cell? ⟨gE, 1, none⟩ = some (.int .i64 x.f1) := (blk_cell hT9.be 1).trans rfl
                      clear hT9 f2 t2 hf2
                      generalize (W3.setCell ⟨go, m * 3 + 2, none⟩ (.string (l.f2 ++ x.f2))).drew = W4 at HT9 e9 ⊢
                      go_wp2
                      obtain ⟨a', b', hMR, hlt⟩ := sym_next HSY.out HQ.out HBD.out HT9.out.b1 HT9.out.b2 (by rw [HJ.out]; exact Kd.R_mono HT9.out.ho (fun k hk => (sym_ok HSY.out k).2 hk.1)) HT9.out.hb (by rw [if_neg K2.out])
                      have HLT := Aside0.mk hlt
                      have HMR := Aside0.mk hMR
                      clear hlt hMR
                      go_roundg (a'.length + b'.length + 1)
                      case measure => have h1 := HLT.out; have h2 := HK.out; omega
                      case rel => exact ⟨a', b', _, _, _, rfl, rfl, ⟨rfl⟩, HMR⟩
                    · by_cases k5 : 0 < out.length
                      · have d5 : decide (0 < out.length) = true := decide_eq_true k5
                        have d4 : (x.f0 == en) = false := beq_eq_false_iff_ne.mpr (fun e => k4 ⟨k5, e⟩)
                        have hj : joinE out x = out ++ [x] := by
                          unfold joinE
                          rw [if_neg (fun h => k4 ⟨k5, by rw [HQ.out.la k5] at h; exact h.2.symm⟩)]
                        have HJ := Aside0.mk hj
                        clear k4 k5 hj
                        go_wp2_with (first | ((with_reducible refine gate_builtin (b := .append) (xs := #[.tmp 138, .tmp 140]) rfl ?_); at_builtin; refine Kd.R_append k42 (w0 := w) w.heap.size rfl (.tmp 138) (.tmp 140) 22 42 (.agg #[(.int .i64 0), (.int .i64 0), (.string ⟨#[]⟩)]) 32 rfl Try.underlying22 info42 rfl (by decide) (by omega) (.slice Ao out.length co) out (x : S42) [.int .i64 x.f0, .int .i64 x.f1, .string x.f2] (fun k => (k ≠ g ∧ k ≠ gO) ∧ k ≠ gE) (fun _ => False) rfl rfl ?aP (fun _ hk => hk.elim) ?aF ?aO ?aB ?aS ?aL ?_; (case aP => exact k42_mkM _ _ _ x); (case aB => exact HTK.out.hb); (case aF => exact tk_fresh HTK.out); (case aO => exact HTK.out.ho); (case aS => exact HTK.out.hb.size); (case aL => have := HQ.out.le; omega); intro v9 W3 ho hb hg hat; have HT9 := Aside0.mk (HTK.out.turn hg hb ho); have e9 : W3.cell? ⟨gE, 1, none⟩ = some (.int .i64 x.f1) := (blk_cell HT9.out.be 1).trans rfl; clear ho hb hg hat))
                        obtain ⟨a', b', hMR, hlt⟩ := sym_next HSY.out HQ.out HBD.out HT9.out.b1 HT9.out.b2 (by rw [HJ.out]; exact Kd.R_mono HT9.out.ho (fun k hk => (sym_ok HSY.out k).2 hk.1)) HT9.out.hb (by rw [if_neg K2.out])
                        have HLT := Aside0.mk hlt
                        have HMR := Aside0.mk hMR
                        clear hlt hMR
                        go_roundg (a'.length + b'.length + 1)
                        case measure => have h1 := HLT.out; have h2 := HK.out; omega
                        case rel => exact ⟨a', b', _, _, _, rfl, rfl, ⟨rfl⟩, HMR⟩
                      · have h0 : out = [] := List.eq_nil_of_length_eq_zero (by omega)
                        subst h0
                        clear k4 k5
                        go_wp2_with (first | ((with_reducible refine gate_builtin (b := .append) (xs := #[.tmp 138, .tmp 140]) rfl ?_); at_builtin; refine Kd.R_append k42 (w0 := w) w.heap.size rfl (.tmp 138) (.tmp 140) 22 42 (.agg #[(.int .i64 0), (.int .i64 0), (.string ⟨#[]⟩)]) 32 rfl Try.underlying22 info42 rfl (by decide) (by omega) (.slice Ao 0 co) ([] : List S42) (x : S42) [.int .i64 x.f0, .int .i64 x.f1, .string x.f2] (fun k => (k ≠ g ∧ k ≠ gO) ∧ k ≠ gE) (fun _ => False) rfl rfl ?aP (fun _ hk => hk.elim) ?aF ?aO ?aB ?aS ?aL ?_; (case aP => exact k42_mkM _ _ _ x); (case aB => exact HTK.out.hb); (case aF => exact tk_fresh HTK.out); (case aO => exact HTK.out.ho); (case aS => exact HTK.out.hb.size); (case aL => have := HQ.out.le; omega); intro v9 W3 ho hb hg hat; have HT9 := Aside0.mk (HTK.out.turn hg hb ho); have e9 : W3.cell? ⟨gE, 1, none⟩ = some (.int .i64 x.f1) := (blk_cell HT9.out.be 1).trans rfl; clear ho hb hg hat))
                        obtain ⟨a', b', hMR, hlt⟩ := sym_next HSY.out HQ.out HBD.out HT9.out.b1 HT9.out.b2 (by rw [show joinE [] x = [] ++ [x] from rfl]; exact Kd.R_mono HT9.out.ho (fun k hk => (sym_ok HSY.out k).2 hk.1)) HT9.out.hb (by rw [if_neg K2.out])
                        have HLT := Aside0.mk hlt
                        have HMR := Aside0.mk hMR
                        clear hlt hMR
                        go_roundg (a'.length + b'.length + 1)
                        case measure => have h1 := HLT.out; have h2 := HK.out; omega
                        case rel => exact ⟨a', b', _, _, _, rfl, rfl, ⟨rfl⟩, HMR⟩
    · rw [if_neg q2] at HM'
      obtain ⟨rfl, rfl⟩ := Prod.mk.inj HM'
      have x2 : (e2 != 0) = true := bne_iff_ne.mpr q2
      clear HM'
      go_enter Try.func28, Try.ntmps28
      go_wp2_with (first | ((with_reducible refine gate_dst (N := 4) rfl ?_); refine box_event ?hg4 (N := 4) ?hd4 (cs := #[.slice A1 l1.length c1]) (t := 22) ?hr4 ?_; (case hd4 => rfl); (case hg4 => rfl); (case hr4 => first | (go_simp; done) | (go_simp; rfl)); intro g4 hg w1 hbox hb; have n0_ := Aside0.mk (below_step HB.out hb); have n1_ := Aside0.mk hbox; have GE4 := Aside0.mk (show w.heap.size ≤ g4 by rw [hg]; exact Nat.le_refl _); clear HB; have HB := n0_; have BK4 := n1_; clear n0_ n1_ hb hbox hg; have hcz4 : w1.cell? ⟨g4, 0, none⟩ = some (.slice A1 l1.length c1) := (blk_cell BK4.out 0).trans rfl) | ((with_reducible refine gate_dst (N := 5) rfl ?_); refine box_event ?hg5 (N := 5) ?hd5 (cs := #[.slice A2 l2.length c2]) (t := 22) ?hr5 ?_; (case hd5 => rfl); (case hg5 => rfl); (case hr5 => first | (go_simp; done) | (go_simp; rfl)); intro g5 hg w2 hbox hb; have n0_ := Aside0.mk (below_step HB.out hb); have n1_ := Aside0.mk hbox; have n2_ := Aside0.mk (blk_below BK4.out hb); have GE5 := Aside0.mk (show w.heap.size ≤ g5 by rw [hg]; exact HB.out.size); have N45 := Aside0.mk (show g5 ≠ g4 by rw [hg]; exact (Nat.ne_of_lt (blk_lt BK4.out)).symm); clear HB BK4 hcz4; have HB := n0_; have BK5 := n1_; have BK4 := n2_; clear n0_ n1_ n2_ hb hbox hg; have hcz4 : w2.cell? ⟨g4, 0, none⟩ = some (.slice A1 l1.length c1) := (blk_cell BK4.out 0).trans rfl) | ((with_reducible refine gate_callee (f := 16) rfl ?_); (with_reducible refine gate_dst (N := 19) rfl ?_); refine goesL_ (some 19) rfl rfl Try.func16 (by kernel_rfl) rfl #[.int .i64 a0, .slice A1 l1.length c1] rfl (by (try simp only [List.map_toArray, List.map_cons, List.map_nil]); first | done | rfl) ?_; (with_reducible refine (edits_Valid.calls k1 a0 A1 c1 l1 0 _ (Kd.C_below HR1.out HB.out) HC1.out HV1.out).mono ?_); rintro e w3 ⟨rfl, hb⟩; refine ⟨_, rfl, ?_⟩; have n0_ := Aside0.mk (below_step HB.out hb); have n1_ := Aside0.mk (blk_below BK4.out hb); have n2_ := Aside0.mk (blk_below BK5.out hb); clear HB BK4 BK5 hcz4 hb; have HB := n0_; have BK4 := n1_; have BK5 := n2_; clear n0_ n1_ n2_; have hcz5 : w3.cell? ⟨g5, 0, none⟩ = some (.slice A2 l2.length c2) := (blk_cell BK5.out 0).trans rfl) | ((with_reducible refine gate_callee (f := 16) rfl ?_); (with_reducible refine gate_dst (N := 25) rfl ?_); refine goesL_ (some 25) rfl rfl Try.func16 (by kernel_rfl) rfl #[.int .i64 a0, .slice A2 l2.length c2] rfl (by (try simp only [List.map_toArray, List.map_cons, List.map_nil]); first | done | rfl) ?_; (with_reducible refine (edits_Valid.calls k2 a0 A2 c2 l2 e2 _ (Kd.C_below HR2.out HB.out) HC2.out HV2.out).mono ?_); rintro e w4 ⟨rfl, hb⟩; refine ⟨_, rfl, ?_⟩; have n0_ := Aside0.mk (below_step HB.out hb); have n1_ := Aside0.mk (blk_below BK4.out hb); have n2_ := Aside0.mk (blk_below BK5.out hb); clear HB BK4 BK5 hcz5 hb; have HB := n0_; have BK4 := n1_; have BK5 := n2_; clear n0_ n1_ n2_))
      go_ret2
      exact ⟨_, rfl, Kd.R_nil _ _ _ _ _, HB.out⟩
  · rw [if_neg q1] at HM'
    obtain ⟨rfl, rfl⟩ := Prod.mk.inj HM'
    have x1 : (e1 != 0) = true := bne_iff_ne.mpr q1
    clear HM'
    go_enter Try.func28, Try.ntmps28
    go_wp2_with (first | ((with_reducible refine gate_dst (N := 4) rfl ?_); refine box_event ?hg4 (N := 4) ?hd4 (cs := #[.slice A1 l1.length c1]) (t := 22) ?hr4 ?_; (case hd4 => rfl); (case hg4 => rfl); (case hr4 => first | (go_simp; done) | (go_simp; rfl)); intro g4 hg w1 hbox hb; have n0_ := Aside0.mk (below_step HB.out hb); have n1_ := Aside0.mk hbox; have GE4 := Aside0.mk (show w.heap.size ≤ g4 by rw [hg]; exact Nat.le_refl _); clear HB; have HB := n0_; have BK4 := n1_; clear n0_ n1_ hb hbox hg; have hcz4 : w1.cell? ⟨g4, 0, none⟩ = some (.slice A1 l1.length c1) := (blk_cell BK4.out 0).trans rfl) | ((with_reducible refine gate_dst (N := 5) rfl ?_); refine box_event ?hg5 (N := 5) ?hd5 (cs := #[.slice A2 l2.length c2]) (t := 22) ?hr5 ?_; (case hd5 => rfl); (case hg5 => rfl); (case hr5 => first | (go_simp; done) | (go_simp; rfl)); intro g5 hg w2 hbox hb; have n0_ := Aside0.mk (below_step HB.out hb); have n1_ := Aside0.mk hbox; have n2_ := Aside0.mk (blk_below BK4.out hb); have GE5 := Aside0.mk (show w.heap.size ≤ g5 by rw [hg]; exact HB.out.size); have N45 := Aside0.mk (show g5 ≠ g4 by rw [hg]; exact (Nat.ne_of_lt (blk_lt BK4.out)).symm); clear HB BK4 hcz4; have HB := n0_; have BK5 := n1_; have BK4 := n2_; clear n0_ n1_ n2_ hb hbox hg; have hcz4 : w2.cell? ⟨g4, 0, none⟩ = some (.slice A1 l1.length c1) := (blk_cell BK4.out 0).trans rfl) | ((with_reducible refine gate_callee (f := 16) rfl ?_); (with_reducible refine gate_dst (N := 19) rfl ?_); refine goesL_ (some 19) rfl rfl Try.func16 (by kernel_rfl) rfl #[.int .i64 a0, .slice A1 l1.length c1] rfl (by (try simp only [List.map_toArray, List.map_cons, List.map_nil]); first | done | rfl) ?_; (with_reducible refine (edits_Valid.calls k1 a0 A1 c1 l1 e1 _ (Kd.C_below HR1.out HB.out) HC1.out HV1.out).mono ?_); rintro e w3 ⟨rfl, hb⟩; refine ⟨_, rfl, ?_⟩; have n0_ := Aside0.mk (below_step HB.out hb); have n1_ := Aside0.mk (blk_below BK4.out hb); have n2_ := Aside0.mk (blk_below BK5.out hb); clear HB BK4 BK5 hcz4 hb; have HB := n0_; have BK4 := n1_; have BK5 := n2_; clear n0_ n1_ n2_))
    go_ret2
    exact ⟨_, rfl, Kd.R_nil _ _ _ _ _, HB.out⟩
end Go.Proofs.Ytaihajmdngoeiaa.F

namespace Go.Proofs.Ytaihajmdngoeiaa.H
open Go.RowKit Go.Proofs.YtaihajmdngoeiaaW.PrintWords Go.Proofs.YtaihajmdngoeiaaW.PrintLast Go.Proofs.YtaihajmdngoeiaaW.PrintMore
open Go.Proofs.Ytaihajmdngoeiaa.F
set_option linter.unusedVariables false
set_option linter.unusedSimpArgs false

def marks : List S42 := [⟨-9, 0, ⟨#[114, 111, 111, 109]⟩⟩, ⟨-8, 0, ⟨#[]⟩⟩, ⟨0, -7, ⟨#[]⟩⟩]
def LentPost (l : List S42) (w : World) (e : Ending) (w' : World) : Prop :=
  ∃ A, e = .returned (.slice A l.length (l.length + 3)) ∧ Kd.C k42 w' A (l.length + 3) (l ++ marks) ∧ Below w.heap.size w w'

/-- The cells of a row that came in, whatever its address. -/
theorem row_cells {w : World} {A : Option Addr} {l : List S42} (hr : Kd.C k42 w A l.length l) :
    ∃ inner, Reps (k42.K w) 3 l inner ∧ (A = none → l.length = 0) ∧ ∀ ad, A = some ad → ∀ j u, inner[j]? = some u → w.cell? (ad.add j) = some u := by
  cases A with
  | none =>
    have h0 : l.length = 0 := by
      rcases Nat.eq_zero_or_pos l.length with h | h
      · exact h
      · obtain ⟨ad, e, _⟩ := hr.2.2 h
        cases e
    obtain rfl := List.eq_nil_of_length_eq_zero h0
    exact ⟨[], Reps.none _ _, fun _ => h0, (fun ad e => by cases e)⟩
  | some ad =>
    obtain ⟨inner, h1, h2⟩ := ReadsRow.inner_ (R := k42.K w) (size := 3) hr
    exact ⟨inner, h1, (fun e => by cases e), fun ad2 e => by cases e; exact h2⟩

theorem row_one {w : World} {l : List S42} {inner : List Value} (h : Reps (k42.K w) 3 l inner) : ∀ u ∈ inner, u.oneCell' = true := by
  intro u hu
  obtain ⟨i, hi, rfl⟩ := List.mem_iff_getElem.1 hu
  have hj : i / 3 < l.length := by have := h.1; omega
  have hk := h.2 (i / 3) (l[i / 3]'hj) (List.getElem?_eq_getElem hj)
  refine k42.K_one hk _ ?_
  rw [List.mem_iff_getElem]
  refine ⟨i % 3, by rw [List.length_take, List.length_drop]; have := h.1; omega, ?_⟩
  rw [List.getElem_take, List.getElem_drop]
  congr 1
  omega

def mcells : List Value := [.int .i64 (-9), .int .i64 0, .string ⟨#[114, 111, 111, 109]⟩, .int .i64 (-8), .int .i64 0, .string ⟨#[]⟩, .int .i64 0, .int .i64 (-7), .string ⟨#[]⟩]
theorem mcell (w2 : World) (j : Nat) (u : Value) (hu : mcells[j]? = some u) : (w2.alloc (.cells mcells.toArray 42)).cell? ((⟨w2.heap.size, 0, none⟩ : Addr).add j) = some u := by
  rw [add_plain]
  rw [World.cell?_alloc_new]; simpa using hu
theorem mcells_one : ∀ u ∈ mcells, u.oneCell' = true := by
  simp [mcells, Value.oneCell']
theorem reps_marks (w : World) : Reps (k42.K w) 3 marks mcells := by
  refine ⟨rfl, fun j p hj => ?_⟩
  match j, hj with
  | 0, hj => cases hj; exact k42_mk w _
  | 1, hj => cases hj; exact k42_mk w _
  | 2, hj => cases hj; exact k42_mk w _
  | j + 3, hj => simp [marks] at hj
theorem Reps.app {α : Type} {R : α → List Value → Prop} {size : Nat} {ps qs : List α} {cs ds : List Value} (h : Reps R size ps cs) (k : Reps R size qs ds) : Reps R size (ps ++ qs) (cs ++ ds) := by
  refine ⟨by rw [List.length_append, h.1, k.1, List.length_append, Nat.add_mul], fun j q hq => ?_⟩
  rcases Nat.lt_or_ge j ps.length with hj | hj
  · rw [List.getElem?_append_left hj] at hq
    have h1 : j * size + size ≤ cs.length := by rw [h.1, ← Nat.succ_mul]; exact Nat.mul_le_mul_right _ hj
    have h2 := h.2 j q hq
    rw [List.drop_append_of_le_length (by omega), List.take_append_of_le_length (by rw [List.length_drop]; omega)]
    exact h2
  · rw [List.getElem?_append_right hj] at hq
    have h2 := k.2 _ q hq
    have e : j * size = cs.length + (j - ps.length) * size := by rw [h.1, ← Nat.add_mul]; congr 1; omega
    rw [e, List.drop_append, List.drop_eq_nil_of_le (by omega), List.nil_append, Nat.add_sub_cancel_left]
    exact h2
theorem Kd.C_of_own42 {w w3 : World} {base g c : Nat} {l : List S42} {inner : List Value} (hR : Reps (k42.K w) 3 l inner) (h : w3.ownsRow base 42 3 (.slice (some ⟨g, 0, none⟩) (l.length + 3) c) (l.length + 3) (inner ++ mcells)) :
    Kd.C k42 w3 (some ⟨g, 0, none⟩) (l.length + 3) (l ++ marks) := by
  have hk : ∀ (p : S42) cs, k42.K w p cs → k42.K w3 p cs := fun p cs h => by rw [k42_open h]; exact k42_mk w3 p
  obtain ⟨A, c', he, hrow⟩ := own_reads_row (R := k42.K w3) (ps := l ++ marks) h (Reps.app (Reps.imp_ hR hk) (reps_marks w3)) (by simp [marks])
  injection he with h1 _ _
  subst h1
  exact hrow

set_option maxHeartbeats 1000000 in
theorem lent_calls (A0 : Option Addr) (c0 : Nat) (l : List S42) (w : World) (hr : Kd.C k42 w A0 l.length l) (hc : l.length ≤ c0) (hn : A0 = none → c0 = 0) (hb : l.length * 32 ≤ 140737488351232) :
    Calls Try.prog 15 #[.slice A0 l.length c0] w (LentPost l w) := by
  have hu42 := Try.underlying42
  obtain ⟨i, hi, hz0, hz1, hz2⟩ := info_parts info42
  obtain ⟨inner, hR, hA, hcell⟩ := row_cells hr
  have HR := Aside0.mk hR
  have hlen : inner.length = l.length * 3 := hR.1
  have HL := Aside0.mk hlen
  have HC := Aside0.mk hcell
  have HN := Aside0.mk hn
  have HA := Aside0.mk hA
  have HB2 := Aside0.mk hz2
  have HI := Aside0.mk hi
  have HZ0 := Aside0.mk hz0
  have HZ1 := Aside0.mk hz1
  clear hR hcell hr hn hA hlen hz2 hi hz0 hz1
  have hl : l.length ≤ 4398046510976 := by omega
  go_enter Try.func15, Try.ntmps15
  go_wp2_with (first
    | ((with_reducible refine gate_dst (N := 7) rfl ?_); refine wpList_make_own _ rfl _ _ 22 rfl w.heap.size 42 i _ 3 Try.underlying22 HI.out HZ0.out HZ1.out _ _ _ (l.length + 3) rfl rfl (by first | rfl | (simp; done) | omega) (by rw [HB2.out]; omega) (by unfold maxLen; omega) (Nat.le_refl _) ?_; intro w1 hown1 hg1; have HO1 := Aside0.mk hown1; have HG1 := Aside0.mk hg1; clear hown1 hg1)
    | ((with_reducible refine gate_dst (N := 10) rfl ?_); refine wpList_append_fits_any _ rfl _ _ 22 rfl w.heap.size 42 i 3 Try.underlying22 HI.out HZ1.out w.heap.size 0 (l.length + 3) [] rfl HO1.out A0 l.length c0 inner rfl HL.out (fun e => ⟨HA.out e, HN.out e⟩) (fun ad e j u hu => HG1.out.cell (HC.out ad e j u hu) (by simp)) (row_one HR.out) (by omega) ?_; intro w2 hown2 hg2; simp only [Nat.zero_add, List.nil_append] at hown2; have HO2 := Aside0.mk hown2; have HG2 := Aside0.mk hg2; clear hown2 hg2; rw [Nat.zero_add])
    | ((with_reducible refine gate_dst (N := 16) rfl ?_); refine wpList_append_fits _ rfl _ _ 22 rfl w.heap.size 42 i 3 Try.underlying22 HI.out HZ1.out w.heap.size l.length (l.length + 3) inner rfl (HO2.out.alloc _) ⟨w2.heap.size, 0, none⟩ 3 3 mcells rfl rfl (fun j u hu => mcell w2 j u hu) mcells_one (by omega) ?_; intro w3 hown3 hg3; have HO3 := Aside0.mk hown3; have HG3 := Aside0.mk hg3; clear hown3 hg3))
  go_ret
  obtain ⟨o1, o2⟩ := HO3.out
  refine ⟨_, rfl, ?_, ?_⟩
  · refine Kd.C_of_own42 HR.out HO3.out
  · have b1 := (Below.refl w.heap.size w).grown HG1.out (Nat.le_refl _) (by simp)
    have b2 := b1.grown HG2.out b1.size (by rintro k ⟨⟩; exact Nat.le_refl _)
    have b3 := b2.alloc b2.size (.cells mcells.toArray 42)
    exact b3.grown HG3.out (Nat.le_trans b2.size (by simp)) (by rintro k ⟨⟩; exact Nat.le_refl _)
end Go.Proofs.Ytaihajmdngoeiaa.H

namespace Go.Proofs.Ytaihajmdngoeiaa.Q
open Go.RowKit Go.Proofs.YtaihajmdngoeiaaW.PrintWords Go.Proofs.YtaihajmdngoeiaaW.PrintLast Go.Proofs.YtaihajmdngoeiaaW.PrintMore
open Go.Proofs.Ytaihajmdngoeiaa.F

theorem same_loop (l : List S42) (hl : l.length ≤ 9223372036854775807) (d : Nat) : ∀ i, i ≤ l.length → l.length - i = d →
    Ev (fun k => monikerplain_SameEdits.l0 k l l (l.length : Int) (i : Int)) true := by
  induction d with
  | zero =>
    intro i h1 h2
    refine ⟨1, fun n hn => ?_⟩
    obtain ⟨k, rfl⟩ : ∃ m, n = m + 1 := ⟨n - 1, by omega⟩
    simp only [monikerplain_SameEdits.l0]
    rw [if_neg (by omega)]
  | succ d ih =>
    intro i h1 h2
    obtain ⟨K, hK⟩ := ih (i + 1) (by omega) (by omega)
    refine ⟨K + 1, fun n hn => ?_⟩
    obtain ⟨k, rfl⟩ : ∃ m, n = m + 1 := ⟨n - 1, by omega⟩
    simp only [monikerplain_SameEdits.l0]
    rw [if_pos (by omega), if_pos (by omega), if_pos (by omega), if_pos (by omega), if_neg (by simp), show wrap64 ((i : Int) + 1) = ((i + 1 : Nat) : Int) by unfold wrap64; omega]
    exact hK k (by omega)
theorem same_is (l : List S42) (hl : l.length ≤ 9223372036854775807) : Ev (fun k => monikerplain_SameEdits.f k l l) true := by
  unfold monikerplain_SameEdits.f
  simp only [↓reduceIte]
  exact same_loop l hl l.length 0 (by omega) (by omega)
end Go.Proofs.Ytaihajmdngoeiaa.Q

namespace Go.Proofs.Ytaihajmdngoeiaa.H
open Go.RowKit Go.Proofs.YtaihajmdngoeiaaW.PrintWords Go.Proofs.YtaihajmdngoeiaaW.PrintLast Go.Proofs.YtaihajmdngoeiaaW.PrintMore
open Go.Proofs.Ytaihajmdngoeiaa.F
attribute [local go_sem high] eqA42
set_option linter.unusedVariables false
set_option linter.unusedSimpArgs false

theorem Kd.C_lent {w : World} {A : Option Addr} {l : List S42} (h : Kd.C k42 w A (l.length + 3) (l ++ marks)) : Kd.C k42 w A l.length l := by
  have h' : Kd.C k42 w A (l ++ marks).length (l ++ marks) := by rw [List.length_append]; exact h
  have h2 := Kd.C_take (m := l.length) h' (by simp)
  simpa using h2

set_option maxHeartbeats 1000000 in
theorem kept_calls (A0 : Option Addr) (A1 : Option Addr) (c1 : Nat) (l : List S42) (w : World) (hr : Kd.C k42 w A0 (l.length + 3) (l ++ marks)) (hr1 : Kd.C k42 w A1 l.length l) (hc1 : l.length ≤ c1) (hl : l.length ≤ 4398046511104) :
    Calls Try.prog 18 #[.slice A0 l.length (l.length + 3), .slice A1 l.length c1] w fun e w' => e = .returned (.bool true) ∧ Drawn0 w w' := by
  have hu42 := Try.underlying42
  obtain ⟨k, hk⟩ := (Q.same_is l (by omega)).rounds
  have HK := Aside0.mk hk
  have r0 : rd_T42 (l ++ marks) (l.length : Int) = ⟨-9, 0, ⟨#[114, 111, 111, 109]⟩⟩ := by simp [rd_T42, marks]
  have r1 : rd_T42 (l ++ marks) ((l.length : Int) + 1) = ⟨-8, 0, ⟨#[]⟩⟩ := by
    rw [rd_T42, show ((l.length : Int) + 1).toNat = l.length + 1 by omega]; simp [marks]
  have r2 : rd_T42 (l ++ marks) ((l.length : Int) + 2) = ⟨0, -7, ⟨#[]⟩⟩ := by
    rw [rd_T42, show ((l.length : Int) + 2).toNat = l.length + 2 by omega]; simp [marks]
  obtain ⟨ad, e0, x00, x01, x02⟩ := at_T42 hr (l.length : Int) (by omega) (by omega)
  subst e0
  obtain ⟨ad', e1, x10, x11, x12⟩ := at_T42 hr ((l.length : Int) + 1) (by omega) (by omega)
  cases e1
  obtain ⟨ad', e2, x20, x21, x22⟩ := at_T42 hr ((l.length : Int) + 2) (by omega) (by omega)
  cases e2
  rw [r0] at x00 x01 x02
  rw [r1] at x10 x11 x12
  rw [r2] at x20 x21 x22
  clear r0 r1 r2
  simp only [Int.toNat_natCast] at x00 x01 x02
  rw [show ((l.length : Int) + 1).toNat = l.length + 1 by omega] at x10 x11 x12
  rw [show ((l.length : Int) + 2).toNat = l.length + 2 by omega] at x20 x21 x22
  have HS := Aside0.mk (Kd.C_lent hr)
  have HR := Aside0.mk hr
  have HR1 := Aside0.mk hr1
  have HC1 := Aside0.mk hc1
  clear hk hr hr1 hc1
  go_enter Try.func18, Try.ntmps18
  go_wp2_with ((with_reducible refine gate_callee (f := 21) rfl ?_); refine goesL_ (some 8) rfl rfl Try.func21 (by kernel_rfl) rfl #[.slice (some ad) l.length (l.length + 3), .slice A1 l.length c1] rfl (by (try simp only [List.map_toArray, List.map_cons, List.map_nil]); first | done | rfl) ?_; (with_reducible refine (monikerplain_SameEdits.calls k _ _ l _ _ l true _ HS.out (by omega) HR1.out HC1.out HK.out).mono ?_); rintro e w' ⟨rfl, ⟨nd, rfl⟩⟩; refine ⟨_, rfl, ?_⟩)
  go_ret
  exact ⟨rfl, ⟨_, rfl⟩⟩
end Go.Proofs.Ytaihajmdngoeiaa.H

namespace Go.Proofs.Ytaihajmdngoeiaa.O
open Go.ChangeShapes Go.WideShapes Go.Deep Go.Proofs.YtaihajmdngoeiaaW.PrintWords

theorem mem_weightsAll {H : Type} {P : Program} {e : TypeId} : ∀ {l : List (DataW H)} {y : DataW H}, y ∈ l → ∀ n ∈ y.weights P e, n ∈ DataW.weightsAll P e l
  | y0 :: l, y, h, n, hn => by
    simp only [DataW.weightsAll, List.mem_append]
    rcases List.mem_cons.1 h with rfl | h
    · exact .inl hn
    · exact .inr (mem_weightsAll h n hn)

end Go.Proofs.Ytaihajmdngoeiaa.O

namespace Go.Proofs.Ytaihajmdngoeiaa.O
open Go.ChangeShapes Go.WideShapes Go.Deep Go.Proofs.YtaihajmdngoeiaaW.PrintWords Go.Proofs.Ytaihajmdngoeiaa
set_option linter.unusedVariables false

section
variable {H : Type} {enc : TypeId × Value → H}
/-- The wrap of a row with a condition of its specification's own, the reach handed on. -/
theorem returns_upto {a : Assume} {C : Checked} {os : Os} {f : FuncId} {fn : Func} {s : OpenSpec} {k : (H : Type) → List (DataW H) → Bool} (hk : s.cond = some k) {F : Stop.Interp} {conds : List PathCond} {apart fresh handsOn again : Bool}
    (own : ownKnob C.prog.godebug = none) (started : os.Started) (noInit : C.prog.inits.idxOf? f = none) (hfn : C.prog.funcs[f]? = some fn)
    (witness : ∃ (w : World) (tape : Tape) (i : Input), w.os = os ∧ (w.forCall tape i).Shaped C.prog ∧ i.vars = [] ∧ Input.okWide C.prog (w.forCall tape i) .any w.heap.size f i ∧
      s.pre6 enc C.prog fn conds apart (w.forCall tape i).memory i.args ∧ a.holds C.prog (lone (Frame.enter C.prog f i.args .normal) [] (w.forCall tape i)))
    (contract : ∀ (W : World) (base : Nat) (args : Array Value) (ds gs : List (DataW H)) (before : List MemPlace),
      (∀ (j : Nat) t v, fn.params[j]? = some t → args[j]? = some v → Value.okWide C.prog W .any base t v) →
      DataW.Whole enc C.prog fn.params.toList s.vars apart W args.toList ds gs before →
      conds.all (PathCond.test C.prog ⟨fn.params.toList, ds, s.bare.plain.varTypes C.prog, gs⟩) = true → k H (ds ++ gs) = true →
      (DataW.weightsEach C.prog (fn.params.toList ++ s.bare.plain.varTypes C.prog) (ds ++ gs)).all (· ≤ reachBytes) = true →
      a.holds C.prog (lone (Frame.enter C.prog f args .normal) [] W) →
      Calls C.prog f args W fun e W' => ∃ v, e = .returned v ∧ (s.at F).post enc C.prog fn apart fresh handsOn again W args v W') :
    ReturnsInHanded a C os f .any (s.pre6 enc C.prog fn conds apart) ((s.at F).post enc C.prog fn apart fresh handsOn again) := by
  refine returnsInHanded_of_calls own started noInit witness ?_
  intro w tape i _ _ _ hok hpre hholds
  obtain ⟨_, _, _, fn', hfn', _, _, _, _, hval⟩ := hok
  have e : fn' = fn := Option.some.inj (hfn'.symm.trans hfn)
  subst e
  obtain ⟨ds, gs, before, hw, hc, hkk⟩ := (OpenSpec.pre_some hk conds apart _ _).1 hpre.1
  have hw' := DataW.Whole.of_heap (w' := w.forCall tape i) (by rfl) hw
  have hz := hpre.2
  refine (contract (w.forCall tape i) w.heap.size i.args ds gs before hval hw' hc hkk (hz.weights hw) hholds).mono fun e W' ⟨v, he, hp⟩ => ?_
  subst he
  exact ChangeSpec.post_blind hp
end

theorem witnessU {H : Type} {enc : TypeId × Value → H} {C : Checked} {os : Os} {f : FuncId} {fn : Func} {s : OpenSpec} {k : (H : Type) → List (DataW H) → Bool} (hk : s.cond = some k) {conds : List PathCond} {apart : Bool} (modest : Bool) (i : Input) (fuel : Nat)
    (hv : (World.plainHolding C.prog os i).variablesB C.prog = true)
    (hr : ((World.plainHolding C.prog os i).heap.toList.drop C.prog.globals.size).take ((begin C.prog (fun _ _ => 0) default).world.heap.size - C.prog.globals.size) =
      (begin C.prog (fun _ _ => 0) default).world.heap.toList.drop C.prog.globals.size)
    (hok : Input.okWideB C.prog (World.plainHolding C.prog os i) f ⟨#[], i.args, []⟩ = true)
    (hB : (match DataW.whole enc C.prog (World.plainHolding C.prog os i).memory fn.params.toList s.vars apart i.args.toList fuel with
      | some x => conds.all (PathCond.test C.prog ⟨fn.params.toList, x.1, s.bare.plain.varTypes C.prog, x.2.1⟩) && k H (x.1 ++ x.2.1)
      | none => false) = true)
    (hsz : s.bare.sizedB enc C.prog fn apart (World.plainHolding C.prog os i).memory i.args fuel = true) :
    ∃ (w : World) (tape : Tape) (i : Input), w.os = os ∧ (w.forCall tape i).Shaped C.prog ∧ i.vars = [] ∧ Input.okWide C.prog (w.forCall tape i) .any w.heap.size f i ∧
      s.pre6 enc C.prog fn conds apart (w.forCall tape i).memory i.args ∧ ({ modest := modest } : Assume).holds C.prog (lone (Frame.enter C.prog f i.args .normal) [] (w.forCall tape i)) := by
  cases hx : DataW.whole enc C.prog (World.plainHolding C.prog os i).memory fn.params.toList s.vars apart i.args.toList fuel with
  | none => rw [hx] at hB; cases hB
  | some x =>
    rw [hx] at hB
    have h := (Bool.and_eq_true _ _).mp hB
    exact OpenSpec.witness hk modest i fuel hv hr hok hx h.1 h.2 hsz

/-- As Opens; and the value is no heavier than the reading's bulk. -/
def OpensU {α : Type} (P : Program) (t : TypeId) (d : Kd α) (B : α → Prop) (m : α → Nat) : Prop :=
  ∀ {H : Type} {enc : TypeId × Value → H} {w : World} {base : Nat} {spare : Nat → Bool} {held : Bool} {fuel : Nat} {cs : List Value} {x : DataW H × List MemPlace},
    DataW.trod enc P w base spare held fuel t cs = some x → (∀ n ∈ x.1.weights P t, n ≤ reachBytes) → ∃ a, d.K w a cs ∧ B a ∧ m a ≤ Rows.uptoBulk x.1

theorem opens_intU {P : Program} {t : TypeId} {k : IntKind} (hu : P.underlying t = some (.int k)) : OpensU P t (Kd.int k) (fun n => (Lit.int k n).wf = true) (fun _ => 1) := fun h _ => by
  obtain ⟨n, rfl, rfl, hw⟩ := DataW.trod_int hu h
  exact ⟨n, rfl, hw, by simp [Rows.uptoBulk]⟩
theorem opens_stringU {P : Program} {t : TypeId} (hu : P.underlying t = some .string) : OpensU P t Kd.string (fun s => s.size ≤ 140737488351232) (fun s => s.size + 1) := fun h hw => by
  obtain ⟨s, rfl, rfl, _⟩ := DataW.trod_string hu h
  have e : s.data.toList.length = s.size := by rw [Array.length_toList]; rfl
  refine ⟨s, rfl, ?_, by simp only [Rows.uptoBulk]; omega⟩
  have := hw s.data.toList.length (by simp [DataW.weights])
  rw [e] at this
  exact this

theorem bulkAll_snoc {H : Type} : ∀ (l : List (DataW H)) (d : DataW H), Rows.uptoBulkAll (l ++ [d]) = Rows.uptoBulkAll l + Rows.uptoBulk d
  | [], d => by simp [Rows.uptoBulkAll]
  | x :: l, d => by simp only [List.cons_append, Rows.uptoBulkAll, bulkAll_snoc l d]; omega
def sumM {α : Type} (m : α → Nat) : List α → Nat
  | [] => 0
  | a :: l => m a + sumM m l
theorem sumM_snoc {α : Type} (m : α → Nat) : ∀ (l : List α) (a : α), sumM m (l ++ [a]) = sumM m l + m a
  | [], a => by simp [sumM]
  | x :: l, a => by simp only [List.cons_append, sumM, sumM_snoc m l a]; omega

theorem open_rowU {α : Type} {P : Program} {t e : TypeId} {d : Kd α} {B : α → Prop} {M : α → Nat} (hu : P.underlying t = some (.slice e)) (he : OpensU P e d B M) (hc : P.cellsOf e = d.sz)
    {H : Type} {enc : TypeId × Value → H} {w : World} {base : Nat} {spare : Nat → Bool} {held : Bool} {fuel : Nat} {A : Option Addr} {n c : Nat} {x : DataW H × List MemPlace}
    (h : DataW.trod enc P w base spare held fuel t [.slice A n c] = some x) (hw : ∀ n ∈ x.1.weights P t, n ≤ reachBytes) :
    ∃ xs : List α, xs.length = n ∧ d.C w A n xs ∧ n ≤ c ∧ (A = none → c = 0) ∧ (∀ a ∈ xs, B a) ∧ n * P.bytesOf e ≤ 140737488351232 ∧ sumM M xs + 1 ≤ Rows.uptoBulk x.1 := by
  rcases open_slice hu h with ⟨hcs, rfl⟩ | ⟨a, len, cap, m, fu, D, Pl, hcs, hb, hl, hm, hmm, rfl, hel⟩
  · simp only [List.cons.injEq, Value.slice.injEq, and_true] at hcs
    obtain ⟨rfl, rfl, rfl⟩ := hcs
    exact ⟨[], rfl, ⟨rfl, by omega, fun h0 => absurd h0 (by omega)⟩, by omega, fun _ => rfl, (fun a ha => by cases ha), by omega, by simp [sumM, Rows.uptoBulk]⟩
  · simp only [List.cons.injEq, Value.slice.injEq, and_true] at hcs
    obtain ⟨rfl, rfl, rfl⟩ := hcs
    have hlm : n ≤ m := by rw [hmm]; split <;> omega
    have hex : ∀ i, i < n → ∃ v : α, (∃ cs, d.K w v cs ∧ ∀ j u, cs[j]? = some u → w.cell? (a.add (i * d.sz + j)) = some u) ∧ B v ∧ M v ≤ Rows.uptoBulk (D i) := by
      intro i hi
      obtain ⟨cs', hc1, hc2⟩ := hel i (by omega)
      have hmem : D i ∈ (List.range n).map D := List.mem_map.2 ⟨i, List.mem_range.2 hi, rfl⟩
      obtain ⟨v, hv, hB, hM⟩ := he hc2 (fun q hq => hw q (by
        simp only [DataW.weights, hu, List.mem_cons, List.mem_append]
        exact .inr (.inl (mem_weightsAll hmem q hq))))
      refine ⟨v, ⟨cs', hv, fun j u hj => ?_⟩, hB, hM⟩
      obtain ⟨_, hcl, hat⟩ := World.cells?_some hc1
      have hjl : j < cs'.length := (List.getElem?_eq_some_iff.1 hj).1
      have := hat j (by omega)
      rw [hc] at this
      rw [← Go.Deep.add_add, this, hj]
    have key : ∀ k, k ≤ n → ∃ xs : List α, xs.length = k ∧ (∀ j p, xs[j]? = some p → (∃ cs, cs.length = d.sz ∧ d.K w p cs ∧ ∀ i u, cs[i]? = some u → w.cell? (a.add (j * d.sz + i)) = some u) ∧ B p) ∧ sumM M xs ≤ Rows.uptoBulkAll ((List.range k).map D) := by
      intro k
      induction k with
      | zero => intro _; exact ⟨[], rfl, fun j p hj => by simp at hj, by simp [sumM]⟩
      | succ k ih =>
        intro hk
        obtain ⟨xs, hx, hxs, hsum⟩ := ih (by omega)
        obtain ⟨v, ⟨cs, hv, hcell⟩, hB, hM⟩ := hex k (by omega)
        refine ⟨xs ++ [v], by simp [hx], fun j p hj => ?_, ?_⟩
        · rcases Nat.lt_or_ge j k with hjk | hjk
          · rw [List.getElem?_append_left (by omega)] at hj
            exact hxs j p hj
          · have hjl := (List.getElem?_eq_some_iff.1 hj).1
            rw [List.length_append, List.length_singleton] at hjl
            obtain rfl : j = k := by omega
            have hp : v = p := by simpa [List.getElem?_append_right, hx] using hj
            subst hp
            exact ⟨⟨cs, d.K_len hv, hv, hcell⟩, hB⟩
        · rw [sumM_snoc, List.range_succ, List.map_append, List.map_cons, List.map_nil, bulkAll_snoc]
          omega
    obtain ⟨xs, hx, hxs, hsum⟩ := key n (Nat.le_refl _)
    refine ⟨xs, hx, ⟨hx, by have : maxLen = 9223372036854775807 := rfl; omega, fun _ => ⟨a, rfl, fun j p hj => (hxs j p hj).1⟩⟩, hl, (fun h => by cases h), fun v hv => ?_, ?_, ?_⟩
    · obtain ⟨j, hj, rfl⟩ := List.mem_iff_getElem.1 hv
      exact (hxs j _ (List.getElem?_eq_getElem hj)).2
    · have := hw ((((List.range n).map D).length + ((List.range (m - n)).map fun j => D (n + j)).length) * P.bytesOf e) (by
        simp only [DataW.weights, hu]
        exact List.mem_cons_self)
      simp only [List.length_map, List.length_range] at this
      have h2 : n * P.bytesOf e ≤ (n + (m - n)) * P.bytesOf e := Nat.mul_le_mul_right _ (by omega)
      have h3 : reachBytes = 140737488351232 := rfl
      omega
    · simp only [Rows.uptoBulk]
      omega
end Go.Proofs.Ytaihajmdngoeiaa.O

namespace Go.Proofs.Ytaihajmdngoeiaa.H
open Go.ChangeShapes Go.WideShapes Go.Deep Go.Proofs.YtaihajmdngoeiaaW.PrintWords Go.Proofs.Ytaihajmdngoeiaa.F

def B42 (x : S42) : Prop := (Lit.int .i64 x.f0).wf = true ∧ (Lit.int .i64 x.f1).wf = true ∧ x.f2.size ≤ 140737488351232
theorem cells42 : Try.prog.cellsOf 42 = 3 := by kernel_rfl
theorem cells3 : Try.prog.cellsOf 3 = 1 := by kernel_rfl
theorem cells9 : Try.prog.cellsOf 9 = 1 := by kernel_rfl
theorem bytes42 : Try.prog.bytesOf 42 = 32 := by kernel_rfl
end Go.Proofs.Ytaihajmdngoeiaa.H

namespace Go.Proofs.Ytaihajmdngoeiaa.H
open Go.ChangeShapes Go.WideShapes Go.Deep Go.Proofs.YtaihajmdngoeiaaW.PrintWords Go.Proofs.Ytaihajmdngoeiaa.F Go.Proofs.Ytaihajmdngoeiaa
theorem opens42U : O.OpensU Try.prog 42 k42 B42 (fun x => x.f2.size + 4) := by
  intro H enc w base spare held fuel cs x h hw
  obtain ⟨ys, n, rfl, rfl, hlen, hyl, hf⟩ := DataW.trod_struct Try.underlying42 h
  rw [cells42] at hlen
  obtain ⟨c0, c1, c2, rfl⟩ : ∃ a b c, cs = [a, b, c] := by
    match cs, hlen with
    | [a, b, c], _ => exact ⟨a, b, c, rfl⟩
  obtain ⟨y0, y1, y2, rfl⟩ : ∃ a b c, ys = [a, b, c] := by
    match ys, hyl with
    | [a, b, c], _ => exact ⟨a, b, c, rfl⟩
  have f0 := hf 0 { name := "From", type := 3, offset := 0, embedded := false, tag := "", pkgPath := "", byteOffset := 0 } rfl
  have f1 := hf 1 { name := "To", type := 3, offset := 1, embedded := false, tag := "", pkgPath := "", byteOffset := 8 } rfl
  have f2 := hf 2 { name := "Text", type := 9, offset := 2, embedded := false, tag := "", pkgPath := "", byteOffset := 16 } rfl
  simp only [cells3, cells9, List.drop_zero, List.drop_succ_cons, List.take_succ_cons, List.take_zero, List.getElem?_cons_zero, List.getElem?_cons_succ] at f0 f1 f2
  have hq : ∀ (j : Nat) (t : TypeId) (d : DataW H), [3, 3, 9][j]? = some t → [y0.1, y1.1, y2.1][j]? = some d → ∀ n ∈ d.weights Try.prog t, n ≤ reachBytes := by
    intro j t d h1 h2 q hq
    refine hw q ?_
    simp only [DataW.weights, Try.underlying42]
    exact DataW.weights_mem_each (j := j) h1 h2 q hq
  obtain ⟨a0, e0, w0, m0⟩ := O.opens_intU Try.underlying3 f0 (hq 0 _ _ rfl rfl)
  obtain rfl : c0 = .int .i64 a0 := (List.cons.inj e0).1
  obtain ⟨a1, e1, w1, m1⟩ := O.opens_intU Try.underlying3 f1 (hq 1 _ _ rfl rfl)
  obtain rfl : c1 = .int .i64 a1 := (List.cons.inj e1).1
  obtain ⟨a2, e2, w2, m2⟩ := O.opens_stringU Try.underlying9 f2 (hq 2 _ _ rfl rfl)
  obtain rfl : c2 = .string a2 := (List.cons.inj e2).1
  refine ⟨⟨a0, a1, a2⟩, k42_mk w _, ⟨w0, w1, w2⟩, ?_⟩
  show a2.size + 4 ≤ Rows.uptoBulk (DataW.agg [y0.1, y1.1, y2.1])
  simp only [Rows.uptoBulk, Rows.uptoBulkAll]
  simp only at m0 m1 m2
  generalize Rows.uptoBulk y0.1 = z0 at m0 ⊢
  generalize Rows.uptoBulk y1.1 = z1 at m1 ⊢
  generalize Rows.uptoBulk y2.1 = z2 at m2 ⊢
  omega
end Go.Proofs.Ytaihajmdngoeiaa.H

namespace Go.Proofs.Ytaihajmdngoeiaa.L
open Go.RowKit Go.Proofs.YtaihajmdngoeiaaW.PrintWords Go.Proofs.YtaihajmdngoeiaaW.PrintLast Go.Proofs.YtaihajmdngoeiaaW.PrintMore
open Go.Proofs.Ytaihajmdngoeiaa.F Go.Proofs.Ytaihajmdngoeiaa.H
set_option linter.unusedVariables false
set_option linter.unusedSimpArgs false

theorem sz_wt : ∀ (l : List S42), Q.sz l + 4 * l.length = O.sumM (fun x => x.f2.size + 4) l
  | [] => rfl
  | x :: l => by
    have := sz_wt l
    simp only [Q.sz, O.sumM, List.length_cons]
    omega
set_option maxHeartbeats 1000000 in
theorem merges_walk (a0 : Int) (A1 : Option Addr) (c1 : Nat) (l1 : List S42) (A2 : Option Addr) (c2 : Nat) (l2 : List S42) (w : World) (h0 : (Lit.int .i64 a0).wf = true)
    (hr1 : Kd.C k42 w A1 l1.length l1) (hc1 : l1.length ≤ c1) (hn1 : A1 = none → c1 = 0) (hB1 : ∀ x ∈ l1, B42 x) (hb1 : l1.length * 32 ≤ 140737488351232)
    (hr2 : Kd.C k42 w A2 l2.length l2) (hc2 : l2.length ≤ c2) (hn2 : A2 = none → c2 = 0) (hB2 : ∀ x ∈ l2, B42 x) (hb2 : l2.length * 32 ≤ 140737488351232)
    (hu : 1 + ((O.sumM (fun x => x.f2.size + 4) l1 + 1) + (O.sumM (fun x => x.f2.size + 4) l2 + 1)) ≤ 1048576) :
    Calls Try.prog 9 #[.int .i64 a0, .slice A1 l1.length c1, .slice A2 l2.length c2] w fun e w' => e = .returned (.bool true) ∧ Below w.heap.size w w' := by
  rw [← sz_wt, ← sz_wt] at hu
  have hsz : Q.sz l1 + Q.sz l2 ≤ 1000000000 := by omega
  obtain ⟨k', hk'⟩ := (Q.RMerge_is a0 l1 l2 hsz).rounds
  obtain ⟨r, n, hrn⟩ : ∃ r n, Q.Mspec a0 l1 l2 = (r, n) := ⟨_, _, rfl⟩
  have hk : edits_Merge.f 0 a0 l1 l2 = some (r, n) := by unfold edits_Merge.f; rw [if_pos hsz, hrn]
  simp only [hrn] at hk'
  clear hrn hB1 hB2 h0 hsz hu
  have HK := Aside0.mk hk
  have HK' := Aside0.mk hk'
  have HR1 := Aside0.mk hr1
  have HC1 := Aside0.mk hc1
  have HN1 := Aside0.mk hn1
  have HR2 := Aside0.mk hr2
  have HC2 := Aside0.mk hc2
  have HN2 := Aside0.mk hn2
  clear hk hk' hr1 hc1 hn1 hr2 hc2 hn2
  go_enter Try.func9, Try.ntmps9
  go_wp2_with fail
  refine (lent_calls A1 c1 l1 _ HR1.out HC1.out HN1.out hb1).mono ?_
  rintro e w1 ⟨Al, rfl, hC1, hB1⟩
  have HL1 := Aside0.mk hC1
  have HB1 := Aside0.mk hB1
  clear hC1 hB1
  go_wp2_with fail
  refine (lent_calls A2 c2 l2 _ (Kd.C_below HR2.out HB1.out) HC2.out HN2.out hb2).mono ?_
  rintro e w2 ⟨Am, rfl, hC2, hB2⟩
  have HL2 := Aside0.mk hC2
  have HB2 := Aside0.mk hB2
  clear hC2 hB2
  go_wp2_with fail
  refine (edits_Merge.calls 0 a0 Al (l1.length + 3) l1 Am (l2.length + 3) l2 r n _ (Kd.C_lent (Kd.C_below HL1.out HB2.out)) (by omega) (Kd.C_lent HL2.out) (by omega) HK.out).mono ?_
  rintro e w3 ⟨vx, rfl, hx, hb3⟩
  obtain ⟨Ax, cx, rfl, hcx, hCx⟩ := Kd.R_reads hx
  have HX := Aside0.mk hCx
  have HCX := Aside0.mk hcx
  have HB3 := Aside0.mk hb3
  clear hb3 hx hCx hcx
  go_wp2_with fail
  refine (monikerref1_Merge.calls k' a0 A1 c1 l1 A2 c2 l2 r n _ (Kd.C_below (Kd.C_below (Kd.C_below HR1.out HB1.out) HB2.out) HB3.out) HC1.out (Kd.C_below (Kd.C_below (Kd.C_below HR2.out HB1.out) HB2.out) HB3.out) HC2.out HK'.out).mono ?_
  rintro e w4 ⟨vy, rfl, hy, hb4⟩
  obtain ⟨Ay, cy, rfl, hcy, hCy⟩ := Kd.R_reads hy
  have HY := Aside0.mk hCy
  have HCY := Aside0.mk hcy
  have HB4 := Aside0.mk hb4
  clear hb4 hy hCy hcy
  go_wp2_with fail
  obtain ⟨ks, hks⟩ := (Q.same_is r (Kd.C_max HX.out)).rounds
  have HS := Aside0.mk hks
  clear hks
  refine (monikerplain_SameEdits.calls ks Ax cx r Ay cy r true _ (Kd.C_below HX.out HB4.out) HCX.out HY.out HCY.out HS.out).mono ?_
  rintro e w5 ⟨rfl, hb5⟩
  have HB5 := Aside0.mk hb5.below
  clear hb5
  go_wp2_with fail
  refine (kept_calls Al A1 c1 l1 _ (Kd.C_below (Kd.C_below (Kd.C_below (Kd.C_below HL1.out HB2.out) HB3.out) HB4.out) HB5.out) (Kd.C_below (Kd.C_below (Kd.C_below (Kd.C_below (Kd.C_below HR1.out HB1.out) HB2.out) HB3.out) HB4.out) HB5.out) HC1.out (by omega)).mono ?_
  rintro e w6 ⟨rfl, hb6⟩
  have HB6 := Aside0.mk hb6.below
  clear hb6
  go_wp2_with fail
  refine (kept_calls Am A2 c2 l2 _ (Kd.C_below (Kd.C_below (Kd.C_below (Kd.C_below HL2.out HB3.out) HB4.out) HB5.out) HB6.out) (Kd.C_below (Kd.C_below (Kd.C_below (Kd.C_below (Kd.C_below (Kd.C_below HR2.out HB1.out) HB2.out) HB3.out) HB4.out) HB5.out) HB6.out) HC2.out (by omega)).mono ?_
  rintro e w7 ⟨rfl, hb7⟩
  have HB7 := Aside0.mk hb7.below
  clear hb7
  go_wp2_with fail
  go_ret
  exact ⟨rfl, below_step (below_step (below_step (below_step (below_step (below_step HB1.out HB2.out) HB3.out) HB4.out) HB5.out) HB6.out) HB7.out⟩
end Go.Proofs.Ytaihajmdngoeiaa.L


namespace Go.Proofs.Ytaihajmdngoeiaa.editsMerges
open Go.ChangeShapes Go.WideShapes Go.ChangeAt Go.RowKit Go.Proofs.Ytaihajmdngoeiaa
open Go.ChangeMaps (open_string shut_string)
set_option linter.unusedVariables false
theorem own : ownKnob Try.prog.godebug = none := by kernel_rfl
theorem laidOut : laidOutB Try.prog = true := by kernel_rfl
set_option maxRecDepth 100000 in
theorem lifted (os : Os) (started : os.Started) (H : Type) (enc : TypeId × Value → H) (F : Stop.Interp) :
    ReturnsInHanded {} Try.checked os 9 .any ((Rows.OpenSpec.upto Rows.editsMergesSpec).pre6 enc Try.prog Try.f9 Rows.editsMergesUptoRow.domain false) (((Rows.OpenSpec.upto Rows.editsMergesSpec).at F).post enc Try.prog Try.f9 false true false false) := by
  refine O.returns_upto (k := Rows.uptoSmall) (s := Rows.OpenSpec.upto Rows.editsMergesSpec) rfl (C := Try.checked) own started (by kernel_rfl) Try.func9
    (O.witnessU (enc := enc) (C := Try.checked) (s := Rows.OpenSpec.upto Rows.editsMergesSpec) rfl false ⟨#[], #[.int .i64 0, .slice none 0 0, .slice none 0 0], []⟩ 8 (by kernel_rfl) (by kernel_rfl) (by kernel_rfl) (by kernel_rfl) (by kernel_rfl)) ?_
  intro W base args ds gs before hval0 hW hcnd hk0 hsz0 _
  have hsz : (DataW.weightsEach Try.prog (Try.f9.params.toList ++ Rows.editsMergesSpec.plain.varTypes Try.prog) (ds ++ gs)).all (· ≤ reachBytes) = true := hsz0
  have hval : ∀ (j : Nat) t v, Try.f9.params[j]? = some t → args[j]? = some v → Value.okWide Try.prog W .any base t v := hval0
  have hW' := hW
  obtain ⟨p, q, hA0, hV, rfl, hfz, hnd⟩ := hW
  have hA : DataW.TrodAll enc Try.prog W 0 (fun _ => true) true Try.f9.params.toList args.toList ds p := hA0
  rw [Try.params9] at hA hval hsz
  obtain ⟨v0, vs0, d0, ds0, p0, q0, hargs, rfl, rfl, h0, r0⟩ := trodAll_cons hA
  obtain ⟨v1, vs1, d1, ds1, p1, q1, rfl, rfl, rfl, h1, r1⟩ := trodAll_cons r0
  obtain ⟨v2, vs2, d2, ds2, p2, q2, rfl, rfl, rfl, h2, r2⟩ := trodAll_cons r1
  obtain ⟨rfl, rfl, rfl⟩ := trodAll_nil r2
  obtain rfl : args = #[v0, v1, v2] := by cases args; simp_all
  obtain ⟨rfl, rfl⟩ := trodVars_none hV
  have hbulk : Rows.uptoBulkAll ([d0, d1, d2] ++ []) ≤ 1048576 := of_decide_eq_true hk0
  simp only [List.append_nil, Rows.uptoBulkAll, Nat.add_zero] at hbulk
  obtain ⟨a0, rfl, rfl, rfl, w0⟩ := open_int Try.underlying3 (hval 0 3 v0 rfl rfl) h0
  have hm0 : 1 ≤ Rows.uptoBulk (DataW.lit (H := H) (.int .i64 a0)) := by simp only [Rows.uptoBulk]; exact Nat.le_refl _
  obtain ⟨a1, len1, cap1, rfl⟩ := okWide_slice Try.underlying22 (hval 1 22 v1 rfl rfl)
  have k1 := h1
  have lt1 : ∀ x ∈ p1, x.block < W.heap.size := by obtain ⟨m, hm⟩ := k1; exact DataW.trod_lt m _ _ _ hm
  obtain ⟨fu1, hf1⟩ := h1
  have hg1 : DataW.trod enc Try.prog W 0 (fun _ => true) true fu1 22 [.slice a1 len1 cap1] = some (d1, p1) := by simpa [Value.cells] using hf1
  have hq1 : ∀ n ∈ DataW.weights Try.prog 22 d1, n ≤ reachBytes := fun n hn => of_decide_eq_true (List.all_eq_true.1 hsz n (DataW.weights_mem_each (j := 1) rfl rfl n hn))
  obtain ⟨l1, rfl, hC1, hc1, hn1, hB1, hb1, hm1⟩ := O.open_rowU Try.underlying22 Go.Proofs.Ytaihajmdngoeiaa.H.opens42U Go.Proofs.Ytaihajmdngoeiaa.H.cells42 hg1 hq1
  rw [Go.Proofs.Ytaihajmdngoeiaa.H.bytes42] at hb1
  obtain ⟨a2, len2, cap2, rfl⟩ := okWide_slice Try.underlying22 (hval 2 22 v2 rfl rfl)
  have k2 := h2
  have lt2 : ∀ x ∈ p2, x.block < W.heap.size := by obtain ⟨m, hm⟩ := k2; exact DataW.trod_lt m _ _ _ hm
  obtain ⟨fu2, hf2⟩ := h2
  have hg2 : DataW.trod enc Try.prog W 0 (fun _ => true) true fu2 22 [.slice a2 len2 cap2] = some (d2, p2) := by simpa [Value.cells] using hf2
  have hq2 : ∀ n ∈ DataW.weights Try.prog 22 d2, n ≤ reachBytes := fun n hn => of_decide_eq_true (List.all_eq_true.1 hsz n (DataW.weights_mem_each (j := 2) rfl rfl n hn))
  obtain ⟨l2, rfl, hC2, hc2, hn2, hB2, hb2, hm2⟩ := O.open_rowU Try.underlying22 Go.Proofs.Ytaihajmdngoeiaa.H.opens42U Go.Proofs.Ytaihajmdngoeiaa.H.cells42 hg2 hq2
  rw [Go.Proofs.Ytaihajmdngoeiaa.H.bytes42] at hb2
  clear hA0 hval0 hsz0 hsz
  refine (L.merges_walk a0 a1 cap1 l1 a2 cap2 l2 W w0 hC1 hc1 hn1 hB1 hb1 hC2 hc2 hn2 hB2 hb2 (Nat.le_trans (Nat.add_le_add hm0 (Nat.add_le_add hm1 hm2)) hbulk)).mono fun e W' ⟨he, bel⟩ => ?_
  subst he
  exact ⟨_, rfl, _, _, _, [], _, [], hW', trodAll_mk1 (shut_bool Try.underlying4 _), (trodAll_cons_mk (shut_int Try.underlying3 w0) (trodAll_cons_mk (Below.trod laidOut (by kernel_rfl) (of_decide_eq_true (by kernel_rfl)) k1 bel lt1) (trodAll_cons_mk (Below.trod laidOut (by kernel_rfl) (of_decide_eq_true (by kernel_rfl)) k2 bel lt2) trodAll_mk0))), rfl, bel.frame _, fun h => by cases h⟩
theorem over : Rows.editsMergesUptoRow.holds Try.pinned (Rows.OpenSpec.upto Rows.editsMergesSpec) :=
  OpenClaim.holds_of_cond 9 Try.f9 rfl rfl rfl rfl rfl rfl rfl ⟨rfl, rfl, rfl, rfl, rfl⟩ rfl rfl rfl rfl rfl (by kernel_rfl) Try.func9 (by kernel_rfl)
    (of_decide_eq_true (by kernel_rfl)) (by unfold Func.isWrapper; first | (rw [if_pos (by decide +kernel)]; kernel_rfl) | (rw [if_neg (by decide +kernel)]; exact ⟨rfl, rfl⟩))
    (fun os started H enc _ F => lifted os started H enc F)
theorem proved : Rows.EditsMergesUptoSaid := over
#print axioms proved
end Go.Proofs.Ytaihajmdngoeiaa.editsMerges
namespace Go.Proofs.Ytaihajmdngoeiaa
/-- The row, under a short name, for the claim. -/
theorem editsMerges_holds : Rows.EditsMergesUptoSaid := editsMerges.proved
end Go.Proofs.Ytaihajmdngoeiaa
