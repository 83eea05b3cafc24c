import Derived.Test.YtaihajmdngoeiaaQInvert
import Derived.Test.YtaihajmdngoeiaaF28
import Derived.Test.YtaihajmdngoeiaaF29
import Derived.Lib.Strings
namespace Go.Proofs.Ytaihajmdngoeiaa.Q
open Go.RowKit Go.Proofs.YtaihajmdngoeiaaW.PrintWords Go.Proofs.YtaihajmdngoeiaaW.PrintLast Go.Proofs.YtaihajmdngoeiaaW.PrintMore
open Go.Proofs.Ytaihajmdngoeiaa.F

theorem bt_in (s : ByteArray) (i : Nat) (h : i < s.size) : bt s (i : Int) = ((s[i]'h).toNat : Int) := (bt_at s (i : Int) (by simpa using h)).symm
theorem bt_cut (s : ByteArray) (a b i : Nat) (h : i < (s.extract a b).size) : bt (s.extract a b) (i : Int) = bt s ((a + i : Nat) : Int) := by
  have h2 : a + i < s.size := by rw [ByteArray.size_extract] at h; omega
  rw [bt_in _ _ h, bt_in _ _ h2, ByteArray.getElem_extract]
theorem toList_nil (s : ByteArray) : s.toList = ([] : List UInt8) ↔ s.size = 0 := by
  rw [Lib.toList_data, Lib.size_eq]
  constructor
  · intro h; rw [h]; rfl
  · intro h; exact List.eq_nil_of_length_eq_zero h

/-- The first number from i on, of m at most, at which P does not hold. -/
def cnt (P : Nat → Bool) : Nat → Nat → Nat
  | 0, i => i
  | m + 1, i => if P i = true then cnt P m (i + 1) else i
theorem cnt_spec (P : Nat → Bool) (M : Nat) (hM : ∀ i, P i = true → i < M) : ∀ m i, M ≤ i + m → (∀ j, i ≤ j → j < cnt P m i → P j = true) ∧ P (cnt P m i) = false ∧ i ≤ cnt P m i
  | 0, i, h => by
    refine ⟨fun j h1 h2 => by simp only [cnt] at h2; omega, ?_, Nat.le_refl _⟩
    simp only [cnt]
    cases hp : P i
    · rfl
    · have := hM i hp; omega
  | m + 1, i, h => by
    simp only [cnt]
    cases hp : P i
    · rw [if_neg (by simp)]
      exact ⟨fun j h1 h2 => by omega, hp, Nat.le_refl _⟩
    · rw [if_pos rfl]
      obtain ⟨h1, h2, h3⟩ := cnt_spec P M hM m (i + 1) (by omega)
      refine ⟨fun j hj1 hj2 => ?_, h2, by omega⟩
      rcases Nat.lt_or_ge i j with h | h
      · exact h1 j h hj2
      · obtain rfl : i = j := by omega
        exact hp

theorem wsub (a j : Nat) (h : j < a) (ha : a ≤ 140737488351232) : wrap64 (wrap64 ((a : Int) - 1) - (j : Int)) = ((a - 1 - j : Nat) : Int) := by rw [w64 (x := (a : Int) - 1) (by omega) (by omega), w64] <;> omega
theorem wminus (a j : Nat) (h : j < a) (ha : a ≤ 140737488351232) : wrap64 (((a - j : Nat) : Int) - 1) = ((a - 1 - j : Nat) : Int) := by rw [w64] <;> omega
theorem wsucc (j : Nat) (ha : j ≤ 140737488351232) : wrap64 ((j : Int) + 1) = ((j + 1 : Nat) : Int) := by rw [w64] <;> omega
theorem bt_back (s : ByteArray) (f t j : Nat) (hts : t ≤ s.size) (h : j < t - f) : bt (s.extract f t) ((t - f - 1 - j : Nat) : Int) = bt s ((t - 1 - j : Nat) : Int) := by
  rw [bt_cut _ _ _ _ (by rw [ByteArray.size_extract]; omega), show f + (t - f - 1 - j) = t - 1 - j by omega]
theorem bt_end (x : ByteArray) (j : Nat) (h : j < x.size) : bt (x.extract 0 (x.size - j)) ((x.size - 1 - j : Nat) : Int) = bt x ((x.size - 1 - j : Nat) : Int) := by
  rw [bt_cut _ _ _ _ (by rw [ByteArray.size_extract]; omega), Nat.zero_add]
def preB (s x : ByteArray) (f t i : Nat) : Bool := decide (i < t - f) && (decide (i < x.size) && (bt s ((f + i : Nat) : Int) == bt x (i : Int)))
def sufB (s x : ByteArray) (f t i : Nat) : Bool := decide (i < t - f) && (decide (i < x.size) && (bt s ((t - 1 - i : Nat) : Int) == bt x ((x.size - 1 - i : Nat) : Int)))
def preN (s x : ByteArray) (f t : Nat) : Nat := cnt (preB s x f t) (t - f) 0
def sufN (s x : ByteArray) (f t : Nat) : Nat := cnt (sufB s x f t) (t - f) 0
theorem pre_spec (s x : ByteArray) (f t : Nat) : (∀ j, j < preN s x f t → preB s x f t j = true) ∧ preB s x f t (preN s x f t) = false := by
  obtain ⟨h1, h2, _⟩ := cnt_spec (preB s x f t) (t - f) (fun i h => by unfold preB at h; simp at h; omega) (t - f) 0 (by omega)
  exact ⟨fun j hj => h1 j (Nat.zero_le _) hj, h2⟩
theorem suf_spec (s x : ByteArray) (f t : Nat) : (∀ j, j < sufN s x f t → sufB s x f t j = true) ∧ sufB s x f t (sufN s x f t) = false := by
  obtain ⟨h1, h2, _⟩ := cnt_spec (sufB s x f t) (t - f) (fun i h => by unfold sufB at h; simp at h; omega) (t - f) 0 (by omega)
  exact ⟨fun j hj => h1 j (Nat.zero_le _) hj, h2⟩
theorem pre_le (s x : ByteArray) (f t : Nat) : preN s x f t ≤ t - f ∧ preN s x f t ≤ x.size := by
  rcases Nat.eq_zero_or_pos (preN s x f t) with h | h
  · omega
  · have := (pre_spec s x f t).1 (preN s x f t - 1) (by omega)
    unfold preB at this
    simp at this
    omega
theorem suf_le (s x : ByteArray) (f t : Nat) : sufN s x f t ≤ t - f ∧ sufN s x f t ≤ x.size := by
  rcases Nat.eq_zero_or_pos (sufN s x f t) with h | h
  · omega
  · have := (suf_spec s x f t).1 (sufN s x f t - 1) (by omega)
    unfold sufB at this
    simp at this
    omega

/-- What is left of an edit of the places f to t. -/
def cutE (f t : Nat) (x : ByteArray) (q : Nat) : List S42 := if (f : Int) < ((t - q : Nat) : Int) ∨ ¬ (x.extract 0 (x.size - q)).toList = ([] : List UInt8) then [⟨(f : Int), ((t - q : Nat) : Int), x.extract 0 (x.size - q)⟩] else []
def normE (s x : ByteArray) (f t : Nat) : List S42 :=
  cutE (f + preN s x f t) t (x.extract (preN s x f t) x.size) (sufN s (x.extract (preN s x f t) x.size) (f + preN s x f t) t)
theorem normE_len (s x : ByteArray) (f t : Nat) : (normE s x f t).length ≤ 1 := by unfold normE cutE; split <;> simp

section
variable (s : ByteArray) (hs : s.size ≤ 140737488351232) (l : List S42) (x : ByteArray) (hx : x.size ≤ 140737488351232) (f t : Nat) (hft : f ≤ t) (hts : t ≤ s.size) (r : List S42 × Int)
include hs hx hft hts

theorem e_l2 (out : List S42) (i : Int) (ho : out.length < 4398046511104) (hr : Ev (fun k => edits_Normal.l0 k s (out ++ cutE f t x (sufN s x f t)) l (l.length : Int) (wrap64 (i + 1))) r) :
    ∀ d j, j ≤ sufN s x f t → sufN s x f t - j = d → Ev (fun k => edits_Normal.l2 k s out (s.extract f t) (j : Int) l (l.length : Int) i (f : Int) (t : Int) x) r := by
  have hsz : (s.extract f t).size = t - f := by rw [ByteArray.size_extract]; omega
  obtain ⟨hl1, hl2⟩ := suf_le s x f t
  obtain ⟨sp1, sp2⟩ := suf_spec s x f t
  generalize sufN s x f t = q at *
  have hfin : ∀ k, edits_Normal.j4 (k + 1) s out (s.extract f t) (q : Int) l (l.length : Int) i false (f : Int) (t : Int) x = edits_Normal.l0 k s (out ++ cutE f t x q) l (l.length : Int) (wrap64 (i + 1)) := by
    intro k
    have e1 := Aside0.mk (show wrap64 ((x.size : Int) - (q : Int)) = ((x.size - q : Nat) : Int) from by rw [w64] <;> omega)
    have e2 := Aside0.mk (show wrap64 ((t : Int) - (q : Int)) = ((t - q : Nat) : Int) from by rw [w64] <;> omega)
    simp only [edits_Normal.j4, e1.out, e2.out, Int.toNat_natCast]
    rw [if_neg (by simp), if_pos (by omega), if_pos (by omega)]
    unfold cutE
    by_cases c1 : (f : Int) < ((t - q : Nat) : Int)
    · rw [if_pos c1, if_pos ho, if_pos (.inl c1)]
    · rw [if_neg c1]
      by_cases c2 : (x.extract 0 (x.size - q)).toList = ([] : List UInt8)
      · rw [if_pos c2, if_neg (fun h => h.elim c1 (fun h => h c2)), List.append_nil]
      · rw [if_neg c2, if_pos ho, if_pos (.inr c2)]
  intro d
  induction d with
  | zero =>
    intro j h1 h2
    obtain rfl : j = q := by omega
    obtain ⟨K, hK⟩ := hr
    unfold sufB at sp2
    have hc : (j : Int) < ((t - f : Nat) : Int) → (j : Int) < (x.size : Int) → bt s ((t - 1 - j : Nat) : Int) ≠ bt x ((x.size - 1 - j : Nat) : Int) := by
      intro a b c
      simp only [c, beq_self_eq_true, Bool.and_true, Bool.and_eq_false_iff, decide_eq_false_iff_not] at sp2
      clear c
      omega
    have HC := Aside0.mk hc
    clear hc sp2
    refine ⟨K + 2, fun n hn => ?_⟩
    obtain ⟨k, rfl⟩ : ∃ m, n = m + 2 := ⟨n - 2, by omega⟩
    have g := hK k (by omega)
    simp only at g
    simp only [edits_Normal.l2, hsz]
    by_cases a : (j : Int) < ((t - f : Nat) : Int)
    · rw [if_pos a]
      by_cases b : (j : Int) < (x.size : Int)
      · have A0 : j < t - f := by omega
        have B0 : j < x.size := by omega
        have e1 := Aside0.mk (show wrap64 (wrap64 (((t - f : Nat) : Int) - 1) - (j : Int)) = ((t - f - 1 - j : Nat) : Int) from wsub (t - f) j A0 (by omega))
        have e2 := Aside0.mk (show wrap64 (wrap64 ((x.size : Int) - 1) - (j : Int)) = ((x.size - 1 - j : Nat) : Int) from wsub x.size j B0 hx)
        have e3 : bt (s.extract f t) ((t - f - 1 - j : Nat) : Int) = bt s ((t - 1 - j : Nat) : Int) := bt_back s f t j hts A0
        rw [if_pos b, e1.out, e2.out, if_pos (by omega), if_pos (by omega), if_pos (by omega), if_pos (by omega), e3, show (bt s ((t - 1 - j : Nat) : Int) == bt x ((x.size - 1 - j : Nat) : Int)) = false by simpa using HC.out a b, hfin]
        exact g
      · rw [if_neg b, hfin]
        exact g
    · rw [if_neg a, hfin]
      exact g
  | succ d ih =>
    intro j h1 h2
    obtain ⟨K, hK⟩ := ih (j + 1) (by omega) (by omega)
    have hp := sp1 j (by omega)
    unfold sufB at hp
    simp only [Bool.and_eq_true, decide_eq_true_eq] at hp
    obtain ⟨a, b, c⟩ := hp
    have C := Aside0.mk c
    clear c ih hr sp1 sp2
    have A0 : j < t - f := a
    have B0 : j < x.size := b
    have hw := Aside0.mk (show wrap64 ((j : Int) + 1) = ((j + 1 : Nat) : Int) from wsucc j (by omega))
    have e1 := Aside0.mk (show wrap64 (wrap64 (((t - f : Nat) : Int) - 1) - (j : Int)) = ((t - f - 1 - j : Nat) : Int) from wsub (t - f) j A0 (by omega))
    have e2 := Aside0.mk (show wrap64 (wrap64 ((x.size : Int) - 1) - (j : Int)) = ((x.size - 1 - j : Nat) : Int) from wsub x.size j B0 hx)
    have e3 : bt (s.extract f t) ((t - f - 1 - j : Nat) : Int) = bt s ((t - 1 - j : Nat) : Int) := bt_back s f t j hts A0
    have a' : (j : Int) < ((t - f : Nat) : Int) := by omega
    have b' : (j : Int) < (x.size : Int) := by omega
    have b1 : (0 : Int) ≤ ((t - f - 1 - j : Nat) : Int) := by omega
    have b2 : ((t - f - 1 - j : Nat) : Int) < ((t - f : Nat) : Int) := by omega
    have b3 : (0 : Int) ≤ ((x.size - 1 - j : Nat) : Int) := by omega
    have b4 : ((x.size - 1 - j : Nat) : Int) < (x.size : Int) := by omega
    refine ⟨K + 2, fun n hn => ?_⟩
    obtain ⟨k, rfl⟩ : ∃ m, n = m + 2 := ⟨n - 2, by omega⟩
    have g := hK k (by omega)
    simp only at g
    simp only [edits_Normal.l2, hsz]
    rw [if_pos a', if_pos b', e1.out, e2.out, if_pos b1, if_pos b2, if_pos b3, if_pos b4, e3, C.out]
    simp only [edits_Normal.j4, hw.out]
    rw [if_pos trivial]
    exact g

theorem e_l1 (out : List S42) (i : Int)
    (hr : Ev (fun k => edits_Normal.l2 k s out (s.extract (f + preN s x f t) t) 0 l (l.length : Int) i ((f + preN s x f t : Nat) : Int) (t : Int) (x.extract (preN s x f t) x.size)) r) :
    ∀ d j, j ≤ preN s x f t → preN s x f t - j = d → Ev (fun k => edits_Normal.l1 k s out (s.extract f t) (j : Int) l (l.length : Int) i (f : Int) (t : Int) x) r := by
  have hsz : (s.extract f t).size = t - f := by rw [ByteArray.size_extract]; omega
  obtain ⟨hl1, hl2⟩ := pre_le s x f t
  obtain ⟨sp1, sp2⟩ := pre_spec s x f t
  generalize preN s x f t = q at *
  have hfin : ∀ k, edits_Normal.j2 (k + 1) s out (s.extract f t) (q : Int) l (l.length : Int) i false (f : Int) (t : Int) x = edits_Normal.l2 k s out (s.extract (f + q) t) 0 l (l.length : Int) i ((f + q : Nat) : Int) (t : Int) (x.extract q x.size) := by
    intro k
    have e1 := Aside0.mk (show wrap64 ((f : Int) + (q : Int)) = ((f + q : Nat) : Int) from by rw [w64] <;> omega)
    simp only [edits_Normal.j2, hsz, e1.out, Int.toNat_natCast]
    rw [if_neg (by simp), if_pos (by omega), if_pos (by omega), if_pos (by omega), ByteArray.extract_extract, show min (f + (t - f)) t = t by omega]
  intro d
  induction d with
  | zero =>
    intro j h1 h2
    obtain rfl : j = q := by omega
    obtain ⟨K, hK⟩ := hr
    unfold preB at sp2
    have hc : (j : Int) < ((t - f : Nat) : Int) → (j : Int) < (x.size : Int) → bt s ((f + j : Nat) : Int) ≠ bt x (j : Int) := by
      intro a b c
      simp only [c, beq_self_eq_true, Bool.and_true, Bool.and_eq_false_iff, decide_eq_false_iff_not] at sp2
      clear c
      omega
    have HC := Aside0.mk hc
    clear hc sp2
    refine ⟨K + 2, fun n hn => ?_⟩
    obtain ⟨k, rfl⟩ : ∃ m, n = m + 2 := ⟨n - 2, by omega⟩
    have g := hK k (by omega)
    simp only at g
    simp only [edits_Normal.l1, hsz]
    by_cases a : (j : Int) < ((t - f : Nat) : Int)
    · rw [if_pos a]
      by_cases b : (j : Int) < (x.size : Int)
      · have e3 : bt (s.extract f t) (j : Int) = bt s ((f + j : Nat) : Int) := bt_cut _ _ _ _ (by omega)
        rw [if_pos b, if_pos (by omega), e3, show (bt s ((f + j : Nat) : Int) == bt x (j : Int)) = false by simpa using HC.out a b, hfin]
        exact g
      · rw [if_neg b, hfin]
        exact g
    · rw [if_neg a, hfin]
      exact g
  | succ d ih =>
    intro j h1 h2
    obtain ⟨K, hK⟩ := ih (j + 1) (by omega) (by omega)
    have hp := sp1 j (by omega)
    unfold preB at hp
    simp only [Bool.and_eq_true, decide_eq_true_eq] at hp
    obtain ⟨a, b, c⟩ := hp
    have C := Aside0.mk c
    clear c ih hr sp1 sp2
    have A0 : j < t - f := a
    have B0 : j < x.size := b
    have hw := Aside0.mk (show wrap64 ((j : Int) + 1) = ((j + 1 : Nat) : Int) from wsucc j (by omega))
    have e3 : bt (s.extract f t) (j : Int) = bt s ((f + j : Nat) : Int) := bt_cut _ _ _ _ (by omega)
    have a' : (j : Int) < ((t - f : Nat) : Int) := by omega
    have b' : (j : Int) < (x.size : Int) := by omega
    have b1 : (0 : Int) ≤ (j : Int) := by omega
    refine ⟨K + 2, fun n hn => ?_⟩
    obtain ⟨k, rfl⟩ : ∃ m, n = m + 2 := ⟨n - 2, by omega⟩
    have g := hK k (by omega)
    simp only at g
    simp only [edits_Normal.l1, hsz]
    rw [if_pos a', if_pos b', if_pos b1, e3, C.out]
    simp only [edits_Normal.j2, hw.out]
    rw [if_pos trivial]
    exact g

theorem r_l2 (out : List S42) (i : Int) (ho : out.length < 4398046511104) (hr : Ev (fun k => monikerref1_Normal.l0 k s l (out ++ cutE f t x (sufN s x f t)) (wrap64 (i + 1))) r) :
    ∀ d j, j ≤ sufN s x f t → sufN s x f t - j = d → Ev (fun k => monikerref1_Normal.l2 k s l out i (f : Int) ((t - j : Nat) : Int) (x.extract 0 (x.size - j))) r := by
  obtain ⟨hl1, hl2⟩ := suf_le s x f t
  obtain ⟨sp1, sp2⟩ := suf_spec s x f t
  generalize sufN s x f t = q at *
  intro d
  induction d with
  | zero =>
    intro j h1 h2
    obtain rfl : j = q := by omega
    obtain ⟨K, hK⟩ := hr
    unfold sufB at sp2
    have hc : (j : Int) < ((t - f : Nat) : Int) → (j : Int) < (x.size : Int) → bt s ((t - 1 - j : Nat) : Int) ≠ bt x ((x.size - 1 - j : Nat) : Int) := by
      intro a b c
      simp only [c, beq_self_eq_true, Bool.and_true, Bool.and_eq_false_iff, decide_eq_false_iff_not] at sp2
      clear c
      omega
    have HC := Aside0.mk hc
    clear hc sp2
    have hxs : (x.extract 0 (x.size - j)).size = x.size - j := by rw [ByteArray.size_extract]; omega
    refine ⟨K + 1, fun n hn => ?_⟩
    obtain ⟨k, rfl⟩ : ∃ m, n = m + 1 := ⟨n - 1, by omega⟩
    have g := hK k (by omega)
    simp only at g
    unfold cutE at g
    simp only [monikerref1_Normal.l2]
    by_cases a : (f : Int) < ((t - j : Nat) : Int)
    · rw [if_pos a]
      rw [if_pos (.inl a)] at g
      by_cases b : (x.extract 0 (x.size - j)).toList = ([] : List UInt8)
      · rw [if_pos b, if_pos ho]
        exact g
      · have hb := mt (toList_nil _).2 b
        rw [hxs] at hb
        have B0 : j < x.size := by omega
        have e1 := Aside0.mk (show wrap64 (((t - j : Nat) : Int) - 1) = ((t - 1 - j : Nat) : Int) from wminus t j (by omega) (by omega))
        have e2 := Aside0.mk (show wrap64 (((x.size - j : Nat) : Int) - 1) = ((x.size - 1 - j : Nat) : Int) from wminus x.size j B0 hx)
        have e3 : bt (x.extract 0 (x.size - j)) ((x.size - 1 - j : Nat) : Int) = bt x ((x.size - 1 - j : Nat) : Int) := bt_end x j B0
        rw [if_neg b, hxs, e1.out, e2.out, if_pos (by omega), if_pos (by omega), if_pos (by omega), if_pos (by omega), e3, if_neg (HC.out (by omega) (by omega)), if_pos ho]
        exact g
    · rw [if_neg a]
      by_cases b : (x.extract 0 (x.size - j)).toList = ([] : List UInt8)
      · rw [if_neg (fun h => h.elim a (fun h => h b)), List.append_nil] at g
        rw [if_pos b]
        exact g
      · rw [if_pos (.inr b)] at g
        rw [if_neg b, if_pos ho]
        exact g
  | succ d ih =>
    intro j h1 h2
    obtain ⟨K, hK⟩ := ih (j + 1) (by omega) (by omega)
    have hp := sp1 j (by omega)
    unfold sufB at hp
    simp only [Bool.and_eq_true, decide_eq_true_eq, beq_iff_eq] at hp
    obtain ⟨a, b, c⟩ := hp
    have C := Aside0.mk c
    clear c ih hr sp1 sp2
    have A0 : j < t - f := a
    have B0 : j < x.size := b
    have hxs : (x.extract 0 (x.size - j)).size = x.size - j := by rw [ByteArray.size_extract]; omega
    have e1 := Aside0.mk (show wrap64 (((t - j : Nat) : Int) - 1) = ((t - 1 - j : Nat) : Int) from wminus t j (by omega) (by omega))
    have e2 := Aside0.mk (show wrap64 (((x.size - j : Nat) : Int) - 1) = ((x.size - 1 - j : Nat) : Int) from wminus x.size j B0 hx)
    have e3 : bt (x.extract 0 (x.size - j)) ((x.size - 1 - j : Nat) : Int) = bt x ((x.size - 1 - j : Nat) : Int) := bt_end x j B0
    have e4 : (x.extract 0 (x.size - j)).extract 0 (x.size - 1 - j) = x.extract 0 (x.size - (j + 1)) := by
      rw [ByteArray.extract_extract, Nat.zero_add, Nat.zero_add, show min (x.size - 1 - j) (x.size - j) = x.size - (j + 1) by omega]
    have e5 : ((t - 1 - j : Nat) : Int) = ((t - (j + 1) : Nat) : Int) := by congr 1; omega
    have hb : ¬ (x.extract 0 (x.size - j)).toList = ([] : List UInt8) := fun h => by have := (toList_nil _).1 h; omega
    have a' : (f : Int) < ((t - j : Nat) : Int) := by omega
    have b1 : (0 : Int) ≤ ((t - 1 - j : Nat) : Int) := by omega
    have b2 : ((t - 1 - j : Nat) : Int) < (s.size : Int) := by omega
    have b3 : (0 : Int) ≤ ((x.size - 1 - j : Nat) : Int) := by omega
    have b4 : ((x.size - 1 - j : Nat) : Int) < ((x.size - j : Nat) : Int) := by omega
    have b5 : ((x.size - 1 - j : Nat) : Int) ≤ ((x.size - j : Nat) : Int) := by omega
    refine ⟨K + 1, fun n hn => ?_⟩
    obtain ⟨k, rfl⟩ : ∃ m, n = m + 1 := ⟨n - 1, by omega⟩
    have g := hK k (by omega)
    simp only at g
    simp only [monikerref1_Normal.l2]
    rw [if_pos a', if_neg hb, hxs, e1.out, e2.out, if_pos b1, if_pos b2, if_pos b3, if_pos b4, e3, if_pos C.out, if_pos b5, Int.toNat_natCast, e4, e5]
    exact g

theorem r_l1 (out : List S42) (i : Int)
    (hr : Ev (fun k => monikerref1_Normal.l2 k s l out i ((f + preN s x f t : Nat) : Int) (t : Int) (x.extract (preN s x f t) x.size)) r) :
    ∀ d j, j ≤ preN s x f t → preN s x f t - j = d → Ev (fun k => monikerref1_Normal.l1 k s l out i ((f + j : Nat) : Int) (t : Int) (x.extract j x.size)) r := by
  obtain ⟨hl1, hl2⟩ := pre_le s x f t
  obtain ⟨sp1, sp2⟩ := pre_spec s x f t
  generalize preN s x f t = q at *
  intro d
  induction d with
  | zero =>
    intro j h1 h2
    obtain rfl : j = q := by omega
    obtain ⟨K, hK⟩ := hr
    unfold preB at sp2
    have hc : (j : Int) < ((t - f : Nat) : Int) → (j : Int) < (x.size : Int) → bt s ((f + j : Nat) : Int) ≠ bt x (j : Int) := by
      intro a b c
      simp only [c, beq_self_eq_true, Bool.and_true, Bool.and_eq_false_iff, decide_eq_false_iff_not] at sp2
      clear c
      omega
    have HC := Aside0.mk hc
    clear hc sp2
    have hxs : (x.extract j x.size).size = x.size - j := by rw [ByteArray.size_extract]; omega
    refine ⟨K + 2, fun n hn => ?_⟩
    obtain ⟨k, rfl⟩ : ∃ m, n = m + 2 := ⟨n - 2, by omega⟩
    have g := hK k (by omega)
    simp only at g
    simp only [monikerref1_Normal.l1, monikerref1_Normal.j2]
    by_cases a : ((f + j : Nat) : Int) < (t : Int)
    · rw [if_pos a]
      by_cases b : (x.extract j x.size).toList = ([] : List UInt8)
      · rw [if_pos b]
        exact g
      · have hb := mt (toList_nil _).2 b
        rw [hxs] at hb
        have e3 : bt (x.extract j x.size) 0 = bt x (j : Int) := bt_cut x j x.size 0 (by omega)
        rw [if_neg b, hxs, if_pos (by omega), if_pos (by omega), if_pos (by omega), e3, if_neg (HC.out (by omega) (by omega))]
        exact g
    · rw [if_neg a]
      exact g
  | succ d ih =>
    intro j h1 h2
    obtain ⟨K, hK⟩ := ih (j + 1) (by omega) (by omega)
    have hp := sp1 j (by omega)
    unfold preB at hp
    simp only [Bool.and_eq_true, decide_eq_true_eq, beq_iff_eq] at hp
    obtain ⟨a, b, c⟩ := hp
    have C := Aside0.mk c
    clear c ih hr sp1 sp2
    have A0 : j < t - f := a
    have B0 : j < x.size := b
    have hxs : (x.extract j x.size).size = x.size - j := by rw [ByteArray.size_extract]; omega
    have e1 := Aside0.mk (show wrap64 (((f + j : Nat) : Int) + 1) = ((f + (j + 1) : Nat) : Int) from by rw [w64] <;> omega)
    have e3 : bt (x.extract j x.size) 0 = bt x (j : Int) := bt_cut x j x.size 0 (by omega)
    have e4 : (x.extract j x.size).extract 1 (x.size - j) = x.extract (j + 1) x.size := by
      rw [ByteArray.extract_extract, show min (j + (x.size - j)) x.size = x.size by omega]
    have hb : ¬ (x.extract j x.size).toList = ([] : List UInt8) := fun h => by have := (toList_nil _).1 h; omega
    have a' : ((f + j : Nat) : Int) < (t : Int) := by omega
    have b1 : (0 : Int) ≤ ((f + j : Nat) : Int) := by omega
    have b2 : ((f + j : Nat) : Int) < (s.size : Int) := by omega
    have b3 : (0 : Int) < ((x.size - j : Nat) : Int) := by omega
    have b4 : (1 : Int) ≤ ((x.size - j : Nat) : Int) := by omega
    refine ⟨K + 1, fun n hn => ?_⟩
    obtain ⟨k, rfl⟩ : ∃ m, n = m + 1 := ⟨n - 1, by omega⟩
    have g := hK k (by omega)
    simp only at g
    simp only [monikerref1_Normal.l1]
    rw [if_pos a', if_neg hb, hxs, if_pos b1, if_pos b2, if_pos b3, e3, if_pos C.out, if_pos b4, e1.out, e4]
    exact g
end

def normGo (s : ByteArray) (l : List S42) : List S42 := l.flatMap fun e => normE s e.f2 e.f0.toNat e.f1.toNat
theorem e_loop (s : ByteArray) (hs : s.size ≤ 140737488351232) (l : List S42) (hl : l.length ≤ 65536) (hB : ∀ x ∈ l, x.f2.size ≤ 140737488351232) (hc : Chain s.size none l) (d : Nat) : ∀ (i : Nat) (out : List S42), i ≤ l.length → l.length - i = d → out.length + d ≤ 65536 →
    Ev (fun k => edits_Normal.l0 k s out l (l.length : Int) (i : Int)) (out ++ normGo s (l.drop i), 0) := by
  induction d with
  | zero =>
    intro i out h1 h2 ho
    refine ⟨1, fun n hn => ?_⟩
    obtain ⟨k, rfl⟩ : ∃ m, n = m + 1 := ⟨n - 1, by omega⟩
    simp only [edits_Normal.l0]
    rw [if_neg (by omega), List.drop_eq_nil_of_le (by omega)]
    simp [normGo]
  | succ d ih =>
    intro i out h1 h2 ho
    have hi : i < l.length := by omega
    have hci : (i : Int) < (l.length : Int) := by omega
    have hc0 : (0 : Int) ≤ (i : Int) := by omega
    have hw : wrap64 ((i : Int) + 1) = ((i + 1 : Nat) : Int) := by rw [w64] <;> omega
    obtain ⟨e1, e2, e3⟩ := chain_at hc i hi
    have hxb := hB _ (List.getElem_mem hi)
    obtain ⟨f, hf⟩ := Int.eq_ofNat_of_zero_le e1
    obtain ⟨t, ht⟩ := Int.eq_ofNat_of_zero_le (Int.le_trans e1 e2)
    have hnl := normE_len s (l[i]).f2 f t
    have hft : f ≤ t := by omega
    have hts : t ≤ s.size := by omega
    have hih := ih (i + 1) (out ++ normE s (l[i]).f2 f t) (by omega) (by omega) (by rw [List.length_append]; omega)
    obtain ⟨pl1, pl2⟩ := pre_le s (l[i]).f2 f t
    have hcs : ((l[i]).f2.extract (preN s (l[i]).f2 f t) (l[i]).f2.size).size ≤ 140737488351232 := by rw [ByteArray.size_extract]; omega
    rw [← hw] at hih
    have hstep := e_l1 s hs l (l[i]).f2 hxb f t hft hts _ out (i : Int) (e_l2 s hs l _ hcs (f + preN s (l[i]).f2 f t) t (by omega) hts _ out (i : Int) (by omega) hih _ 0 (by omega) rfl) _ 0 (by omega) rfl
    obtain ⟨K, hK⟩ := hstep
    rw [List.drop_eq_getElem_cons hi]
    have e4 : (l[i]).f1 ≤ (s.size : Int) := e3
    refine ⟨K + 1, fun n hn => ?_⟩
    obtain ⟨k, rfl⟩ : ∃ m, n = m + 1 := ⟨n - 1, by omega⟩
    have g := hK k (by omega)
    simp only at g
    simp only [edits_Normal.l0]
    rw [rd_at l i hi, if_pos hci, if_pos hc0, if_pos hci, if_pos e1, if_pos e2, if_pos e4, hf, ht]
    simp only [Int.toNat_natCast]
    simp only [normGo, List.flatMap_cons, hf, ht, Int.toNat_natCast]
    rw [← List.append_assoc]
    exact g
theorem r_loop (s : ByteArray) (hs : s.size ≤ 140737488351232) (l : List S42) (hl : l.length ≤ 65536) (hB : ∀ x ∈ l, x.f2.size ≤ 140737488351232) (hc : Chain s.size none l) (d : Nat) : ∀ (i : Nat) (out : List S42), i ≤ l.length → l.length - i = d → out.length + d ≤ 65536 →
    Ev (fun k => monikerref1_Normal.l0 k s l out (i : Int)) (out ++ normGo s (l.drop i), 0) := by
  induction d with
  | zero =>
    intro i out h1 h2 ho
    refine ⟨1, fun n hn => ?_⟩
    obtain ⟨k, rfl⟩ : ∃ m, n = m + 1 := ⟨n - 1, by omega⟩
    simp only [monikerref1_Normal.l0]
    rw [if_neg (by omega), List.drop_eq_nil_of_le (by omega)]
    simp [normGo]
  | succ d ih =>
    intro i out h1 h2 ho
    have hi : i < l.length := by omega
    have hci : (i : Int) < (l.length : Int) := by omega
    have hc0 : (0 : Int) ≤ (i : Int) := by omega
    have hw : wrap64 ((i : Int) + 1) = ((i + 1 : Nat) : Int) := by rw [w64] <;> omega
    obtain ⟨e1, e2, e3⟩ := chain_at hc i hi
    have hxb := hB _ (List.getElem_mem hi)
    obtain ⟨f, hf⟩ := Int.eq_ofNat_of_zero_le e1
    obtain ⟨t, ht⟩ := Int.eq_ofNat_of_zero_le (Int.le_trans e1 e2)
    have hnl := normE_len s (l[i]).f2 f t
    have hft : f ≤ t := by omega
    have hts : t ≤ s.size := by omega
    have hih := ih (i + 1) (out ++ normE s (l[i]).f2 f t) (by omega) (by omega) (by rw [List.length_append]; omega)
    obtain ⟨pl1, pl2⟩ := pre_le s (l[i]).f2 f t
    have hcs : ((l[i]).f2.extract (preN s (l[i]).f2 f t) (l[i]).f2.size).size ≤ 140737488351232 := by rw [ByteArray.size_extract]; omega
    rw [← hw] at hih
    have h2' := r_l2 s hs l _ hcs (f + preN s (l[i]).f2 f t) t (by omega) hts _ out (i : Int) (by omega) hih _ 0 (by omega) rfl
    rw [Nat.sub_zero, Nat.sub_zero, ByteArray.extract_zero_size] at h2'
    have hstep := r_l1 s hs l (l[i]).f2 hxb f t hft hts _ out (i : Int) h2' _ 0 (by omega) rfl
    rw [Nat.add_zero, ByteArray.extract_zero_size] at hstep
    obtain ⟨K, hK⟩ := hstep
    rw [List.drop_eq_getElem_cons hi]
    refine ⟨K + 1, fun n hn => ?_⟩
    obtain ⟨k, rfl⟩ : ∃ m, n = m + 1 := ⟨n - 1, by omega⟩
    have g := hK k (by omega)
    simp only at g
    simp only [monikerref1_Normal.l0]
    rw [rd_at l i hi, if_pos hci, if_pos hc0, hf, ht]
    simp only [normGo, List.flatMap_cons, hf, ht, Int.toNat_natCast]
    rw [← List.append_assoc]
    exact g
def Nspec (s : ByteArray) (l : List S42) : List S42 × Int := if vspec s.size l = 0 then (normGo s l, 0) else ([], vspec s.size l)
theorem Normal_is (s : ByteArray) (hs : s.size ≤ 140737488351232) (l : List S42) (hB : ∀ x ∈ l, x.f2.size ≤ 140737488351232) : Ev (fun k => edits_Normal.f k s l) (Nspec s l) := by
  unfold edits_Normal.f Nspec
  refine (valid_is _ l).bind ?_
  by_cases h : vspec s.size l = 0
  · simp only [if_pos h]
    obtain ⟨hl, hc⟩ := vspec_zero h
    have := e_loop s hs l hl hB hc l.length 0 [] (by omega) (by omega) (by simpa using hl)
    simpa using this
  · simp only [if_neg h]; exact Ev.now _
theorem RNormal_is (s : ByteArray) (hs : s.size ≤ 140737488351232) (l : List S42) (hB : ∀ x ∈ l, x.f2.size ≤ 140737488351232) : Ev (fun k => monikerref1_Normal.f k s l) (Nspec s l) := by
  unfold monikerref1_Normal.f Nspec
  refine (rvalid_is _ l).bind ?_
  by_cases h : vspec s.size l = 0
  · simp only [if_pos h]
    obtain ⟨hl, hc⟩ := vspec_zero h
    have := r_loop s hs l hl hB hc l.length 0 [] (by omega) (by omega) (by simpa using hl)
    simpa using this
  · simp only [if_neg h]; exact Ev.now _
end Go.Proofs.Ytaihajmdngoeiaa.Q
