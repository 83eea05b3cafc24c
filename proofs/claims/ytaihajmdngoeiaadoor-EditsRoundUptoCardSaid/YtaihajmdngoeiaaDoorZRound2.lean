/- The law EditsRound of package monikerlaw holds of the given program: called with any arguments that can be read as data, together of bulk at most 1048576, it returns true, and its arguments read behind the call as before. Conditions: those of the given row '..Upto', no others. -/
import Derived.Test.YtaihajmdngoeiaaDoorZRound1
import Derived.Test.YtaihajmdngoeiaaDoorWMore
import Derived.SizedLaws
import Derived.ChangeSlices
import Derived.Deep.Slices
import Derived.Test.YtaihajmdngoeiaaDoorRows
import Derived.JoinedCond
import Derived.ChangeArms
import Derived.ProofKit
import Derived.LaidMore
import Derived.LaidLaws
import Derived.OpenShut
import Derived.Stop.Joined
import Derived.Stop.LaidErr
import Derived.Lib.LaidTab
import Derived.Test.YtaihajmdngoeiaaDoorCards
import Derived.Test.YtaihajmdngoeiaaDoorTie
import Derived.WalkKit
import Derived.ShutString
import Derived.ChangeOld
import Derived.Below
import Derived.SevenTiedAt
import Derived.Deep.DeepHandedRow
namespace Go.Proofs.YtaihajmdngoeiaaDoor.Q
open Go.RowKit Go.Proofs.YtaihajmdngoeiaaDoorW.PrintWords Go.Proofs.YtaihajmdngoeiaaDoorW.PrintLast Go.Proofs.YtaihajmdngoeiaaDoorW.PrintMore
open Go.Proofs.YtaihajmdngoeiaaDoor.F
set_option linter.unusedVariables false
set_option linter.unusedSimpArgs false

theorem toS_ofS (e : S42) : toS (ofS e) = e := by
  unfold toS ofS
  simp only [sn_bytes]
theorem isB_dec : ∀ u : Nat, IsB (dec u) := by
  intro u
  induction u using Nat.strongRecOn with
  | _ u ih =>
    by_cases h : u < 10
    · rw [dec_small h]
      exact isB_cons (by omega) isB_nil
    · rw [dec_big h]
      exact isB_append (ih (u / 10) (by omega)) (isB_cons (by omega) isB_nil)
theorem isB_itoa (n : Int) : IsB (itoaI n) := by
  by_cases h : n < 0
  · rw [itoaI_neg n h]
    exact isB_cons (by omega) (isB_dec _)
  · rw [itoaI_pos n h]
    exact isB_dec _
theorem isB_line (e : S42) : IsB (lineE (ofS e)) := by
  rw [lineE_ofS]
  exact isB_append (isB_itoa _) (isB_cons (by omega) (isB_append (isB_itoa _) (isB_cons (by omega) (isB_cons (by omega) (isB_append (isB_esc _ (isB_bytes _)) (isB_cons (by omega) (isB_cons (by omega) isB_nil)))))))
theorem isB_lines : ∀ l : List S42, IsB (linesB l)
  | [] => by simp only [linesB, List.map_nil, linesP, List.flatMap_nil]; exact isB_nil
  | e :: l => by rw [linesB_cons]; exact isB_append (isB_line e) (isB_lines l)
theorem esc_mem : ∀ (t : List Int) (c : Int), c ∈ t → c = 10 ∨ c ∈ esc t
  | x :: t, c, h => by
    rw [esc_cons]
    rcases List.mem_cons.1 h with rfl | h
    · by_cases h10 : c = 10
      · exact Or.inl h10
      · right
        refine List.mem_append_left _ ?_
        unfold escB
        split
        · simp
        · first | (rw [if_neg h10]; simp) | simp
    · rcases esc_mem t c h with h | h
      · exact Or.inl h
      · exact Or.inr (List.mem_append_right _ h)
theorem isB_of_esc (t : List Int) (h : IsB (esc t)) : IsB t := by
  intro c hc
  rcases esc_mem t c hc with rfl | hm
  · omega
  · exact h c hm
theorem lineE_mem {es : List (Int × Int × List Int)} {e : Int × Int × List Int} (h : e ∈ es) : ∀ c ∈ lineE e, c ∈ linesP es := by
  intro c hc
  unfold linesP
  exact List.mem_flatMap.2 ⟨e, h, hc⟩
theorem isB_text {es : List (Int × Int × List Int)} (h : IsB (linesP es)) {e : Int × Int × List Int} (he : e ∈ es) : IsB e.2.2 := by
  refine isB_of_esc _ (fun c hc => h c (lineE_mem he c ?_))
  unfold lineE lineP
  simp [hc]
theorem lineE_len {es : List (Int × Int × List Int)} {e : Int × Int × List Int} (h : e ∈ es) : (lineE e).length ≤ (linesP es).length := by
  induction es with
  | nil => cases h
  | cons x es ih =>
    rw [linesP_cons, List.length_append]
    rcases List.mem_cons.1 h with rfl | h
    · omega
    · have := ih h
      omega
theorem esc_ge : ∀ t : List Int, t.length ≤ (esc t).length
  | [] => by simp
  | c :: t => by
    have := esc_ge t
    have := (escB_range c).1
    rw [esc_cons, List.length_append, List.length_cons]
    omega
theorem text_len (e : Int × Int × List Int) : e.2.2.length ≤ (lineE e).length := by
  have := esc_ge e.2.2
  unfold lineE lineP
  simp only [List.length_append, List.length_cons]
  omega
theorem ofS_toS {es : List (Int × Int × List Int)} (h : IsB (linesP es)) : (es.map toS).map ofS = es := by
  rw [List.map_map]
  conv => rhs; rw [← List.map_id es]
  apply List.map_congr_left
  intro e he
  simp only [Function.comp_apply, ofS, toS, id]
  rw [bo_sn _ (isB_text h he)]
theorem lines_ge : ∀ es : List (Int × Int × List Int), es.length ≤ (linesP es).length
  | [] => by simp
  | e :: es => by
    have := lines_ge es
    have := lineE_pos e
    rw [linesP_cons, List.length_append, List.length_cons]
    omega
theorem sn_size (l : List Int) : (strOfNums l).size = l.length := by
  unfold strOfNums
  simp [ByteArray.size]
/-- What Print writes is read. -/
theorem parsed_print (l : List S42) (hl : l.length ≤ 65536) (hB : ∀ x ∈ l, isI64 x.f0 ∧ isI64 x.f1) : parsed (strOfNums (linesB l)) = (l, 0, 0) := by
  unfold parsed
  have hb := bo_sn _ (isB_lines l)
  rw [hb, sn_size]
  have hge := lines_ge (l.map ofS)
  have hp := parse_printed (l.map ofS) ((linesB l).length + 1) 65536 (by unfold linesB; omega) (by simpa using hl) (by
    intro e he
    obtain ⟨x, hx, rfl⟩ := List.mem_map.1 he
    exact hB x hx)
  unfold linesB at hp ⊢
  rw [hp]
  simp only [resP, List.nil_append, List.map_map]
  congr 1
  conv => rhs; rw [← List.map_id l]
  apply List.map_congr_left
  intro e _
  exact toS_ofS e
/-- What is read is written. -/
theorem parsed_is (s : ByteArray) (hs : s.size ≤ 140737488351232) :
    (∃ m : List S42, parsed s = (m, 0, 0) ∧ Ev (fun k => edits_Print.f k m) s) ∨ (∃ (c p : Int), parsed s = ([], c, p) ∧ c ≠ 0 ∧ 0 ≤ p ∧ p ≤ s.size) := by
  unfold parsed
  have hbad := fun r => parse_bad (s.size + 1) 65536 (bytesOf s) r (by rw [bytesOf_length]; omega)
  cases h : parseL (s.size + 1) 65536 (bytesOf s) with
  | ok es =>
    left
    obtain ⟨h1, h2, h3⟩ := parse_read _ _ _ _ h
    have hB : IsB (linesP es) := by rw [← h1]; exact isB_bytes s
    have hlen : (linesP es).length = s.size := by rw [← h1, bytesOf_length]
    refine ⟨es.map toS, by simp [resP], ?_⟩
    have e1 : linesB (es.map toS) = bytesOf s := by
      unfold linesB
      rw [ofS_toS hB, h1]
    have hp := Print_is (es.map toS) (by
      intro x hx
      obtain ⟨e, he, rfl⟩ := List.mem_map.1 hx
      exact h2 e he) (by
      intro x hx
      obtain ⟨e, he, rfl⟩ := List.mem_map.1 hx
      have a1 := lineE_len he
      have a2 := text_len e
      simp only [toS, sn_size]
      omega) (by rw [e1, bytesOf_length]; omega)
    rw [if_pos (by simpa using h3), e1, sn_bytes] at hp
    exact hp
  | many r =>
    right
    have := hbad r (Or.inr h)
    rw [bytesOf_length] at this
    exact ⟨2, plc s r, rfl, by omega, by unfold plc; omega, by unfold plc; omega⟩
  | bad r =>
    right
    have := hbad r (Or.inl h)
    rw [bytesOf_length] at this
    exact ⟨12, plc s r, rfl, by omega, by unfold plc; omega, by unfold plc; omega⟩
theorem last_10 : ∀ es : List (Int × Int × List Int), linesP es ≠ [] → (linesP es).getLast? = some 10
  | [], h => absurd rfl h
  | e :: es, h => by
    rw [linesP_cons]
    by_cases hz : linesP es = []
    · rw [hz, List.append_nil]
      obtain ⟨b, hb, _⟩ := line_10 e
      rw [hb]
      simp
    · have := last_10 es hz
      rw [List.getLast?_append, this]
      rfl
theorem last_bt (s : ByteArray) (h : 0 < s.size) : (bytesOf s).getLast? = some (bt s ((s.size : Int) - 1)) := by
  have e : ((s.size : Int) - 1) = ((s.size - 1 : Nat) : Int) := by omega
  rw [e, bt_get s (s.size - 1) (by omega), List.getLast?_eq_getElem?, List.getElem?_eq_getElem (by rw [bytesOf_length]; omega)]
  simp only [bytesOf_length]
theorem Round_is (l : List S42) (s : ByteArray) (cut : Int) (hs : s.size ≤ 140737488351232) (hc : isI64 cut) (hB : ∀ x ∈ l, isI64 x.f0 ∧ isI64 x.f1) (hZ : ∀ x ∈ l, x.f2.size ≤ 140737488351232) (hlen : (linesB l).length + 200 ≤ 140737488351232) (hl9 : l.length ≤ 9223372036854775807) :
    Ev (fun k => monikerlaw1_EditsRound.f k l s cut) true := by
  -- the text that is printed
  have hpr := Print_is l hB hZ (by omega)
  obtain ⟨p, hp⟩ : ∃ p, (if l.length ≤ 65536 then strOfNums (linesB l) else ⟨#[]⟩) = p := ⟨_, rfl⟩
  rw [hp] at hpr
  have hpsz : p.size ≤ 140737488351232 := by
    rw [← hp]
    split
    · rw [sn_size]; omega
    · exact Nat.zero_le _
  -- the cut
  have hcut : Ev (fun k => monikerlaw1_EditsRound.j1 k cut p false) true := by
    by_cases c0 : cut < 0
    · refine ⟨2, fun k hk => ?_⟩
      obtain ⟨k, rfl⟩ : ∃ m, k = m + 2 := ⟨k - 2, by omega⟩
      simp [monikerlaw1_EditsRound.j1, monikerlaw1_EditsRound.j2, c0]
    by_cases c1 : cut ≥ (p.size : Int)
    · refine ⟨2, fun k hk => ?_⟩
      obtain ⟨k, rfl⟩ : ∃ m, k = m + 2 := ⟨k - 2, by omega⟩
      simp [monikerlaw1_EditsRound.j1, monikerlaw1_EditsRound.j2, c0, c1]
    obtain ⟨n, hn⟩ : ∃ n : Nat, cut = n := ⟨cut.toNat, by omega⟩
    subst hn
    have hnp : n < p.size := by omega
    have hl : l.length ≤ 65536 := by
      rcases Nat.lt_or_ge 65536 l.length with h | h
      · rw [if_neg (by omega)] at hp
        rw [← hp] at hnp
        exact absurd hnp (Nat.not_lt_zero _)
      · exact h
    rw [if_pos hl] at hp
    have hbp : bytesOf p = linesP (l.map ofS) := by rw [← hp]; exact bo_sn _ (isB_lines l)
    have hne : linesP (l.map ofS) ≠ [] := by
      intro e
      have := bytesOf_length p
      rw [hbp, e] at this
      simp at this
      omega
    have hlast : bt p ((p.size : Int) - 1) = 10 := by
      have h1 := last_10 _ hne
      rw [← hbp, last_bt p (by omega)] at h1
      exact Option.some.inj h1
    have w1 : wrap64 ((p.size : Int) - 1) = (p.size : Int) - 1 := by rw [w64] <;> omega
    have j1s : ∀ k, monikerlaw1_EditsRound.j1 (k + 1) (n : Int) p false = monikerlaw1_EditsRound.j2 k (n : Int) p false := by
      intro k
      have A1 : ((n : Int) < 0) = False := eq_false (by omega)
      have A2 : ((n : Int) ≥ (p.size : Int)) = False := eq_false (by omega)
      have A3 : (0 ≤ (p.size : Int) - 1) = True := eq_true (by omega)
      have A4 : ((p.size : Int) - 1 < (p.size : Int)) = True := eq_true (by omega)
      simp only [monikerlaw1_EditsRound.j1, Bool.false_eq_true, if_false, A1, A2, w1, A3, A4, if_true, hlast]
      rfl
    have B1 : ((0 : Int) ≤ (n : Int)) = True := eq_true (by omega)
    have B2 : ((n : Int) ≤ (p.size : Int)) = True := eq_true (by omega)
    have hxs : (p.extract 0 n).size = n := by rw [ByteArray.size_extract]; omega
    have hxb : bytesOf (p.extract 0 n) = (linesP (l.map ofS)).take n := by rw [ex_bytes, hbp]; simp
    obtain ⟨K, hK⟩ := Parse_is (p.extract 0 n) (by omega)
    have hpc := parse_cut (l.map ofS) (n + 1) 65536 ((linesP (l.map ofS)).take n) ((linesP (l.map ofS)).drop n) (by rw [List.length_take]; omega) (by simpa using hl) (by
      intro e he
      obtain ⟨x, hx, rfl⟩ := List.mem_map.1 he
      exact hB x hx) (List.take_append_drop _ _).symm (by
      intro e
      have := congrArg List.length e
      rw [List.length_drop, ← hbp, bytesOf_length] at this
      simp at this
      omega)
    have hpx : parsed (p.extract 0 n) = resP (p.extract 0 n) [] (parseL (n + 1) 65536 ((linesP (l.map ofS)).take n)) := by
      unfold parsed
      rw [hxb, hxs]
    by_cases hn0 : n = 0
    · refine ⟨K + 2, fun k hk => ?_⟩
      obtain ⟨k, rfl⟩ : ∃ m, k = m + 2 := ⟨k - 2, by omega⟩
      have g := hK k (by omega)
      simp only at g
      refine (j1s (k + 1)).trans ?_
      simp only [monikerlaw1_EditsRound.j2, Bool.false_eq_true, if_false, B1, B2, if_true, Int.toNat_natCast]
      rw [g]
      have hz : parsed (p.extract 0 n) = ([], 0, 0) := by
        rw [hpx, hn0]
        simp [parseL, resP]
      simp only [Option.bind_some, hz]
      rw [if_pos (by omega)]
      rfl
    · have w2 : wrap64 ((n : Int) - 1) = (n : Int) - 1 := by rw [w64] <;> omega
      have B3 : ((n : Int) = 0) = False := eq_false (by omega)
      have B4 : (0 ≤ (n : Int) - 1) = True := eq_true (by omega)
      have B5 : ((n : Int) - 1 < (p.size : Int)) = True := eq_true (by omega)
      have hlastq : ((linesP (l.map ofS)).take n).getLast? = some (bt p ((n : Int) - 1)) := by
        have h1 := last_bt (p.extract 0 n) (by omega)
        rw [hxb, hxs] at h1
        rw [h1]
        have e : ((n : Int) - 1) = ((n - 1 : Nat) : Int) := by omega
        rw [e, bt_get _ (n - 1) (by omega), bt_get _ (n - 1) (by omega)]
        simp only [hxb, hbp]
        rw [List.getElem_take]
      have hqne : (linesP (l.map ofS)).take n ≠ [] := by
        intro e
        rw [e] at hlastq
        simp at hlastq
      refine ⟨K + 2, fun k hk => ?_⟩
      obtain ⟨k, rfl⟩ : ∃ m, k = m + 2 := ⟨k - 2, by omega⟩
      have g := hK k (by omega)
      simp only at g
      refine (j1s (k + 1)).trans ?_
      simp only [monikerlaw1_EditsRound.j2, Bool.false_eq_true, if_false, B1, B2, if_true, Int.toNat_natCast, w2, B3, B4, B5]
      rw [g]
      simp only [Option.bind_some]
      rw [hlastq] at hpc
      by_cases c10 : bt p ((n : Int) - 1) = 10
      · rw [if_pos (Or.inr (by rw [c10]))] at hpc
        obtain ⟨fs, hfs⟩ := hpc
        rw [if_pos c10, hpx, hfs]
        rfl
      · rw [if_neg (by rintro (h | h); exact hqne h; exact c10 (Option.some.inj h))] at hpc
        rw [if_neg c10, hpx, hpc]
        simp only [resP, plc, hxs]
        simp
  -- the other text
  have hs1 : Ev (fun k => monikerlaw1_EditsRound.j0 k s cut p false) true := by
    obtain ⟨K0, hK0⟩ := Parse_is s hs
    obtain ⟨K1, hK1⟩ := hcut
    rcases parsed_is s hs with ⟨m, hm, ⟨K2, hK2⟩⟩ | ⟨c, q, hm, hc0, hq0, hq1⟩
    · refine ⟨max K0 (max K1 K2) + 1, fun k hk => ?_⟩
      obtain ⟨k, rfl⟩ : ∃ m, k = m + 1 := ⟨k - 1, by omega⟩
      simp only [monikerlaw1_EditsRound.j0, Bool.false_eq_true, if_false]
      have g0 := hK0 k (by omega)
      have g1 := hK1 k (by omega)
      have g2 := hK2 k (by omega)
      simp only at g0 g1 g2
      rw [g0]
      simp only [Option.bind_some, hm, if_true]
      rw [g2]
      simp only [Option.bind_some, if_true]
      exact g1
    · refine ⟨max K0 K1 + 1, fun k hk => ?_⟩
      obtain ⟨k, rfl⟩ : ∃ m, k = m + 1 := ⟨k - 1, by omega⟩
      simp only [monikerlaw1_EditsRound.j0, Bool.false_eq_true, if_false]
      have g0 := hK0 k (by omega)
      have g1 := hK1 k (by omega)
      simp only at g0 g1
      rw [g0]
      have D1 : decide (q > (s.size : Int)) = false := decide_eq_false (by omega)
      simp only [Option.bind_some, hm, hc0, if_false, List.length_nil, Int.ofNat_zero, if_true]
      rw [if_neg (by omega), D1]
      exact g1
  -- the printed text, read
  obtain ⟨K0, hK0⟩ := hpr
  obtain ⟨K1, hK1⟩ := Parse_is p hpsz
  obtain ⟨K2, hK2⟩ := hs1
  obtain ⟨K3, hK3⟩ := same_is l hl9
  refine ⟨max (max K0 K1) (max K2 K3), fun k hk => ?_⟩
  have g0 := hK0 k (by omega)
  have g1 := hK1 k (by omega)
  have g2 := hK2 k (by omega)
  have g3 := hK3 k (by omega)
  simp only at g0 g1 g2 g3
  simp only [monikerlaw1_EditsRound.f]
  rw [g0]
  simp only [Option.bind_some]
  rw [g1]
  simp only [Option.bind_some]
  by_cases hl : l.length ≤ 65536
  · rw [if_pos hl] at hp
    have hz : parsed p = (l, 0, 0) := by rw [← hp]; exact parsed_print l hl hB
    rw [if_pos (by omega), hz]
    simp only [if_true]
    rw [g3]
    simp only [Option.bind_some, Bool.not_true]
    exact g2
  · rw [if_neg (by omega)]
    exact g2
end Go.Proofs.YtaihajmdngoeiaaDoor.Q

namespace Go.Proofs.YtaihajmdngoeiaaDoor.O
open Go.ChangeShapes Go.WideShapes Go.Deep Go.Proofs.YtaihajmdngoeiaaDoorW.PrintWords

theorem mem_weightsAll {H : Type} {P : Program} {e : TypeId} : ∀ {l : List (DataW H)} {y : DataW H}, y ∈ l → ∀ n ∈ y.weights P e, n ∈ DataW.weightsAll P e l
  | y0 :: l, y, h, n, hn => by
    simp only [DataW.weightsAll, List.mem_append]
    rcases List.mem_cons.1 h with rfl | h
    · exact .inl hn
    · exact .inr (mem_weightsAll h n hn)

end Go.Proofs.YtaihajmdngoeiaaDoor.O

namespace Go.Proofs.YtaihajmdngoeiaaDoor.O
open Go.ChangeShapes Go.WideShapes Go.Deep Go.Proofs.YtaihajmdngoeiaaDoorW.PrintWords Go.Proofs.YtaihajmdngoeiaaDoor
set_option linter.unusedVariables false

section
variable {H : Type} {enc : TypeId × Value → H}
end

/-- As Opens; and the value is no heavier than the reading's bulk. -/
def OpensU {α : Type} (P : Program) (t : TypeId) (d : Kd α) (B : α → Prop) (m : α → Nat) : Prop :=
  ∀ {H : Type} {enc : TypeId × Value → H} {w : World} {base : Nat} {spare : Nat → Bool} {held : Bool} {fuel : Nat} {cs : List Value} {x : DataW H × List MemPlace},
    DataW.trod enc P w base spare held fuel t cs = some x → (∀ n ∈ x.1.weights P t, n ≤ reachBytes) → ∃ a, d.K w a cs ∧ B a ∧ m a ≤ Rows.uptoBulk x.1

theorem opens_intU {P : Program} {t : TypeId} {k : IntKind} (hu : P.underlying t = some (.int k)) : OpensU P t (Kd.int k) (fun n => (Lit.int k n).wf = true) (fun _ => 1) := fun h _ => by
  obtain ⟨n, rfl, rfl, hw⟩ := DataW.trod_int hu h
  exact ⟨n, rfl, hw, by simp [Rows.uptoBulk]⟩
theorem opens_stringU {P : Program} {t : TypeId} (hu : P.underlying t = some .string) : OpensU P t Kd.string (fun s => s.size ≤ 140737488351232) (fun s => s.size + 1) := fun h hw => by
  obtain ⟨s, rfl, rfl, _⟩ := DataW.trod_string hu h
  have e : s.data.toList.length = s.size := by rw [Array.length_toList]; rfl
  refine ⟨s, rfl, ?_, by simp only [Rows.uptoBulk]; omega⟩
  have := hw s.data.toList.length (by simp [DataW.weights])
  rw [e] at this
  exact this

theorem bulkAll_snoc {H : Type} : ∀ (l : List (DataW H)) (d : DataW H), Rows.uptoBulkAll (l ++ [d]) = Rows.uptoBulkAll l + Rows.uptoBulk d
  | [], d => by simp [Rows.uptoBulkAll]
  | x :: l, d => by simp only [List.cons_append, Rows.uptoBulkAll, bulkAll_snoc l d]; omega
def sumM {α : Type} (m : α → Nat) : List α → Nat
  | [] => 0
  | a :: l => m a + sumM m l
theorem sumM_snoc {α : Type} (m : α → Nat) : ∀ (l : List α) (a : α), sumM m (l ++ [a]) = sumM m l + m a
  | [], a => by simp [sumM]
  | x :: l, a => by simp only [List.cons_append, sumM, sumM_snoc m l a]; omega

theorem open_rowU {α : Type} {P : Program} {t e : TypeId} {d : Kd α} {B : α → Prop} {M : α → Nat} (hu : P.underlying t = some (.slice e)) (he : OpensU P e d B M) (hc : P.cellsOf e = d.sz)
    {H : Type} {enc : TypeId × Value → H} {w : World} {base : Nat} {spare : Nat → Bool} {held : Bool} {fuel : Nat} {A : Option Addr} {n c : Nat} {x : DataW H × List MemPlace}
    (h : DataW.trod enc P w base spare held fuel t [.slice A n c] = some x) (hw : ∀ n ∈ x.1.weights P t, n ≤ reachBytes) :
    ∃ xs : List α, xs.length = n ∧ d.C w A n xs ∧ n ≤ c ∧ (A = none → c = 0) ∧ (∀ a ∈ xs, B a) ∧ n * P.bytesOf e ≤ 140737488351232 ∧ sumM M xs + 1 ≤ Rows.uptoBulk x.1 := by
  rcases open_slice hu h with ⟨hcs, rfl⟩ | ⟨a, len, cap, m, fu, D, Pl, hcs, hb, hl, hm, hmm, rfl, hel⟩
  · simp only [List.cons.injEq, Value.slice.injEq, and_true] at hcs
    obtain ⟨rfl, rfl, rfl⟩ := hcs
    exact ⟨[], rfl, ⟨rfl, by omega, fun h0 => absurd h0 (by omega)⟩, by omega, fun _ => rfl, (fun a ha => by cases ha), by omega, by simp [sumM, Rows.uptoBulk]⟩
  · simp only [List.cons.injEq, Value.slice.injEq, and_true] at hcs
    obtain ⟨rfl, rfl, rfl⟩ := hcs
    have hlm : n ≤ m := by rw [hmm]; split <;> omega
    have hex : ∀ i, i < n → ∃ v : α, (∃ cs, d.K w v cs ∧ ∀ j u, cs[j]? = some u → w.cell? (a.add (i * d.sz + j)) = some u) ∧ B v ∧ M v ≤ Rows.uptoBulk (D i) := by
      intro i hi
      obtain ⟨cs', hc1, hc2⟩ := hel i (by omega)
      have hmem : D i ∈ (List.range n).map D := List.mem_map.2 ⟨i, List.mem_range.2 hi, rfl⟩
      obtain ⟨v, hv, hB, hM⟩ := he hc2 (fun q hq => hw q (by
        simp only [DataW.weights, hu, List.mem_cons, List.mem_append]
        exact .inr (.inl (mem_weightsAll hmem q hq))))
      refine ⟨v, ⟨cs', hv, fun j u hj => ?_⟩, hB, hM⟩
      obtain ⟨_, hcl, hat⟩ := World.cells?_some hc1
      have hjl : j < cs'.length := (List.getElem?_eq_some_iff.1 hj).1
      have := hat j (by omega)
      rw [hc] at this
      rw [← Go.Deep.add_add, this, hj]
    have key : ∀ k, k ≤ n → ∃ xs : List α, xs.length = k ∧ (∀ j p, xs[j]? = some p → (∃ cs, cs.length = d.sz ∧ d.K w p cs ∧ ∀ i u, cs[i]? = some u → w.cell? (a.add (j * d.sz + i)) = some u) ∧ B p) ∧ sumM M xs ≤ Rows.uptoBulkAll ((List.range k).map D) := by
      intro k
      induction k with
      | zero => intro _; exact ⟨[], rfl, fun j p hj => by simp at hj, by simp [sumM]⟩
      | succ k ih =>
        intro hk
        obtain ⟨xs, hx, hxs, hsum⟩ := ih (by omega)
        obtain ⟨v, ⟨cs, hv, hcell⟩, hB, hM⟩ := hex k (by omega)
        refine ⟨xs ++ [v], by simp [hx], fun j p hj => ?_, ?_⟩
        · rcases Nat.lt_or_ge j k with hjk | hjk
          · rw [List.getElem?_append_left (by omega)] at hj
            exact hxs j p hj
          · have hjl := (List.getElem?_eq_some_iff.1 hj).1
            rw [List.length_append, List.length_singleton] at hjl
            obtain rfl : j = k := by omega
            have hp : v = p := by simpa [List.getElem?_append_right, hx] using hj
            subst hp
            exact ⟨⟨cs, d.K_len hv, hv, hcell⟩, hB⟩
        · rw [sumM_snoc, List.range_succ, List.map_append, List.map_cons, List.map_nil, bulkAll_snoc]
          omega
    obtain ⟨xs, hx, hxs, hsum⟩ := key n (Nat.le_refl _)
    refine ⟨xs, hx, ⟨hx, by have : maxLen = 9223372036854775807 := rfl; omega, fun _ => ⟨a, rfl, fun j p hj => (hxs j p hj).1⟩⟩, hl, (fun h => by cases h), fun v hv => ?_, ?_, ?_⟩
    · obtain ⟨j, hj, rfl⟩ := List.mem_iff_getElem.1 hv
      exact (hxs j _ (List.getElem?_eq_getElem hj)).2
    · have := hw ((((List.range n).map D).length + ((List.range (m - n)).map fun j => D (n + j)).length) * P.bytesOf e) (by
        simp only [DataW.weights, hu]
        exact List.mem_cons_self)
      simp only [List.length_map, List.length_range] at this
      have h2 : n * P.bytesOf e ≤ (n + (m - n)) * P.bytesOf e := Nat.mul_le_mul_right _ (by omega)
      have h3 : reachBytes = 140737488351232 := rfl
      omega
    · simp only [Rows.uptoBulk]
      omega
end Go.Proofs.YtaihajmdngoeiaaDoor.O

namespace Go.Proofs.YtaihajmdngoeiaaDoor.H
open Go.ChangeShapes Go.WideShapes Go.Deep Go.Proofs.YtaihajmdngoeiaaDoorW.PrintWords Go.Proofs.YtaihajmdngoeiaaDoor.F

def B42 (x : S42) : Prop := (Lit.int .i64 x.f0).wf = true ∧ (Lit.int .i64 x.f1).wf = true ∧ x.f2.size ≤ 140737488351232
theorem three_ {α : Type} {l : List α} (h : l.length = 3) : ∃ a b c, l = [a, b, c] := by
  match l, h with
  | [a, b, c], _ => exact ⟨a, b, c, rfl⟩
theorem cells42 : Tryd.prog.cellsOf 42 = 3 := by kernel_rfl
theorem cells3 : Tryd.prog.cellsOf 3 = 1 := by kernel_rfl
theorem cells9 : Tryd.prog.cellsOf 9 = 1 := by kernel_rfl
theorem bytes42 : Tryd.prog.bytesOf 42 = 32 := by kernel_rfl
end Go.Proofs.YtaihajmdngoeiaaDoor.H

namespace Go.Proofs.YtaihajmdngoeiaaDoor.H
open Go.ChangeShapes Go.WideShapes Go.Deep Go.Proofs.YtaihajmdngoeiaaDoorW.PrintWords Go.Proofs.YtaihajmdngoeiaaDoor.F Go.Proofs.YtaihajmdngoeiaaDoor
theorem opens42U : O.OpensU Tryd.prog 42 k42 B42 (fun x => x.f2.size + 4) := by
  intro H enc w base spare held fuel cs x h hw
  obtain ⟨ys, n, rfl, rfl, hlen, hyl, hf⟩ := DataW.trod_struct Tryd.underlying42 h
  rw [cells42] at hlen
  obtain ⟨c0, c1, c2, rfl⟩ := three_ hlen
  obtain ⟨y0, y1, y2, rfl⟩ := three_ hyl
  have f0 := hf 0 { name := "From", type := 3, offset := 0, embedded := false, tag := "", pkgPath := "", byteOffset := 0 } rfl
  have f1 := hf 1 { name := "To", type := 3, offset := 1, embedded := false, tag := "", pkgPath := "", byteOffset := 8 } rfl
  have f2 := hf 2 { name := "Text", type := 9, offset := 2, embedded := false, tag := "", pkgPath := "", byteOffset := 16 } rfl
  simp only [cells3, cells9, List.drop_zero, List.drop_succ_cons, List.take_succ_cons, List.take_zero, List.getElem?_cons_zero, List.getElem?_cons_succ] at f0 f1 f2
  have hq : ∀ (j : Nat) (t : TypeId) (d : DataW H), [3, 3, 9][j]? = some t → [y0.1, y1.1, y2.1][j]? = some d → ∀ n ∈ d.weights Tryd.prog t, n ≤ reachBytes := by
    intro j t d h1 h2 q hq
    refine hw q ?_
    simp only [DataW.weights, Tryd.underlying42]
    exact DataW.weights_mem_each (j := j) h1 h2 q hq
  obtain ⟨a0, e0, w0, m0⟩ := O.opens_intU Tryd.underlying3 f0 (hq 0 _ _ rfl rfl)
  obtain rfl : c0 = .int .i64 a0 := (List.cons.inj e0).1
  obtain ⟨a1, e1, w1, m1⟩ := O.opens_intU Tryd.underlying3 f1 (hq 1 _ _ rfl rfl)
  obtain rfl : c1 = .int .i64 a1 := (List.cons.inj e1).1
  obtain ⟨a2, e2, w2, m2⟩ := O.opens_stringU Tryd.underlying9 f2 (hq 2 _ _ rfl rfl)
  obtain rfl : c2 = .string a2 := (List.cons.inj e2).1
  refine ⟨⟨a0, a1, a2⟩, k42_mk w _, ⟨w0, w1, w2⟩, ?_⟩
  show a2.size + 4 ≤ Rows.uptoBulk (DataW.agg [y0.1, y1.1, y2.1])
  simp only [Rows.uptoBulk, Rows.uptoBulkAll]
  simp only at m0 m1 m2
  generalize Rows.uptoBulk y0.1 = z0 at m0 ⊢
  generalize Rows.uptoBulk y1.1 = z1 at m1 ⊢
  generalize Rows.uptoBulk y2.1 = z2 at m2 ⊢
  omega
end Go.Proofs.YtaihajmdngoeiaaDoor.H

-- The table of strconv as the row's condition lays it
namespace Go.Proofs.YtaihajmdngoeiaaDoor.H
open Go.ChangeShapes Go.WideShapes Go.ChangeAt Go.RowKit Go.Proofs.YtaihajmdngoeiaaDoor.F
set_option linter.unusedVariables false
theorem pow_data : Rows.laid_internal_strconv_uint64pow10 = (Lib.tabData .u64 Lib.pow10Tab : DataW Unit) := by kernel_rfl
theorem sg_of_laid {W : World} (h : laidMetH Tryd.prog [("math/bits.deBruijn32tab", Rows.laid_math_bits_deBruijn32tab), ("math/bits.deBruijn64tab", Rows.laid_math_bits_deBruijn64tab), ("internal/strconv.uint64pow10", Rows.laid_internal_strconv_uint64pow10)] W) : SG W := by
  rw [MakeChecks.laidMetH_plain _ _ _ (by kernel_rfl)] at h
  have h2 := laidMet.tail (laidMet.tail h)
  rw [pow_data] at h2
  exact ⟨Lib.tabIs_of_head (P := Tryd.prog) (g := 0) (t := 137) (e := 119) (n := 20) (by kernel_rfl) (by kernel_rfl) Tryd.underlying137 Tryd.underlying119 (by kernel_rfl) (by kernel_rfl) h2⟩
end Go.Proofs.YtaihajmdngoeiaaDoor.H

-- EditsPrints: the law's walk
namespace Go.Proofs.YtaihajmdngoeiaaDoor.L
open Go.RowKit Go.Proofs.YtaihajmdngoeiaaDoorW.PrintWords Go.Proofs.YtaihajmdngoeiaaDoorW.PrintLast Go.Proofs.YtaihajmdngoeiaaDoorW.PrintMore
open Go.Proofs.YtaihajmdngoeiaaDoor.F Go.Proofs.YtaihajmdngoeiaaDoor.H
set_option linter.unusedVariables false
set_option linter.unusedSimpArgs false

theorem itoa_len (n : Int) (h : Q.isI64 n) : (Q.itoaI n).length ≤ 21 := by
  rw [itoaI_length]
  exact Lib.itoa_length_le n h.1 h.2
theorem lines_len : ∀ (l : List S42), (∀ x ∈ l, Q.isI64 x.f0 ∧ Q.isI64 x.f1) → (Q.linesB l).length ≤ 12 * O.sumM (fun x => x.f2.size + 4) l
  | [], _ => by simp [Q.linesB, Q.linesP]
  | x :: l, h => by
    have ih := lines_len l (fun y hy => h y (List.mem_cons_of_mem _ hy))
    obtain ⟨h0, h1⟩ := h x List.mem_cons_self
    have i0 := itoa_len x.f0 h0
    have i1 := itoa_len x.f1 h1
    have i2 := Q.esc_len (bytesOf x.f2)
    rw [bytesOf_length] at i2
    rw [Q.linesB_cons, List.length_append, Q.lineE_ofS]
    simp only [O.sumM, List.length_append, List.length_cons, List.length_nil]
    omega
theorem sizes_le : ∀ (l : List S42) (x : S42), x ∈ l → x.f2.size ≤ O.sumM (fun x => x.f2.size + 4) l
  | y :: l, x, hx => by
    simp only [O.sumM]
    rcases List.mem_cons.1 hx with rfl | hx
    · omega
    · have := sizes_le l x hx
      omega
theorem wf_i64 {n : Int} (h : (Lit.int .i64 n).wf = true) : Q.isI64 n := by
  have h2 : (decide (IntKind.i64.min ≤ n) && decide (n ≤ IntKind.i64.max)) = true := h
  simp only [Bool.and_eq_true, decide_eq_true_iff] at h2
  have e1 : IntKind.i64.min = -9223372036854775808 := by rfl
  have e2 : IntKind.i64.max = 9223372036854775807 := by rfl
  rw [e1, e2] at h2
  exact h2
end Go.Proofs.YtaihajmdngoeiaaDoor.L

-- EditsRound: the law's walk
namespace Go.Proofs.YtaihajmdngoeiaaDoor.L
open Go.RowKit Go.Proofs.YtaihajmdngoeiaaDoorW.PrintWords Go.Proofs.YtaihajmdngoeiaaDoorW.PrintLast Go.Proofs.YtaihajmdngoeiaaDoorW.PrintMore
open Go.Proofs.YtaihajmdngoeiaaDoor.F Go.Proofs.YtaihajmdngoeiaaDoor.H
set_option linter.unusedVariables false
theorem round_walk (A1 : Option Addr) (c1 : Nat) (l : List S42) (s : ByteArray) (cut : Int) (w : World) (hr : Kd.C k42 w A1 l.length l) (hc : l.length ≤ c1) (_ : A1 = none → c1 = 0) (hB : ∀ x ∈ l, B42 x) (hb : l.length * 32 ≤ 140737488351232) (hs : s.size ≤ 140737488351232) (hcut : (Lit.int .i64 cut).wf = true) (hsg : SG w) (hu : O.sumM (fun x => x.f2.size + 4) l + 1 + (s.size + 1 + 1) ≤ 1048576) :
    Calls Tryd.prog 4 #[.slice A1 l.length c1, .string s, .int .i64 cut] w fun e w' => e = .returned (.bool true) ∧ Below w.heap.size w w' := by
  have hI : ∀ x ∈ l, Q.isI64 x.f0 ∧ Q.isI64 x.f1 := fun x hx => by
    obtain ⟨h0, h1, _⟩ := hB x hx
    exact ⟨wf_i64 h0, wf_i64 h1⟩
  have hZ : ∀ x ∈ l, x.f2.size ≤ 140737488351232 := fun x hx => by have := sizes_le l x hx; omega
  have hlen := lines_len l hI
  obtain ⟨k, hk⟩ := (Q.Round_is l s cut hs (wf_i64 hcut) hI hZ (by omega) (by omega)).rounds
  exact monikerlaw1_EditsRound.calls k A1 c1 l s cut true w hr hc hk hsg
end Go.Proofs.YtaihajmdngoeiaaDoor.L


namespace Go.Proofs.YtaihajmdngoeiaaDoor.editsRound
open Go.ChangeShapes Go.WideShapes Go.ChangeAt Go.RowKit Go.Proofs.YtaihajmdngoeiaaDoor
open Go.ChangeMaps (open_string shut_string)
set_option linter.unusedVariables false
theorem own : ownKnob Tryd.prog.godebug = none := by kernel_rfl
theorem laidOut : laidOutB Tryd.prog = true := by kernel_rfl
theorem door_met (os : Os) : laidMetH Tryd.prog [("math/bits.deBruijn32tab", Rows.laid_math_bits_deBruijn32tab), ("math/bits.deBruijn64tab", Rows.laid_math_bits_deBruijn64tab), ("internal/strconv.uint64pow10", Rows.laid_internal_strconv_uint64pow10)] ((World.doorLaid Tryd.prog 62 os).forCall (fun _ _ => 0) ⟨#[], #[.slice none 0 0, .string ByteArray.empty, .int .i64 0], []⟩).memory :=
  laidMetH_of_parts3 (fuel := 8) (laidMet_of_run' 8 (by kernel_rfl) (by kernel_rfl)) (by kernel_rfl) (by kernel_rfl)
set_option maxRecDepth 100000 in
theorem reads (os : Os) {H : Type} (enc : TypeId × Value → H) : (match DataW.whole enc Tryd.prog ((World.doorLaid Tryd.prog 62 os).forCall (fun _ _ => 0) ⟨#[], #[.slice none 0 0, .string ByteArray.empty, .int .i64 0], []⟩).memory Tryd.f4.params.toList Rows.editsRoundSpec.vars false #[.slice none 0 0, .string ByteArray.empty, .int .i64 0].toList 8 with | some x => Rows.uptoSmall H (x.1 ++ x.2.1) | none => false) = true ∧ (Rows.OpenSpec.upto Rows.editsRoundSpec).bare.sizedB enc Tryd.prog Tryd.f4 false ((World.doorLaid Tryd.prog 62 os).forCall (fun _ _ => 0) ⟨#[], #[.slice none 0 0, .string ByteArray.empty, .int .i64 0], []⟩).memory #[.slice none 0 0, .string ByteArray.empty, .int .i64 0] 8 = true :=
  ⟨by kernel_rfl, by kernel_rfl⟩
set_option maxRecDepth 100000 in
theorem lifted (os : Os) (started : os.Started) (H : Type) (enc : TypeId × Value → H) (F : Stop.Interp) :
    ReturnsInHanded {} Tryd.checked os 4 .any ((Rows.OpenSpec.upto Rows.editsRoundSpec).preRow enc Tryd.prog Tryd.f4 Rows.editsRoundUptoRow.domain false Rows.editsRoundUptoRow.laid) (((Rows.OpenSpec.upto Rows.editsRoundSpec).at F).post enc Tryd.prog Tryd.f4 false true false false) := by
  obtain ⟨hm, hxs⟩ := reads os enc
  obtain ⟨x, hx, hxk⟩ : ∃ x, DataW.whole enc Tryd.prog ((World.doorLaid Tryd.prog 62 os).forCall (fun _ _ => 0) ⟨#[], #[.slice none 0 0, .string ByteArray.empty, .int .i64 0], []⟩).memory Tryd.f4.params.toList Rows.editsRoundSpec.vars false #[.slice none 0 0, .string ByteArray.empty, .int .i64 0].toList 8 = some x ∧ Rows.uptoSmall H (x.1 ++ x.2.1) = true := by
    generalize DataW.whole enc Tryd.prog ((World.doorLaid Tryd.prog 62 os).forCall (fun _ _ => 0) ⟨#[], #[.slice none 0 0, .string ByteArray.empty, .int .i64 0], []⟩).memory Tryd.f4.params.toList Rows.editsRoundSpec.vars false #[.slice none 0 0, .string ByteArray.empty, .int .i64 0].toList 8 = y at hm
    cases y with
    | none => cases hm
    | some x => exact ⟨x, rfl, hm⟩
  refine returnsInHanded_of_row (C := Tryd.checked) (s := Rows.OpenSpec.upto Rows.editsRoundSpec) own started (by kernel_rfl) Tryd.func4
    (witness_row_at (enc := enc) (C := Tryd.checked) false (World.doorLaid Tryd.prog 62 os) #[.slice none 0 0, .string ByteArray.empty, .int .i64 0] rfl (by kernel_rfl) (by kernel_rfl) (by kernel_rfl)
      (OpenSpec.preRow_of_cond 8 hx (by rfl) (fun k hk => by cases hk; exact hxk) hxs (door_met os))) ?_
  intro W base args ds gs before hval0 hW hcnd hk0 hsz0 hLaid _ _
  replace hk0 := hk0 _ rfl
  have hsz : (DataW.weightsEach Tryd.prog (Tryd.f4.params.toList ++ Rows.editsRoundSpec.plain.varTypes Tryd.prog) (ds ++ gs)).all (· ≤ reachBytes) = true := hsz0
  have hval : ∀ (j : Nat) t v, Tryd.f4.params[j]? = some t → args[j]? = some v → Value.okWide Tryd.prog W .any base t v := hval0
  have hW' := hW
  obtain ⟨p, q, hA0, hV, rfl, hfz, hnd⟩ := hW
  have hA : DataW.TrodAll enc Tryd.prog W 0 (fun _ => true) true Tryd.f4.params.toList args.toList ds p := hA0
  rw [Tryd.params4] at hA hval hsz
  obtain ⟨v0, vs0, d0, ds0, p0, q0, hargs, rfl, rfl, h0, r0⟩ := trodAll_cons hA
  obtain ⟨v1, vs1, d1, ds1, p1, q1, rfl, rfl, rfl, h1, r1⟩ := trodAll_cons r0
  obtain ⟨v2, vs2, d2, ds2, p2, q2, rfl, rfl, rfl, h2, r2⟩ := trodAll_cons r1
  obtain ⟨rfl, rfl, rfl⟩ := trodAll_nil r2
  obtain rfl : args = #[v0, v1, v2] := by cases args; simp_all
  obtain ⟨rfl, rfl⟩ := trodVars_none hV
  have hbulk : Rows.uptoBulkAll ([d0, d1, d2] ++ []) ≤ 1048576 := of_decide_eq_true hk0
  simp only [List.append_nil, Rows.uptoBulkAll, Nat.add_zero] at hbulk
  obtain ⟨a0, len0, cap0, rfl⟩ := okWide_slice Tryd.underlying22 (hval 0 22 v0 rfl rfl)
  have k0 := h0
  have lt0 : ∀ x ∈ p0, x.block < W.heap.size := by obtain ⟨m, hm⟩ := k0; exact DataW.trod_lt m _ _ _ hm
  obtain ⟨fu0, hf0⟩ := h0
  have hg0 : DataW.trod enc Tryd.prog W 0 (fun _ => true) true fu0 22 [.slice a0 len0 cap0] = some (d0, p0) := by simpa [Value.cells] using hf0
  have hq0 : ∀ n ∈ DataW.weights Tryd.prog 22 d0, n ≤ reachBytes := fun n hn => of_decide_eq_true (List.all_eq_true.1 hsz n (DataW.weights_mem_each (j := 0) rfl rfl n hn))
  obtain ⟨l0, rfl, hC0, hc0, hn0, hB0, hb0, hm0⟩ := O.open_rowU Tryd.underlying22 Go.Proofs.YtaihajmdngoeiaaDoor.H.opens42U Go.Proofs.YtaihajmdngoeiaaDoor.H.cells42 hg0 hq0
  rw [Go.Proofs.YtaihajmdngoeiaaDoor.H.bytes42] at hb0
  obtain ⟨a1, rfl, rfl, rfl, y1⟩ := open_string Tryd.underlying9 (hval 1 9 v1 rfl rfl) h1
  have w1 : a1.size ≤ 140737488351232 := by
    have z := sized_string hsz (j := 1) (t := 9) rfl rfl
    rw [Array.length_toList] at z
    exact z
  have hm1 : a1.size + 1 ≤ Rows.uptoBulk (DataW.lit (H := H) (.string a1.data.toList)) := by simp only [Rows.uptoBulk]; rw [Array.length_toList]; exact Nat.le_refl _
  obtain ⟨a2, rfl, rfl, rfl, w2⟩ := open_int Tryd.underlying3 (hval 2 3 v2 rfl rfl) h2
  have hm2 : 1 ≤ Rows.uptoBulk (DataW.lit (H := H) (.int .i64 a2)) := by simp only [Rows.uptoBulk]; exact Nat.le_refl _
  clear hA0 hval0 hsz0 hsz
  refine (L.round_walk a0 cap0 l0 a1 a2 W hC0 hc0 hn0 hB0 hb0 w1 w2 (Go.Proofs.YtaihajmdngoeiaaDoor.H.sg_of_laid hLaid) (Nat.le_trans (Nat.add_le_add hm0 (Nat.add_le_add hm1 hm2)) hbulk)).mono fun e W' ⟨he, bel⟩ => ?_
  subst he
  exact ⟨_, rfl, _, _, _, [], _, [], hW', trodAll_mk1 (shut_bool Tryd.underlying4 _), (trodAll_cons_mk (Below.trod laidOut (by kernel_rfl) (of_decide_eq_true (by kernel_rfl)) k0 bel lt0) (trodAll_cons_mk (shut_string Tryd.underlying9 y1) (trodAll_cons_mk (shut_int Tryd.underlying3 w2) trodAll_mk0))), rfl, bel.frame _, fun h => by cases h⟩
theorem over : Rows.editsRoundUptoRow.holds Tryd.pinned (Rows.OpenSpec.upto Rows.editsRoundSpec) :=
  OpenClaim.holds_of_cond 4 Tryd.f4 rfl rfl rfl rfl rfl rfl rfl ⟨rfl, rfl, rfl, rfl, rfl⟩ rfl rfl rfl rfl rfl (by kernel_rfl) Tryd.func4 (by kernel_rfl)
    (of_decide_eq_true (by kernel_rfl)) (by unfold Func.isWrapper; first | (rw [if_pos (by decide +kernel)]; kernel_rfl) | (rw [if_neg (by decide +kernel)]; exact ⟨rfl, rfl⟩))
    (fun os started H enc _ F => by rw [OpenClaim.pre_eq_preRow]; exact lifted os started H enc F)
theorem plain (f : FuncId) (fn : Func) (hf : Tryd.pinned.checked.prog.funcNamed "moniker/monikerlaw1.EditsRound" = some f) (hfn : Tryd.pinned.checked.prog.funcs[f]? = some fn) :
    true = Tryd.pinned.checked.prog.looks [] ∧ ∀ (j : Nat) t, fn.params[j]? = some t → Tryd.pinned.checked.prog.wantsStandIn t = false := by
  obtain rfl : f = 4 := Option.some.inj ((show Tryd.prog.funcNamed "moniker/monikerlaw1.EditsRound" = some 4 by kernel_rfl).symm.trans hf) |>.symm
  obtain rfl : fn = Tryd.f4 := (Option.some.inj (Tryd.func4.symm.trans hfn)).symm
  refine ⟨by kernel_rfl, fun j t ht => ?_⟩
  rw [Tryd.params4] at ht
  have hm : t ∈ [22, 9, 3] := by simpa using Array.mem_of_getElem? ht
  have hall : ([22, 9, 3].all fun u => !Tryd.prog.wantsStandIn u) = true := by kernel_rfl
  exact (show Tryd.prog.wantsStandIn t = false by simpa using List.all_eq_true.1 hall t hm)
set_option maxRecDepth 100000 in
theorem proved : Rows.EditsRoundUptoCardSaid :=
  Claim7.holds_tied_plain_at .later [] _ _ _ _ over (fun _ h => by cases h) (by kernel_rfl) (fun _ h => by cases h) editsRoundUpto_row_tie rfl ⟨rfl, rfl⟩ (by kernel_rfl) rfl plain (by kernel_rfl)
#print axioms proved
end Go.Proofs.YtaihajmdngoeiaaDoor.editsRound
namespace Go.Proofs.YtaihajmdngoeiaaDoor
/-- The card, under a short name, for the claim. -/
theorem editsRound_holds : Rows.EditsRoundUptoCardSaid := editsRound.proved
end Go.Proofs.YtaihajmdngoeiaaDoor
