import Derived.Test.YtaihajmdngoeiaaF0
namespace Go.Proofs.Ytaihajmdngoeiaa.H
open Go.RowKit Go.Proofs.YtaihajmdngoeiaaW.PrintWords Go.Proofs.YtaihajmdngoeiaaW.PrintLast Go.Proofs.YtaihajmdngoeiaaW.PrintMore
open Go.Proofs.Ytaihajmdngoeiaa.F
set_option linter.unusedVariables false
set_option linter.unusedSimpArgs false

def marks : List S42 := [⟨-9, 0, ⟨#[114, 111, 111, 109]⟩⟩, ⟨-8, 0, ⟨#[]⟩⟩, ⟨0, -7, ⟨#[]⟩⟩]
def LentPost (l : List S42) (w : World) (e : Ending) (w' : World) : Prop :=
  ∃ A, e = .returned (.slice A l.length (l.length + 3)) ∧ Kd.C k42 w' A (l.length + 3) (l ++ marks) ∧ Below w.heap.size w w'

/-- The cells of a row that came in, whatever its address. -/
theorem row_cells {w : World} {A : Option Addr} {l : List S42} (hr : Kd.C k42 w A l.length l) :
    ∃ inner, Reps (k42.K w) 3 l inner ∧ (A = none → l.length = 0) ∧ ∀ ad, A = some ad → ∀ j u, inner[j]? = some u → w.cell? (ad.add j) = some u := by
  cases A with
  | none =>
    have h0 : l.length = 0 := by
      rcases Nat.eq_zero_or_pos l.length with h | h
      · exact h
      · obtain ⟨ad, e, _⟩ := hr.2.2 h
        cases e
    obtain rfl := List.eq_nil_of_length_eq_zero h0
    exact ⟨[], Reps.none _ _, fun _ => h0, (fun ad e => by cases e)⟩
  | some ad =>
    obtain ⟨inner, h1, h2⟩ := ReadsRow.inner_ (R := k42.K w) (size := 3) hr
    exact ⟨inner, h1, (fun e => by cases e), fun ad2 e => by cases e; exact h2⟩

theorem row_one {w : World} {l : List S42} {inner : List Value} (h : Reps (k42.K w) 3 l inner) : ∀ u ∈ inner, u.oneCell' = true := by
  intro u hu
  obtain ⟨i, hi, rfl⟩ := List.mem_iff_getElem.1 hu
  have hj : i / 3 < l.length := by have := h.1; omega
  have hk := h.2 (i / 3) (l[i / 3]'hj) (List.getElem?_eq_getElem hj)
  refine k42.K_one hk _ ?_
  rw [List.mem_iff_getElem]
  refine ⟨i % 3, by rw [List.length_take, List.length_drop]; have := h.1; omega, ?_⟩
  rw [List.getElem_take, List.getElem_drop]
  congr 1
  omega

def mcells : List Value := [.int .i64 (-9), .int .i64 0, .string ⟨#[114, 111, 111, 109]⟩, .int .i64 (-8), .int .i64 0, .string ⟨#[]⟩, .int .i64 0, .int .i64 (-7), .string ⟨#[]⟩]
theorem mcell (w2 : World) (j : Nat) (u : Value) (hu : mcells[j]? = some u) : (w2.alloc (.cells mcells.toArray 42)).cell? ((⟨w2.heap.size, 0, none⟩ : Addr).add j) = some u := by
  rw [add_plain]
  rw [World.cell?_alloc_new]; simpa using hu
theorem mcells_one : ∀ u ∈ mcells, u.oneCell' = true := by
  simp [mcells, Value.oneCell']
theorem reps_marks (w : World) : Reps (k42.K w) 3 marks mcells := by
  refine ⟨rfl, fun j p hj => ?_⟩
  match j, hj with
  | 0, hj => cases hj; exact k42_mk w _
  | 1, hj => cases hj; exact k42_mk w _
  | 2, hj => cases hj; exact k42_mk w _
  | j + 3, hj => simp [marks] at hj
theorem Reps.app {α : Type} {R : α → List Value → Prop} {size : Nat} {ps qs : List α} {cs ds : List Value} (h : Reps R size ps cs) (k : Reps R size qs ds) : Reps R size (ps ++ qs) (cs ++ ds) := by
  refine ⟨by rw [List.length_append, h.1, k.1, List.length_append, Nat.add_mul], fun j q hq => ?_⟩
  rcases Nat.lt_or_ge j ps.length with hj | hj
  · rw [List.getElem?_append_left hj] at hq
    have h1 : j * size + size ≤ cs.length := by rw [h.1, ← Nat.succ_mul]; exact Nat.mul_le_mul_right _ hj
    have h2 := h.2 j q hq
    rw [List.drop_append_of_le_length (by omega), List.take_append_of_le_length (by rw [List.length_drop]; omega)]
    exact h2
  · rw [List.getElem?_append_right hj] at hq
    have h2 := k.2 _ q hq
    have e : j * size = cs.length + (j - ps.length) * size := by rw [h.1, ← Nat.add_mul]; congr 1; omega
    rw [e, List.drop_append, List.drop_eq_nil_of_le (by omega), List.nil_append, Nat.add_sub_cancel_left]
    exact h2
theorem Kd.C_of_own42 {w w3 : World} {base g c : Nat} {l : List S42} {inner : List Value} (hR : Reps (k42.K w) 3 l inner) (h : w3.ownsRow base 42 3 (.slice (some ⟨g, 0, none⟩) (l.length + 3) c) (l.length + 3) (inner ++ mcells)) :
    Kd.C k42 w3 (some ⟨g, 0, none⟩) (l.length + 3) (l ++ marks) := by
  have hk : ∀ (p : S42) cs, k42.K w p cs → k42.K w3 p cs := fun p cs h => by rw [k42_open h]; exact k42_mk w3 p
  obtain ⟨A, c', he, hrow⟩ := own_reads_row (R := k42.K w3) (ps := l ++ marks) h (Reps.app (Reps.imp_ hR hk) (reps_marks w3)) (by simp [marks])
  injection he with h1 _ _
  subst h1
  exact hrow

set_option maxHeartbeats 1000000 in
theorem lent_calls (A0 : Option Addr) (c0 : Nat) (l : List S42) (w : World) (hr : Kd.C k42 w A0 l.length l) (hc : l.length ≤ c0) (hn : A0 = none → c0 = 0) (hb : l.length * 32 ≤ 140737488351232) :
    Calls Try.prog 15 #[.slice A0 l.length c0] w (LentPost l w) := by
  have hu42 := Try.underlying42
  obtain ⟨i, hi, hz0, hz1, hz2⟩ := info_parts info42
  obtain ⟨inner, hR, hA, hcell⟩ := row_cells hr
  have HR := Aside0.mk hR
  have hlen : inner.length = l.length * 3 := hR.1
  have HL := Aside0.mk hlen
  have HC := Aside0.mk hcell
  have HN := Aside0.mk hn
  have HA := Aside0.mk hA
  have HB2 := Aside0.mk hz2
  have HI := Aside0.mk hi
  have HZ0 := Aside0.mk hz0
  have HZ1 := Aside0.mk hz1
  clear hR hcell hr hn hA hlen hz2 hi hz0 hz1
  have hl : l.length ≤ 4398046510976 := by omega
  go_enter Try.func15, Try.ntmps15
  go_wp2_with (first
    | ((with_reducible refine gate_dst (N := 7) rfl ?_); refine wpList_make_own _ rfl _ _ 22 rfl w.heap.size 42 i _ 3 Try.underlying22 HI.out HZ0.out HZ1.out _ _ _ (l.length + 3) rfl rfl (by first | rfl | (simp; done) | omega) (by rw [HB2.out]; omega) (by unfold maxLen; omega) (Nat.le_refl _) ?_; intro w1 hown1 hg1; have HO1 := Aside0.mk hown1; have HG1 := Aside0.mk hg1; clear hown1 hg1)
    | ((with_reducible refine gate_dst (N := 10) rfl ?_); refine wpList_append_fits_any _ rfl _ _ 22 rfl w.heap.size 42 i 3 Try.underlying22 HI.out HZ1.out w.heap.size 0 (l.length + 3) [] rfl HO1.out A0 l.length c0 inner rfl HL.out (fun e => ⟨HA.out e, HN.out e⟩) (fun ad e j u hu => HG1.out.cell (HC.out ad e j u hu) (by simp)) (row_one HR.out) (by omega) ?_; intro w2 hown2 hg2; simp only [Nat.zero_add, List.nil_append] at hown2; have HO2 := Aside0.mk hown2; have HG2 := Aside0.mk hg2; clear hown2 hg2; rw [Nat.zero_add])
    | ((with_reducible refine gate_dst (N := 16) rfl ?_); refine wpList_append_fits _ rfl _ _ 22 rfl w.heap.size 42 i 3 Try.underlying22 HI.out HZ1.out w.heap.size l.length (l.length + 3) inner rfl (HO2.out.alloc _) ⟨w2.heap.size, 0, none⟩ 3 3 mcells rfl rfl (fun j u hu => mcell w2 j u hu) mcells_one (by omega) ?_; intro w3 hown3 hg3; have HO3 := Aside0.mk hown3; have HG3 := Aside0.mk hg3; clear hown3 hg3))
  go_ret
  obtain ⟨o1, o2⟩ := HO3.out
  refine ⟨_, rfl, ?_, ?_⟩
  · refine Kd.C_of_own42 HR.out HO3.out
  · have b1 := (Below.refl w.heap.size w).grown HG1.out (Nat.le_refl _) (by simp)
    have b2 := b1.grown HG2.out b1.size (by rintro k ⟨⟩; exact Nat.le_refl _)
    have b3 := b2.alloc b2.size (.cells mcells.toArray 42)
    exact b3.grown HG3.out (Nat.le_trans b2.size (by simp)) (by rintro k ⟨⟩; exact Nat.le_refl _)
end Go.Proofs.Ytaihajmdngoeiaa.H
