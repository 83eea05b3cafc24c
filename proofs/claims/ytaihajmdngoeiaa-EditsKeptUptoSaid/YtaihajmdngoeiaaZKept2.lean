/- The law EditsKept of package monikerlaw holds of the given program: called with any arguments that can be read as data, together of bulk at most 1048576, it returns true, and its arguments read behind the call as before. Conditions: those of the given row '..Upto', no others. -/
import Derived.Test.YtaihajmdngoeiaaZKept1
import Derived.Test.YtaihajmdngoeiaaWMore
import Derived.SizedLaws
import Derived.ChangeSlices
import Derived.Deep.Slices
import Derived.Test.YtaihajmdngoeiaaRows
import Derived.JoinedCond
import Derived.ChangeArms
import Derived.WalkKit
import Derived.ProofKit
import Derived.OpenShut
import Derived.ShutString
import Derived.ChangeOld
import Derived.Below
-- A text of this session's own program (wip/myprint.sh over a changed print tool): functions and their walks
namespace Go.Proofs.Ytaihajmdngoeiaa.F
open Go.RowKit Go.Proofs.YtaihajmdngoeiaaW.PrintWords Go.Proofs.YtaihajmdngoeiaaW.PrintLast Go.Proofs.YtaihajmdngoeiaaW.PrintMore
attribute [local go_sem] max2_int min2_int max_two min_two max_three min_three max_four min_four   -- for this text's walks alone
set_option linter.unusedVariables false
set_option linter.unusedSimpArgs false

/-! ### monikerlaw1_EditsKept: function 8 -/
mutual
def monikerlaw1_EditsKept.l0 : Nat → ByteArray → List (S42) → ByteArray → Int → Int → Int → Option (Bool)
  | 0, _, _, _, _, _, _ => none
  | k + 1, x0, x1, x5, x7, x8, x9 => if x9 ≤ (x0.size : Int) then (monikerlaw1_EditsKept.l1 k x0 x1 x5 x7 x8 x9) else (some (x7 == (x5.size : Int)))
def monikerlaw1_EditsKept.j2 : Nat → ByteArray → List (S42) → ByteArray → Int → Int → Int → Option (Bool)
  | 0, _, _, _, _, _, _ => none
  | k + 1, x0, x1, x5, x7, x8, x9 => (edits_Shift.f k x1 x9).bind fun bt351 => (if x8 = (x1.length : Int) then (monikerlaw1_EditsKept.j3 k x0 x1 x5 x7 x8 x9 bt351.1 bt351.2 (bt351.2 != true)) else (if 0 ≤ x8 then (if x8 < (x1.length : Int) then (monikerlaw1_EditsKept.j3 k x0 x1 x5 x7 x8 x9 bt351.1 bt351.2 (bt351.2 != (decide (x9 ≤ ((rd_T42 x1 x8).f0))))) else (none)) else (none)))
def monikerlaw1_EditsKept.j3 : Nat → ByteArray → List (S42) → ByteArray → Int → Int → Int → Int → Bool → Bool → Option (Bool)
  | 0, _, _, _, _, _, _, _, _, _ => none
  | k + 1, x0, x1, x5, x7, x8, x9, x10, x11, x62 => if x62 = true then (some false) else (if x11 = true then (if x10 < x7 then (monikerlaw1_EditsKept.j4 k x0 x1 x5 x8 x9 x10 true) else (monikerlaw1_EditsKept.j4 k x0 x1 x5 x8 x9 x10 (decide (x10 > (x5.size : Int))))) else (monikerlaw1_EditsKept.l0 k x0 x1 x5 x7 x8 (wrap64 (x9 + 1))))
def monikerlaw1_EditsKept.j4 : Nat → ByteArray → List (S42) → ByteArray → Int → Int → Int → Bool → Option (Bool)
  | 0, _, _, _, _, _, _, _ => none
  | k + 1, x0, x1, x5, x8, x9, x10, x73 => if x73 = true then (some false) else (if x9 = (x0.size : Int) then (monikerlaw1_EditsKept.l0 k x0 x1 x5 x10 x8 (wrap64 (x9 + 1))) else (if x8 < (x1.length : Int) then (if 0 ≤ x8 then (if (((rd_T42 x1 x8).f0) ≤ x9) then (monikerlaw1_EditsKept.l0 k x0 x1 x5 x10 x8 (wrap64 (x9 + 1))) else (if 0 ≤ x10 then (if x10 < (x5.size : Int) then (if 0 ≤ x9 then (if x9 < (x0.size : Int) then (if (bt x5 x10) = (bt x0 x9) then (monikerlaw1_EditsKept.l0 k x0 x1 x5 x10 x8 (wrap64 (x9 + 1))) else (some false)) else (none)) else (none)) else (none)) else (none))) else (none)) else (if 0 ≤ x10 then (if x10 < (x5.size : Int) then (if 0 ≤ x9 then (if x9 < (x0.size : Int) then (if (bt x5 x10) = (bt x0 x9) then (monikerlaw1_EditsKept.l0 k x0 x1 x5 x10 x8 (wrap64 (x9 + 1))) else (some false)) else (none)) else (none)) else (none)) else (none))))
def monikerlaw1_EditsKept.l1 : Nat → ByteArray → List (S42) → ByteArray → Int → Int → Int → Option (Bool)
  | 0, _, _, _, _, _, _ => none
  | k + 1, x0, x1, x5, x7, x8, x9 => if x8 < (x1.length : Int) then (if 0 ≤ x8 then (if ((rd_T42 x1 x8).f1) ≤ x9 then (monikerlaw1_EditsKept.l1 k x0 x1 x5 x7 (wrap64 (x8 + 1)) x9) else (monikerlaw1_EditsKept.j2 k x0 x1 x5 x7 x8 x9)) else (none)) else (monikerlaw1_EditsKept.j2 k x0 x1 x5 x7 x8 x9)
end
def monikerlaw1_EditsKept.f (k : Nat) (a0 : ByteArray) (l1 : List (S42)) : Option (Bool) := (edits_Apply.f k a0 l1).bind fun bt348 => (if bt348.2 = 0 then (monikerlaw1_EditsKept.l0 k a0 l1 bt348.1 0 0 0) else (some true))
theorem monikerlaw1_EditsKept.mono_l : ∀ k, (∀ y0 y1 y2 y3 y4 y5, LeO (monikerlaw1_EditsKept.l0 k y0 y1 y2 y3 y4 y5) (monikerlaw1_EditsKept.l0 (k + 1) y0 y1 y2 y3 y4 y5)) ∧ (∀ y0 y1 y2 y3 y4 y5, LeO (monikerlaw1_EditsKept.j2 k y0 y1 y2 y3 y4 y5) (monikerlaw1_EditsKept.j2 (k + 1) y0 y1 y2 y3 y4 y5)) ∧ (∀ y0 y1 y2 y3 y4 y5 y6 y7 y8, LeO (monikerlaw1_EditsKept.j3 k y0 y1 y2 y3 y4 y5 y6 y7 y8) (monikerlaw1_EditsKept.j3 (k + 1) y0 y1 y2 y3 y4 y5 y6 y7 y8)) ∧ (∀ y0 y1 y2 y3 y4 y5 y6, LeO (monikerlaw1_EditsKept.j4 k y0 y1 y2 y3 y4 y5 y6) (monikerlaw1_EditsKept.j4 (k + 1) y0 y1 y2 y3 y4 y5 y6)) ∧ (∀ y0 y1 y2 y3 y4 y5, LeO (monikerlaw1_EditsKept.l1 k y0 y1 y2 y3 y4 y5) (monikerlaw1_EditsKept.l1 (k + 1) y0 y1 y2 y3 y4 y5))
  | 0 => ⟨fun _ _ _ _ _ _ r h => by simp [monikerlaw1_EditsKept.l0] at h, fun _ _ _ _ _ _ r h => by simp [monikerlaw1_EditsKept.j2] at h, fun _ _ _ _ _ _ _ _ _ r h => by simp [monikerlaw1_EditsKept.j3] at h, fun _ _ _ _ _ _ _ r h => by simp [monikerlaw1_EditsKept.j4] at h, fun _ _ _ _ _ _ r h => by simp [monikerlaw1_EditsKept.l1] at h⟩
  | k + 1 => by
    obtain ⟨ih0, ih1, ih2, ih3, ih4⟩ := monikerlaw1_EditsKept.mono_l k
    refine ⟨?_, ?_, ?_, ?_, ?_⟩
    · intro y0 y1 y2 y3 y4 y5
      unfold monikerlaw1_EditsKept.l0
      repeat' first
      | (with_reducible exact ih0 _ _ _ _ _ _)
      | (with_reducible exact ih1 _ _ _ _ _ _)
      | (with_reducible exact ih2 _ _ _ _ _ _ _ _ _)
      | (with_reducible exact ih3 _ _ _ _ _ _ _)
      | (with_reducible exact ih4 _ _ _ _ _ _)
      | (with_reducible exact edits_Apply.mono _ _ _)
      | (with_reducible exact edits_Shift.mono _ _ _)
      | (with_reducible exact LeO.refl _)
      | (with_reducible exact LeO.none _)
      | (with_reducible refine LeO.ite ?_ ?_)
      | (with_reducible refine LeO.bind ?_ (fun _ => ?_))
      | exact ih0 _ _ _ _ _ _
      | exact ih1 _ _ _ _ _ _
      | exact ih2 _ _ _ _ _ _ _ _ _
      | exact ih3 _ _ _ _ _ _ _
      | exact ih4 _ _ _ _ _ _
      | exact edits_Apply.mono _ _ _
      | exact edits_Shift.mono _ _ _
      | exact LeO.none _
      | refine LeO.ite ?_ ?_
      | refine LeO.bind ?_ (fun _ => ?_)
    · intro y0 y1 y2 y3 y4 y5
      unfold monikerlaw1_EditsKept.j2
      repeat' first
      | (with_reducible exact ih0 _ _ _ _ _ _)
      | (with_reducible exact ih1 _ _ _ _ _ _)
      | (with_reducible exact ih2 _ _ _ _ _ _ _ _ _)
      | (with_reducible exact ih3 _ _ _ _ _ _ _)
      | (with_reducible exact ih4 _ _ _ _ _ _)
      | (with_reducible exact edits_Apply.mono _ _ _)
      | (with_reducible exact edits_Shift.mono _ _ _)
      | (with_reducible exact LeO.refl _)
      | (with_reducible exact LeO.none _)
      | (with_reducible refine LeO.ite ?_ ?_)
      | (with_reducible refine LeO.bind ?_ (fun _ => ?_))
      | exact ih0 _ _ _ _ _ _
      | exact ih1 _ _ _ _ _ _
      | exact ih2 _ _ _ _ _ _ _ _ _
      | exact ih3 _ _ _ _ _ _ _
      | exact ih4 _ _ _ _ _ _
      | exact edits_Apply.mono _ _ _
      | exact edits_Shift.mono _ _ _
      | exact LeO.none _
      | refine LeO.ite ?_ ?_
      | refine LeO.bind ?_ (fun _ => ?_)
    · intro y0 y1 y2 y3 y4 y5 y6 y7 y8
      unfold monikerlaw1_EditsKept.j3
      repeat' first
      | (with_reducible exact ih0 _ _ _ _ _ _)
      | (with_reducible exact ih1 _ _ _ _ _ _)
      | (with_reducible exact ih2 _ _ _ _ _ _ _ _ _)
      | (with_reducible exact ih3 _ _ _ _ _ _ _)
      | (with_reducible exact ih4 _ _ _ _ _ _)
      | (with_reducible exact edits_Apply.mono _ _ _)
      | (with_reducible exact edits_Shift.mono _ _ _)
      | (with_reducible exact LeO.refl _)
      | (with_reducible exact LeO.none _)
      | (with_reducible refine LeO.ite ?_ ?_)
      | (with_reducible refine LeO.bind ?_ (fun _ => ?_))
      | exact ih0 _ _ _ _ _ _
      | exact ih1 _ _ _ _ _ _
      | exact ih2 _ _ _ _ _ _ _ _ _
      | exact ih3 _ _ _ _ _ _ _
      | exact ih4 _ _ _ _ _ _
      | exact edits_Apply.mono _ _ _
      | exact edits_Shift.mono _ _ _
      | exact LeO.none _
      | refine LeO.ite ?_ ?_
      | refine LeO.bind ?_ (fun _ => ?_)
    · intro y0 y1 y2 y3 y4 y5 y6
      unfold monikerlaw1_EditsKept.j4
      repeat' first
      | (with_reducible exact ih0 _ _ _ _ _ _)
      | (with_reducible exact ih1 _ _ _ _ _ _)
      | (with_reducible exact ih2 _ _ _ _ _ _ _ _ _)
      | (with_reducible exact ih3 _ _ _ _ _ _ _)
      | (with_reducible exact ih4 _ _ _ _ _ _)
      | (with_reducible exact edits_Apply.mono _ _ _)
      | (with_reducible exact edits_Shift.mono _ _ _)
      | (with_reducible exact LeO.refl _)
      | (with_reducible exact LeO.none _)
      | (with_reducible refine LeO.ite ?_ ?_)
      | (with_reducible refine LeO.bind ?_ (fun _ => ?_))
      | exact ih0 _ _ _ _ _ _
      | exact ih1 _ _ _ _ _ _
      | exact ih2 _ _ _ _ _ _ _ _ _
      | exact ih3 _ _ _ _ _ _ _
      | exact ih4 _ _ _ _ _ _
      | exact edits_Apply.mono _ _ _
      | exact edits_Shift.mono _ _ _
      | exact LeO.none _
      | refine LeO.ite ?_ ?_
      | refine LeO.bind ?_ (fun _ => ?_)
    · intro y0 y1 y2 y3 y4 y5
      unfold monikerlaw1_EditsKept.l1
      repeat' first
      | (with_reducible exact ih0 _ _ _ _ _ _)
      | (with_reducible exact ih1 _ _ _ _ _ _)
      | (with_reducible exact ih2 _ _ _ _ _ _ _ _ _)
      | (with_reducible exact ih3 _ _ _ _ _ _ _)
      | (with_reducible exact ih4 _ _ _ _ _ _)
      | (with_reducible exact edits_Apply.mono _ _ _)
      | (with_reducible exact edits_Shift.mono _ _ _)
      | (with_reducible exact LeO.refl _)
      | (with_reducible exact LeO.none _)
      | (with_reducible refine LeO.ite ?_ ?_)
      | (with_reducible refine LeO.bind ?_ (fun _ => ?_))
      | exact ih0 _ _ _ _ _ _
      | exact ih1 _ _ _ _ _ _
      | exact ih2 _ _ _ _ _ _ _ _ _
      | exact ih3 _ _ _ _ _ _ _
      | exact ih4 _ _ _ _ _ _
      | exact edits_Apply.mono _ _ _
      | exact edits_Shift.mono _ _ _
      | exact LeO.none _
      | refine LeO.ite ?_ ?_
      | refine LeO.bind ?_ (fun _ => ?_)
theorem monikerlaw1_EditsKept.mono : ∀ a0 a1 k, LeO (monikerlaw1_EditsKept.f k a0 a1) (monikerlaw1_EditsKept.f (k + 1) a0 a1) := by
  intro a0 a1 k
  obtain ⟨ih0, ih1, ih2, ih3, ih4⟩ := monikerlaw1_EditsKept.mono_l k
  unfold monikerlaw1_EditsKept.f
  repeat' first
      | (with_reducible exact ih0 _ _ _ _ _ _)
      | (with_reducible exact ih1 _ _ _ _ _ _)
      | (with_reducible exact ih2 _ _ _ _ _ _ _ _ _)
      | (with_reducible exact ih3 _ _ _ _ _ _ _)
      | (with_reducible exact ih4 _ _ _ _ _ _)
      | (with_reducible exact edits_Apply.mono _ _ _)
      | (with_reducible exact edits_Shift.mono _ _ _)
      | (with_reducible exact LeO.refl _)
      | (with_reducible exact LeO.none _)
      | (with_reducible refine LeO.ite ?_ ?_)
      | (with_reducible refine LeO.bind ?_ (fun _ => ?_))
      | exact ih0 _ _ _ _ _ _
      | exact ih1 _ _ _ _ _ _
      | exact ih2 _ _ _ _ _ _ _ _ _
      | exact ih3 _ _ _ _ _ _ _
      | exact ih4 _ _ _ _ _ _
      | exact edits_Apply.mono _ _ _
      | exact edits_Shift.mono _ _ _
      | exact LeO.none _
      | refine LeO.ite ?_ ?_
      | refine LeO.bind ?_ (fun _ => ?_)
set_option maxHeartbeats 8000000 in
set_option maxRecDepth 100000 in
theorem monikerlaw1_EditsKept.calls (k : Nat) (a0 : ByteArray) (A1 : Option Addr) (c1 : Nat) (l1 : List (S42)) (r : Bool) (w : World) (hr1 : Kd.C k42 w A1 l1.length l1) (hc1 : l1.length ≤ c1) (h : monikerlaw1_EditsKept.f k a0 l1 = some r) :
    Calls Try.prog 8 #[.string a0, .slice A1 l1.length c1] w fun e w' => e = .returned (.bool r) ∧ Below w.heap.size w w' := by
  have HR1 := Aside0.mk hr1
  have HC1 := Aside0.mk hc1
  clear hr1 hc1
  have HB := Aside0.mk (Below.refl w.heap.size w)
  have H : ((edits_Apply.f k a0 l1).bind fun bt348 => (if bt348.2 = 0 then (monikerlaw1_EditsKept.l0 k a0 l1 bt348.1 0 0 0) else (some true))) = some r := h
  clear h
  replace H := Option.bind_eq_some_iff.mp H
  obtain ⟨⟨t348, t349⟩, A30, H⟩ := H
  replace H : (if t349 = 0 then (monikerlaw1_EditsKept.l0 k a0 l1 t348 0 0 0) else (some true)) = some r := H
  have A3 := Aside0.mk A30
  clear A30
  by_cases c4 : t349 = 0
  · rw [if_pos c4] at H
    have c4b0 : (t349 == 0) = true := beq_iff_eq.mpr c4
    have c4b1 : (t349 != 0) = false := bne_eq_false_iff_eq.mpr c4
    clear c4
    have H' := Aside0.mk H
    clear H
    go_enter Try.func8, Try.ntmps8
    go_wp2_with (first | (go_at_call 24; (with_reducible refine (edits_Apply.calls k a0 _ _ l1 t348 t349 _ ?side1 ?side2 A3.out).mono ?_); (case side1 => repeat (first | exact HR1.out | (with_reducible refine Kd.C_alloc ?_ _) | (with_reducible refine Kd.C_drewN ?_ _) | (with_reducible refine Kd.C_drew ?_))); (case side2 => exact HC1.out); rintro e w5 ⟨rfl, hb⟩; have n0_ := Aside0.mk (below_step (by repeat (first | (with_reducible first | exact HB.out | apply below_alloc | apply pw_below_drewN | apply below_drew1) | exact HB.out)) hb); clear HB; have HB := n0_; clear n0_; (try clear hb); (try clear hb2); (try clear hk); (try clear hi)))
    repeat (go_quiet (first | (go_at_call 24; (with_reducible refine (edits_Apply.calls k a0 _ _ l1 t348 t349 _ ?side1 ?side2 A3.out).mono ?_); (case side1 => repeat (first | exact HR1.out | (with_reducible refine Kd.C_alloc ?_ _) | (with_reducible refine Kd.C_drewN ?_ _) | (with_reducible refine Kd.C_drew ?_))); (case side2 => exact HC1.out); rintro e w5 ⟨rfl, hb⟩; have n0_ := Aside0.mk (below_step (by repeat (first | (with_reducible first | exact HB.out | apply below_alloc | apply pw_below_drewN | apply below_drew1) | exact HB.out)) hb); clear HB; have HB := n0_; clear n0_; (try clear hb); (try clear hb2); (try clear hk); (try clear hi))); try go_wp2_with (first | (go_at_call 24; (with_reducible refine (edits_Apply.calls k a0 _ _ l1 t348 t349 _ ?side1 ?side2 A3.out).mono ?_); (case side1 => repeat (first | exact HR1.out | (with_reducible refine Kd.C_alloc ?_ _) | (with_reducible refine Kd.C_drewN ?_ _) | (with_reducible refine Kd.C_drew ?_))); (case side2 => exact HC1.out); rintro e w5 ⟨rfl, hb⟩; have n0_ := Aside0.mk (below_step (by repeat (first | (with_reducible first | exact HB.out | apply below_alloc | apply pw_below_drewN | apply below_drew1) | exact HB.out)) hb); clear HB; have HB := n0_; clear n0_; (try clear hb); (try clear hb2); (try clear hk); (try clear hi))))
    go_loopg [7, 8, 9] k (fun kq v7 v8 v9 w' => ∃ (x7_1 : Int) (x8_1 : Int) (x9_1 : Int), v7 = .int .i64 x7_1 ∧ v8 = .int .i64 x8_1 ∧ v9 = .int .i64 x9_1 ∧ Aside0 (monikerlaw1_EditsKept.l0 kq a0 l1 t348 x7_1 x8_1 x9_1 = some r) ∧ Aside0 (kq ≤ k) ∧ Aside0 (Below w.heap.size w w'))
    case atStart => exact ⟨(0), (0), (0), (by first | rfl | (simp; done) | (simp [*]; done)), (by first | rfl | (simp; done) | (simp [*]; done)), (by first | rfl | (simp; done) | (simp [*]; done)), H', ⟨Nat.le_refl _⟩, ⟨by repeat (first | (with_reducible first | exact HB.out | apply below_alloc | apply pw_below_drewN | apply below_drew1) | exact HB.out)⟩⟩
    case round =>
      clear H'
      try clear c1
      try clear p2
      try clear c4
      try clear c4b0
      try clear c4b1
      obtain ⟨x7_1, x8_1, x9_1, rfl, rfl, rfl, HA, HK1, HB⟩ := hrel
      cases gk with
      | zero => exact absurd HA.out (by simp [monikerlaw1_EditsKept.l0])
      | succ k1 =>
        have H := HA.out
        clear HA
        simp only [monikerlaw1_EditsKept.l0] at H
        by_cases c6 : x9_1 ≤ (a0.size : Int)
        · rw [if_pos c6] at H
          have c6b0 : decide (x9_1 ≤ (a0.size : Int)) = true := decide_eq_true c6
          clear c6
          have HC7 := Aside0.mk H
          clear H
          go_upto_block 2 with (fail)
          repeat (go_quiet (fail); go_upto_block 2 with (fail))
          go_cut [8] (fun v8 wc => ∃ (kq : Nat) (x8_6 : Int), v8 = .int .i64 x8_6 ∧ Aside0 (monikerlaw1_EditsKept.j2 kq a0 l1 t348 x7_1 x8_6 x9_1 = some r) ∧ Aside0 (kq ≤ k1) ∧ Aside0 (Below w.heap.size w wc))
          case first =>
            have H := HC7.out
            clear HC7
            have H' := Aside0.mk H
            clear H
            go_wp2
            repeat (go_quiet (fail); try go_wp2)
            go_loopg [8] k1 (fun kq v8 w' => ∃ (x8_2 : Int), v8 = .int .i64 x8_2 ∧ Aside0 (monikerlaw1_EditsKept.l1 kq a0 l1 t348 x7_1 x8_2 x9_1 = some r) ∧ Aside0 (kq ≤ k1) ∧ Aside0 (Below w.heap.size w w'))
            case atStart => exact ⟨(x8_1), (by first | rfl | (simp; done) | (simp [*]; done)), H', ⟨Nat.le_refl _⟩, ⟨by repeat (first | (with_reducible first | exact HB.out | apply below_alloc | apply pw_below_drewN | apply below_drew1) | exact HB.out)⟩⟩
            case round =>
              clear H'
              try clear c1
              try clear p2
              try clear c4
              try clear c4b0
              try clear c4b1
              try clear c6
              try clear c6b0
              try clear p2
              obtain ⟨x8_2, rfl, HA, HK2, HB⟩ := hrel
              cases gk with
              | zero => exact absurd HA.out (by simp [monikerlaw1_EditsKept.l1])
              | succ k2 =>
                have H := HA.out
                clear HA
                simp only [monikerlaw1_EditsKept.l1] at H
                by_cases c8 : x8_2 < (l1.length : Int)
                · rw [if_pos c8] at H
                  have c8b0 : decide (x8_2 < (l1.length : Int)) = true := decide_eq_true c8
                  clear c8
                  (first | rw [c8b0] | (simp only [i64_w, i32_w]; rw [c8b0]) | skip)
                  by_cases c9 : 0 ≤ x8_2
                  · rw [if_pos c9] at H
                    have c9b0 : decide (0 ≤ x8_2) = true := decide_eq_true c9
                    clear c9
                    by_cases c10 : ((rd_T42 l1 x8_2).f1) ≤ x9_1
                    · rw [if_pos c10] at H
                      have c10b0 : decide (((rd_T42 l1 x8_2).f1) ≤ x9_1) = true := decide_eq_true c10
                      clear c10
                      have H' := Aside0.mk H
                      clear H
                      have p350 : 0 ≤ (x8_2 : Int) := of_decide_eq_true (by first | (with_reducible assumption) | assumption)
                      have q350 : x8_2 < (l1.length : Int) := of_decide_eq_true (by first | (with_reducible assumption) | assumption)
                      obtain ⟨ad350, e350, hx350_0, hx350_1, hx350_2⟩ := at_T42 HR1.out x8_2 p350 q350
                      cases e350
                      replace hx350_0 := (HB.out.cell (World.block_lt_of_cell? w _ hx350_0)).trans hx350_0
                      replace hx350_1 := (HB.out.cell (World.block_lt_of_cell? w _ hx350_1)).trans hx350_1
                      replace hx350_2 := (HB.out.cell (World.block_lt_of_cell? w _ hx350_2)).trans hx350_2
                      replace p350 := eq_true p350
                      replace q350 := eq_true q350
                      go_wp2
                      repeat (go_quiet (fail); try go_wp2)
                      go_roundg k2
                      case measure => have := HK1.out; have := HK2.out; omega
                      case rel => exact ⟨(wrap64 (x8_2 + 1)), (by first | rfl | (simp; done) | (simp [*]; done)), H', ⟨by have := HK1.out; have := HK2.out; omega⟩, ⟨by repeat (first | (with_reducible first | exact HB.out | apply below_alloc | apply pw_below_drewN | apply below_drew1) | exact HB.out)⟩⟩
                    · rw [if_neg c10] at H
                      have c10b0 : decide (((rd_T42 l1 x8_2).f1) ≤ x9_1) = false := decide_eq_false c10
                      clear c10
                      have H' := Aside0.mk H
                      clear H
                      have p350 : 0 ≤ (x8_2 : Int) := of_decide_eq_true (by first | (with_reducible assumption) | assumption)
                      have q350 : x8_2 < (l1.length : Int) := of_decide_eq_true (by first | (with_reducible assumption) | assumption)
                      obtain ⟨ad350, e350, hx350_0, hx350_1, hx350_2⟩ := at_T42 HR1.out x8_2 p350 q350
                      cases e350
                      replace hx350_0 := (HB.out.cell (World.block_lt_of_cell? w _ hx350_0)).trans hx350_0
                      replace hx350_1 := (HB.out.cell (World.block_lt_of_cell? w _ hx350_1)).trans hx350_1
                      replace hx350_2 := (HB.out.cell (World.block_lt_of_cell? w _ hx350_2)).trans hx350_2
                      replace p350 := eq_true p350
                      replace q350 := eq_true q350
                      go_wp2
                      repeat (go_quiet (fail); try go_wp2)
                      go_meet
                      case rel => exact ⟨_, (x8_2), (by first | rfl | (simp; done) | (simp [*]; done)), H', ⟨by have := HK1.out; have := HK2.out; first | omega | exact Nat.le_refl _⟩, ⟨by repeat (first | (with_reducible first | exact HB.out | apply below_alloc | apply pw_below_drewN | apply below_drew1) | exact HB.out)⟩⟩
                  · rw [if_neg c9] at H
                    exact absurd H (by simp)
                · rw [if_neg c8] at H
                  have c8b0 : decide (x8_2 < (l1.length : Int)) = false := decide_eq_false c8
                  clear c8
                  (first | rw [c8b0] | (simp only [i64_w, i32_w]; rw [c8b0]) | skip)
                  have H' := Aside0.mk H
                  clear H
                  go_wp2
                  repeat (go_quiet (fail); try go_wp2)
                  go_meet
                  case rel => exact ⟨_, (x8_2), (by first | rfl | (simp; done) | (simp [*]; done)), H', ⟨by have := HK1.out; have := HK2.out; first | omega | exact Nat.le_refl _⟩, ⟨by repeat (first | (with_reducible first | exact HB.out | apply below_alloc | apply pw_below_drewN | apply below_drew1) | exact HB.out)⟩⟩
          case rest =>
            clear HC7
            try clear c1
            try clear p2
            try clear p3
            try clear q3
            try clear hx3
            try clear c4
            try clear c4b0
            try clear c4b1
            try clear c6
            try clear c6b0
            try clear p6
            try clear c8
            try clear c8b0
            try clear c9
            try clear c9b0
            try clear c10
            try clear c10b0
            try clear hx350_0
            try clear hx350_1
            try clear hx350_2
            try clear p2
            try clear p350
            try clear q350
            obtain ⟨kq, x8_6, rfl, HA, HJ6, HB⟩ := hcut
            cases kq with
            | zero => exact absurd HA.out (by simp [monikerlaw1_EditsKept.j2])
            | succ kj6 =>
              have H := HA.out
              clear HA
              simp only [monikerlaw1_EditsKept.j2] at H
              replace H := Option.bind_eq_some_iff.mp H
              obtain ⟨⟨t351, t352⟩, A110, H⟩ := H
              replace H : (if x8_6 = (l1.length : Int) then (monikerlaw1_EditsKept.j3 kj6 a0 l1 t348 x7_1 x8_6 x9_1 t351 t352 (t352 != true)) else (if 0 ≤ x8_6 then (if x8_6 < (l1.length : Int) then (monikerlaw1_EditsKept.j3 kj6 a0 l1 t348 x7_1 x8_6 x9_1 t351 t352 (t352 != (decide (x9_1 ≤ ((rd_T42 l1 x8_6).f0))))) else (none)) else (none))) = some r := H
              have A11 := Aside0.mk A110
              clear A110
              have HC12 := Aside0.mk H
              clear H
              go_upto_region 12 with (first | (go_at_call 22; (with_reducible refine (edits_Shift.calls kj6 _ _ l1 x9_1 t351 t352 _ ?side1 ?side2 A11.out).mono ?_); (case side1 => repeat (first | exact (Kd.C_below HR1.out HB.out) | (with_reducible refine Kd.C_alloc ?_ _) | (with_reducible refine Kd.C_drewN ?_ _) | (with_reducible refine Kd.C_drew ?_))); (case side2 => exact HC1.out); rintro e w13 ⟨rfl, hb⟩; have n0_ := Aside0.mk (below_step (by repeat (first | (with_reducible first | exact HB.out | apply below_alloc | apply pw_below_drewN | apply below_drew1) | exact HB.out)) hb); clear HB; have HB := n0_; clear n0_; (try clear hb); (try clear hb2); (try clear hk); (try clear hi)))
              repeat (go_quiet (first | (go_at_call 22; (with_reducible refine (edits_Shift.calls kj6 _ _ l1 x9_1 t351 t352 _ ?side1 ?side2 A11.out).mono ?_); (case side1 => repeat (first | exact (Kd.C_below HR1.out HB.out) | (with_reducible refine Kd.C_alloc ?_ _) | (with_reducible refine Kd.C_drewN ?_ _) | (with_reducible refine Kd.C_drew ?_))); (case side2 => exact HC1.out); rintro e w13 ⟨rfl, hb⟩; have n0_ := Aside0.mk (below_step (by repeat (first | (with_reducible first | exact HB.out | apply below_alloc | apply pw_below_drewN | apply below_drew1) | exact HB.out)) hb); clear HB; have HB := n0_; clear n0_; (try clear hb); (try clear hb2); (try clear hk); (try clear hi))); go_upto_region 12 with (first | (go_at_call 22; (with_reducible refine (edits_Shift.calls kj6 _ _ l1 x9_1 t351 t352 _ ?side1 ?side2 A11.out).mono ?_); (case side1 => repeat (first | exact (Kd.C_below HR1.out HB.out) | (with_reducible refine Kd.C_alloc ?_ _) | (with_reducible refine Kd.C_drewN ?_ _) | (with_reducible refine Kd.C_drew ?_))); (case side2 => exact HC1.out); rintro e w13 ⟨rfl, hb⟩; have n0_ := Aside0.mk (below_step (by repeat (first | (with_reducible first | exact HB.out | apply below_alloc | apply pw_below_drewN | apply below_drew1) | exact HB.out)) hb); clear HB; have HB := n0_; clear n0_; (try clear hb); (try clear hb2); (try clear hk); (try clear hi))))
              (try simp only [Act.put, List.setIfInBounds_toArray, List.set_cons_zero, List.set_cons_succ])
              go_cut [62] (fun v62 wc => ∃ (kq : Nat) (x62_11 : Bool), v62 = .bool x62_11 ∧ Aside0 (monikerlaw1_EditsKept.j3 kq a0 l1 t348 x7_1 x8_6 x9_1 t351 t352 x62_11 = some r) ∧ Aside0 (kq ≤ kj6) ∧ Aside0 (Below w.heap.size w wc))
              case first =>
                have H := HC12.out
                clear HC12
                by_cases c14 : x8_6 = (l1.length : Int)
                · rw [if_pos c14] at H
                  have c14b0 : (x8_6 == (l1.length : Int)) = true := beq_iff_eq.mpr c14
                  have c14b1 : (x8_6 != (l1.length : Int)) = false := bne_eq_false_iff_eq.mpr c14
                  clear c14
                  (first | rw [c14b0] | (simp only [i64_w, i32_w]; rw [c14b0]) | skip)
                  have H' := Aside0.mk H
                  clear H
                  go_wp2
                  repeat (go_quiet (fail); try go_wp2)
                  go_meet
                  case rel => exact ⟨_, ((t352 != true)), (by first | rfl | (simp; done) | (simp [*]; done)), H', ⟨by have := HK1.out; have := HJ6.out; first | omega | exact Nat.le_refl _⟩, ⟨by repeat (first | (with_reducible first | exact HB.out | apply below_alloc | apply pw_below_drewN | apply below_drew1) | exact HB.out)⟩⟩
                · rw [if_neg c14] at H
                  have c14b0 : (x8_6 == (l1.length : Int)) = false := beq_eq_false_iff_ne.mpr c14
                  have c14b1 : (x8_6 != (l1.length : Int)) = true := bne_iff_ne.mpr c14
                  (first | rw [c14b0] | (simp only [i64_w, i32_w]; rw [c14b0]) | skip)
                  by_cases c15 : 0 ≤ x8_6
                  · rw [if_pos c15] at H
                    have c15b0 : decide (0 ≤ x8_6) = true := decide_eq_true c15
                    clear c15
                    by_cases c16 : x8_6 < (l1.length : Int)
                    · rw [if_pos c16] at H
                      have c16b0 : decide (x8_6 < (l1.length : Int)) = true := decide_eq_true c16
                      clear c16
                      have H' := Aside0.mk H
                      clear H
                      have p353 : 0 ≤ (x8_6 : Int) := of_decide_eq_true (by first | (with_reducible assumption) | assumption)
                      have q353 : x8_6 < (l1.length : Int) := of_decide_eq_true (by first | (with_reducible assumption) | assumption)
                      obtain ⟨ad353, e353, hx353_0, hx353_1, hx353_2⟩ := at_T42 HR1.out x8_6 p353 q353
                      cases e353
                      replace hx353_0 := (HB.out.cell (World.block_lt_of_cell? w _ hx353_0)).trans hx353_0
                      replace hx353_1 := (HB.out.cell (World.block_lt_of_cell? w _ hx353_1)).trans hx353_1
                      replace hx353_2 := (HB.out.cell (World.block_lt_of_cell? w _ hx353_2)).trans hx353_2
                      replace p353 := eq_true p353
                      replace q353 := eq_true q353
                      go_wp2
                      repeat (go_quiet (fail); try go_wp2)
                      go_meet
                      case rel => exact ⟨_, ((t352 != (decide (x9_1 ≤ ((rd_T42 l1 x8_6).f0))))), (by first | rfl | (simp; done) | (simp [*]; done)), H', ⟨by have := HK1.out; have := HJ6.out; first | omega | exact Nat.le_refl _⟩, ⟨by repeat (first | (with_reducible first | exact HB.out | apply below_alloc | apply pw_below_drewN | apply below_drew1) | exact HB.out)⟩⟩
                    · rw [if_neg c16] at H
                      exact absurd H (by simp)
                  · rw [if_neg c15] at H
                    exact absurd H (by simp)
              case rest =>
                clear HC12
                try clear c1
                try clear p2
                try clear p3
                try clear q3
                try clear hx3
                try clear c4
                try clear c4b0
                try clear c4b1
                try clear c6
                try clear c6b0
                try clear p6
                try clear c8
                try clear c8b0
                try clear c9
                try clear c9b0
                try clear c10
                try clear c10b0
                try clear c14
                try clear c14b0
                try clear c14b1
                try clear c15
                try clear c15b0
                try clear c16
                try clear c16b0
                try clear hx350_0
                try clear hx350_1
                try clear hx350_2
                try clear hx353_0
                try clear hx353_1
                try clear hx353_2
                try clear p2
                try clear p3
                try clear p350
                try clear p353
                try clear p6
                try clear q3
                try clear q350
                try clear q353
                obtain ⟨kq, x62_11, rfl, HA, HJ11, HB⟩ := hcut
                cases kq with
                | zero => exact absurd HA.out (by simp [monikerlaw1_EditsKept.j3])
                | succ kj11 =>
                  have H := HA.out
                  clear HA
                  simp only [monikerlaw1_EditsKept.j3] at H
                  by_cases c17 : x62_11 = true
                  · subst c17
                    have H1 : (some false) = some r := by rw [if_pos rfl] at H; exact H
                    clear H
                    have H := H1
                    clear H1
                    obtain rfl := Option.some.inj H
                    go_wp2
                    repeat (go_quiet (fail); try go_wp2)
                    go_ret
                    exact ⟨by first | rfl | (simp [errW_none, errW_some] <;> rfl) | (simp [*, errW_none, errW_some] <;> rfl), by repeat (first | (with_reducible first | exact HB.out | apply below_alloc | apply pw_below_drewN | apply below_drew1) | exact HB.out)⟩
                  · replace c17 := Bool.eq_false_iff.mpr c17
                    subst c17
                    have H1 : (if t352 = true then (if t351 < x7_1 then (monikerlaw1_EditsKept.j4 kj11 a0 l1 t348 x8_6 x9_1 t351 true) else (monikerlaw1_EditsKept.j4 kj11 a0 l1 t348 x8_6 x9_1 t351 (decide (t351 > (t348.size : Int))))) else (monikerlaw1_EditsKept.l0 kj11 a0 l1 t348 x7_1 x8_6 (wrap64 (x9_1 + 1)))) = some r := by rw [if_neg (show ¬ (false = true) by decide)] at H; exact H
                    clear H
                    have H := H1
                    clear H1
                    by_cases c18 : t352 = true
                    · subst c18
                      have H1 : (if t351 < x7_1 then (monikerlaw1_EditsKept.j4 kj11 a0 l1 t348 x8_6 x9_1 t351 true) else (monikerlaw1_EditsKept.j4 kj11 a0 l1 t348 x8_6 x9_1 t351 (decide (t351 > (t348.size : Int))))) = some r := by rw [if_pos rfl] at H; exact H
                      clear H
                      have H := H1
                      clear H1
                      have HC19 := Aside0.mk H
                      clear H
                      go_upto_region 15 with (fail)
                      repeat (go_quiet (fail); go_upto_region 15 with (fail))
                      go_cut [73] (fun v73 wc => ∃ (kq : Nat) (x73_18 : Bool), v73 = .bool x73_18 ∧ Aside0 (monikerlaw1_EditsKept.j4 kq a0 l1 t348 x8_6 x9_1 t351 x73_18 = some r) ∧ Aside0 (kq ≤ kj11) ∧ Aside0 (Below w.heap.size w wc))
                      case first =>
                        have H := HC19.out
                        clear HC19
                        by_cases c20 : t351 < x7_1
                        · rw [if_pos c20] at H
                          have c20b0 : decide (t351 < x7_1) = true := decide_eq_true c20
                          clear c20
                          (first | rw [c20b0] | (simp only [i64_w, i32_w]; rw [c20b0]) | skip)
                          have H' := Aside0.mk H
                          clear H
                          go_wp2
                          repeat (go_quiet (fail); try go_wp2)
                          go_meet
                          case rel => exact ⟨_, (true), (by first | rfl | (simp; done) | (simp [*]; done)), H', ⟨by have := HK1.out; have := HJ6.out; have := HJ11.out; first | omega | exact Nat.le_refl _⟩, ⟨by repeat (first | (with_reducible first | exact HB.out | apply below_alloc | apply pw_below_drewN | apply below_drew1) | exact HB.out)⟩⟩
                        · rw [if_neg c20] at H
                          have c20b0 : decide (t351 < x7_1) = false := decide_eq_false c20
                          clear c20
                          (first | rw [c20b0] | (simp only [i64_w, i32_w]; rw [c20b0]) | skip)
                          have H' := Aside0.mk H
                          clear H
                          go_wp2
                          repeat (go_quiet (fail); try go_wp2)
                          go_meet
                          case rel => exact ⟨_, (decide (t351 > (t348.size : Int))), (by first | rfl | (simp; done) | (simp [*]; done)), H', ⟨by have := HK1.out; have := HJ6.out; have := HJ11.out; first | omega | exact Nat.le_refl _⟩, ⟨by repeat (first | (with_reducible first | exact HB.out | apply below_alloc | apply pw_below_drewN | apply below_drew1) | exact HB.out)⟩⟩
                      case rest =>
                        clear HC19
                        try clear c1
                        try clear c2
                        try clear p2
                        try clear p3
                        try clear q3
                        try clear hx3
                        try clear c4
                        try clear c4b0
                        try clear c4b1
                        try clear c6
                        try clear c6b0
                        try clear p6
                        try clear c8
                        try clear c8b0
                        try clear c9
                        try clear c9b0
                        try clear c10
                        try clear c10b0
                        try clear c14
                        try clear c14b0
                        try clear c14b1
                        try clear c15
                        try clear c15b0
                        try clear c16
                        try clear c16b0
                        try clear c17
                        try clear c18
                        try clear c20
                        try clear c20b0
                        try clear hx350_0
                        try clear hx350_1
                        try clear hx350_2
                        try clear hx353_0
                        try clear hx353_1
                        try clear hx353_2
                        try clear p2
                        try clear p3
                        try clear p350
                        try clear p353
                        try clear p6
                        try clear q3
                        try clear q350
                        try clear q353
                        obtain ⟨kq, x73_18, rfl, HA, HJ18, HB⟩ := hcut
                        cases kq with
                        | zero => exact absurd HA.out (by simp [monikerlaw1_EditsKept.j4])
                        | succ kj18 =>
                          have H := HA.out
                          clear HA
                          simp only [monikerlaw1_EditsKept.j4] at H
                          by_cases c21 : x73_18 = true
                          · subst c21
                            have H1 : (some false) = some r := by rw [if_pos rfl] at H; exact H
                            clear H
                            have H := H1
                            clear H1
                            obtain rfl := Option.some.inj H
                            go_wp2
                            repeat (go_quiet (fail); try go_wp2)
                            go_ret
                            exact ⟨by first | rfl | (simp [errW_none, errW_some] <;> rfl) | (simp [*, errW_none, errW_some] <;> rfl), by repeat (first | (with_reducible first | exact HB.out | apply below_alloc | apply pw_below_drewN | apply below_drew1) | exact HB.out)⟩
                          · replace c21 := Bool.eq_false_iff.mpr c21
                            subst c21
                            have H1 : (if x9_1 = (a0.size : Int) then (monikerlaw1_EditsKept.l0 kj18 a0 l1 t348 t351 x8_6 (wrap64 (x9_1 + 1))) else (if x8_6 < (l1.length : Int) then (if 0 ≤ x8_6 then (if (((rd_T42 l1 x8_6).f0) ≤ x9_1) then (monikerlaw1_EditsKept.l0 kj18 a0 l1 t348 t351 x8_6 (wrap64 (x9_1 + 1))) else (if 0 ≤ t351 then (if t351 < (t348.size : Int) then (if 0 ≤ x9_1 then (if x9_1 < (a0.size : Int) then (if (bt t348 t351) = (bt a0 x9_1) then (monikerlaw1_EditsKept.l0 kj18 a0 l1 t348 t351 x8_6 (wrap64 (x9_1 + 1))) else (some false)) else (none)) else (none)) else (none)) else (none))) else (none)) else (if 0 ≤ t351 then (if t351 < (t348.size : Int) then (if 0 ≤ x9_1 then (if x9_1 < (a0.size : Int) then (if (bt t348 t351) = (bt a0 x9_1) then (monikerlaw1_EditsKept.l0 kj18 a0 l1 t348 t351 x8_6 (wrap64 (x9_1 + 1))) else (some false)) else (none)) else (none)) else (none)) else (none)))) = some r := by rw [if_neg (show ¬ (false = true) by decide)] at H; exact H
                            clear H
                            have H := H1
                            clear H1
                            by_cases c22 : x9_1 = (a0.size : Int)
                            · rw [if_pos c22] at H
                              have c22b0 : (x9_1 == (a0.size : Int)) = true := beq_iff_eq.mpr c22
                              have c22b1 : (x9_1 != (a0.size : Int)) = false := bne_eq_false_iff_eq.mpr c22
                              clear c22
                              have H' := Aside0.mk H
                              clear H
                              go_wp2
                              repeat (go_quiet (fail); try go_wp2)
                              go_roundg kj18
                              case measure => have := HK1.out; have := HJ6.out; have := HJ11.out; have := HJ18.out; omega
                              case rel => exact ⟨(t351), (x8_6), (wrap64 (x9_1 + 1)), (by first | rfl | (simp; done) | (simp [*]; done)), (by first | rfl | (simp; done) | (simp [*]; done)), (by first | rfl | (simp; done) | (simp [*]; done)), H', ⟨by have := HK1.out; have := HJ6.out; have := HJ11.out; have := HJ18.out; omega⟩, ⟨by repeat (first | (with_reducible first | exact HB.out | apply below_alloc | apply pw_below_drewN | apply below_drew1) | exact HB.out)⟩⟩
                            · rw [if_neg c22] at H
                              have c22b0 : (x9_1 == (a0.size : Int)) = false := beq_eq_false_iff_ne.mpr c22
                              have c22b1 : (x9_1 != (a0.size : Int)) = true := bne_iff_ne.mpr c22
                              by_cases c23 : x8_6 < (l1.length : Int)
                              · rw [if_pos c23] at H
                                have c23b0 : decide (x8_6 < (l1.length : Int)) = true := decide_eq_true c23
                                clear c23
                                by_cases c24 : 0 ≤ x8_6
                                · rw [if_pos c24] at H
                                  have c24b0 : decide (0 ≤ x8_6) = true := decide_eq_true c24
                                  clear c24
                                  by_cases c25 : (((rd_T42 l1 x8_6).f0) ≤ x9_1)
                                  · rw [if_pos c25] at H
                                    have c25b0 : decide (((rd_T42 l1 x8_6).f0) ≤ x9_1) = true := decide_eq_true c25
                                    clear c25
                                    have H' := Aside0.mk H
                                    clear H
                                    have p354 : 0 ≤ (x8_6 : Int) := of_decide_eq_true (by first | (with_reducible assumption) | assumption)
                                    have q354 : x8_6 < (l1.length : Int) := of_decide_eq_true (by first | (with_reducible assumption) | assumption)
                                    obtain ⟨ad354, e354, hx354_0, hx354_1, hx354_2⟩ := at_T42 HR1.out x8_6 p354 q354
                                    cases e354
                                    replace hx354_0 := (HB.out.cell (World.block_lt_of_cell? w _ hx354_0)).trans hx354_0
                                    replace hx354_1 := (HB.out.cell (World.block_lt_of_cell? w _ hx354_1)).trans hx354_1
                                    replace hx354_2 := (HB.out.cell (World.block_lt_of_cell? w _ hx354_2)).trans hx354_2
                                    replace p354 := eq_true p354
                                    replace q354 := eq_true q354
                                    go_wp2
                                    repeat (go_quiet (fail); try go_wp2)
                                    go_roundg kj18
                                    case measure => have := HK1.out; have := HJ6.out; have := HJ11.out; have := HJ18.out; omega
                                    case rel => exact ⟨(t351), (x8_6), (wrap64 (x9_1 + 1)), (by first | rfl | (simp; done) | (simp [*]; done)), (by first | rfl | (simp; done) | (simp [*]; done)), (by first | rfl | (simp; done) | (simp [*]; done)), H', ⟨by have := HK1.out; have := HJ6.out; have := HJ11.out; have := HJ18.out; omega⟩, ⟨by repeat (first | (with_reducible first | exact HB.out | apply below_alloc | apply pw_below_drewN | apply below_drew1) | exact HB.out)⟩⟩
                                  · rw [if_neg c25] at H
                                    have c25b0 : decide (((rd_T42 l1 x8_6).f0) ≤ x9_1) = false := decide_eq_false c25
                                    clear c25
                                    by_cases c26 : 0 ≤ t351
                                    · rw [if_pos c26] at H
                                      have c26b0 : decide (0 ≤ t351) = true := decide_eq_true c26
                                      clear c26
                                      by_cases c27 : t351 < (t348.size : Int)
                                      · rw [if_pos c27] at H
                                        have c27b0 : decide (t351 < (t348.size : Int)) = true := decide_eq_true c27
                                        clear c27
                                        by_cases c29 : 0 ≤ x9_1
                                        · rw [if_pos c29] at H
                                          have c29b0 : decide (0 ≤ x9_1) = true := decide_eq_true c29
                                          clear c29
                                          by_cases c30 : x9_1 < (a0.size : Int)
                                          · rw [if_pos c30] at H
                                            have c30b0 : decide (x9_1 < (a0.size : Int)) = true := decide_eq_true c30
                                            clear c30
                                            by_cases c32 : (bt t348 t351) = (bt a0 x9_1)
                                            · rw [if_pos c32] at H
                                              have c32b0 : ((bt t348 t351) == (bt a0 x9_1)) = true := beq_iff_eq.mpr c32
                                              have c32b1 : ((bt t348 t351) != (bt a0 x9_1)) = false := bne_eq_false_iff_eq.mpr c32
                                              clear c32
                                              have H' := Aside0.mk H
                                              clear H
                                              have p354 : 0 ≤ (x8_6 : Int) := of_decide_eq_true (by first | (with_reducible assumption) | assumption)
                                              have q354 : x8_6 < (l1.length : Int) := of_decide_eq_true (by first | (with_reducible assumption) | assumption)
                                              obtain ⟨ad354, e354, hx354_0, hx354_1, hx354_2⟩ := at_T42 HR1.out x8_6 p354 q354
                                              cases e354
                                              replace hx354_0 := (HB.out.cell (World.block_lt_of_cell? w _ hx354_0)).trans hx354_0
                                              replace hx354_1 := (HB.out.cell (World.block_lt_of_cell? w _ hx354_1)).trans hx354_1
                                              replace hx354_2 := (HB.out.cell (World.block_lt_of_cell? w _ hx354_2)).trans hx354_2
                                              replace p354 := eq_true p354
                                              replace q354 := eq_true q354
                                              have p28 : 0 ≤ (t351 : Int) := of_decide_eq_true (by first | (with_reducible assumption) | assumption)
                                              have q28 : t351 < (t348.size : Int) := of_decide_eq_true (by first | (with_reducible assumption) | assumption)
                                              have hx28 := bt_at t348 t351
                                              replace p28 := eq_true p28
                                              replace q28 := eq_true q28
                                              have p31 : 0 ≤ (x9_1 : Int) := of_decide_eq_true (by first | (with_reducible assumption) | assumption)
                                              have q31 : x9_1 < (a0.size : Int) := of_decide_eq_true (by first | (with_reducible assumption) | assumption)
                                              have hx31 := bt_at a0 x9_1
                                              replace p31 := eq_true p31
                                              replace q31 := eq_true q31
                                              go_wp2
                                              repeat (go_quiet (fail); try go_wp2)
                                              go_roundg kj18
                                              case measure => have := HK1.out; have := HJ6.out; have := HJ11.out; have := HJ18.out; omega
                                              case rel => exact ⟨(t351), (x8_6), (wrap64 (x9_1 + 1)), (by first | rfl | (simp; done) | (simp [*]; done)), (by first | rfl | (simp; done) | (simp [*]; done)), (by first | rfl | (simp; done) | (simp [*]; done)), H', ⟨by have := HK1.out; have := HJ6.out; have := HJ11.out; have := HJ18.out; omega⟩, ⟨by repeat (first | (with_reducible first | exact HB.out | apply below_alloc | apply pw_below_drewN | apply below_drew1) | exact HB.out)⟩⟩
                                            · rw [if_neg c32] at H
                                              have c32b0 : ((bt t348 t351) == (bt a0 x9_1)) = false := beq_eq_false_iff_ne.mpr c32
                                              have c32b1 : ((bt t348 t351) != (bt a0 x9_1)) = true := bne_iff_ne.mpr c32
                                              obtain rfl := Option.some.inj H
                                              have p354 : 0 ≤ (x8_6 : Int) := of_decide_eq_true (by first | (with_reducible assumption) | assumption)
                                              have q354 : x8_6 < (l1.length : Int) := of_decide_eq_true (by first | (with_reducible assumption) | assumption)
                                              obtain ⟨ad354, e354, hx354_0, hx354_1, hx354_2⟩ := at_T42 HR1.out x8_6 p354 q354
                                              cases e354
                                              replace hx354_0 := (HB.out.cell (World.block_lt_of_cell? w _ hx354_0)).trans hx354_0
                                              replace hx354_1 := (HB.out.cell (World.block_lt_of_cell? w _ hx354_1)).trans hx354_1
                                              replace hx354_2 := (HB.out.cell (World.block_lt_of_cell? w _ hx354_2)).trans hx354_2
                                              replace p354 := eq_true p354
                                              replace q354 := eq_true q354
                                              have p28 : 0 ≤ (t351 : Int) := of_decide_eq_true (by first | (with_reducible assumption) | assumption)
                                              have q28 : t351 < (t348.size : Int) := of_decide_eq_true (by first | (with_reducible assumption) | assumption)
                                              have hx28 := bt_at t348 t351
                                              replace p28 := eq_true p28
                                              replace q28 := eq_true q28
                                              have p31 : 0 ≤ (x9_1 : Int) := of_decide_eq_true (by first | (with_reducible assumption) | assumption)
                                              have q31 : x9_1 < (a0.size : Int) := of_decide_eq_true (by first | (with_reducible assumption) | assumption)
                                              have hx31 := bt_at a0 x9_1
                                              replace p31 := eq_true p31
                                              replace q31 := eq_true q31
                                              go_wp2
                                              repeat (go_quiet (fail); try go_wp2)
                                              go_ret
                                              exact ⟨by first | rfl | (simp [errW_none, errW_some] <;> rfl) | (simp [*, errW_none, errW_some] <;> rfl), by repeat (first | (with_reducible first | exact HB.out | apply below_alloc | apply pw_below_drewN | apply below_drew1) | exact HB.out)⟩
                                          · rw [if_neg c30] at H
                                            exact absurd H (by simp)
                                        · rw [if_neg c29] at H
                                          exact absurd H (by simp)
                                      · rw [if_neg c27] at H
                                        exact absurd H (by simp)
                                    · rw [if_neg c26] at H
                                      exact absurd H (by simp)
                                · rw [if_neg c24] at H
                                  exact absurd H (by simp)
                              · rw [if_neg c23] at H
                                have c23b0 : decide (x8_6 < (l1.length : Int)) = false := decide_eq_false c23
                                clear c23
                                by_cases c33 : 0 ≤ t351
                                · rw [if_pos c33] at H
                                  have c33b0 : decide (0 ≤ t351) = true := decide_eq_true c33
                                  clear c33
                                  by_cases c34 : t351 < (t348.size : Int)
                                  · rw [if_pos c34] at H
                                    have c34b0 : decide (t351 < (t348.size : Int)) = true := decide_eq_true c34
                                    clear c34
                                    by_cases c36 : 0 ≤ x9_1
                                    · rw [if_pos c36] at H
                                      have c36b0 : decide (0 ≤ x9_1) = true := decide_eq_true c36
                                      clear c36
                                      by_cases c37 : x9_1 < (a0.size : Int)
                                      · rw [if_pos c37] at H
                                        have c37b0 : decide (x9_1 < (a0.size : Int)) = true := decide_eq_true c37
                                        clear c37
                                        by_cases c39 : (bt t348 t351) = (bt a0 x9_1)
                                        · rw [if_pos c39] at H
                                          have c39b0 : ((bt t348 t351) == (bt a0 x9_1)) = true := beq_iff_eq.mpr c39
                                          have c39b1 : ((bt t348 t351) != (bt a0 x9_1)) = false := bne_eq_false_iff_eq.mpr c39
                                          clear c39
                                          have H' := Aside0.mk H
                                          clear H
                                          have p35 : 0 ≤ (t351 : Int) := of_decide_eq_true (by first | (with_reducible assumption) | assumption)
                                          have q35 : t351 < (t348.size : Int) := of_decide_eq_true (by first | (with_reducible assumption) | assumption)
                                          have hx35 := bt_at t348 t351
                                          replace p35 := eq_true p35
                                          replace q35 := eq_true q35
                                          have p38 : 0 ≤ (x9_1 : Int) := of_decide_eq_true (by first | (with_reducible assumption) | assumption)
                                          have q38 : x9_1 < (a0.size : Int) := of_decide_eq_true (by first | (with_reducible assumption) | assumption)
                                          have hx38 := bt_at a0 x9_1
                                          replace p38 := eq_true p38
                                          replace q38 := eq_true q38
                                          go_wp2
                                          repeat (go_quiet (fail); try go_wp2)
                                          go_roundg kj18
                                          case measure => have := HK1.out; have := HJ6.out; have := HJ11.out; have := HJ18.out; omega
                                          case rel => exact ⟨(t351), (x8_6), (wrap64 (x9_1 + 1)), (by first | rfl | (simp; done) | (simp [*]; done)), (by first | rfl | (simp; done) | (simp [*]; done)), (by first | rfl | (simp; done) | (simp [*]; done)), H', ⟨by have := HK1.out; have := HJ6.out; have := HJ11.out; have := HJ18.out; omega⟩, ⟨by repeat (first | (with_reducible first | exact HB.out | apply below_alloc | apply pw_below_drewN | apply below_drew1) | exact HB.out)⟩⟩
                                        · rw [if_neg c39] at H
                                          have c39b0 : ((bt t348 t351) == (bt a0 x9_1)) = false := beq_eq_false_iff_ne.mpr c39
                                          have c39b1 : ((bt t348 t351) != (bt a0 x9_1)) = true := bne_iff_ne.mpr c39
                                          obtain rfl := Option.some.inj H
                                          have p35 : 0 ≤ (t351 : Int) := of_decide_eq_true (by first | (with_reducible assumption) | assumption)
                                          have q35 : t351 < (t348.size : Int) := of_decide_eq_true (by first | (with_reducible assumption) | assumption)
                                          have hx35 := bt_at t348 t351
                                          replace p35 := eq_true p35
                                          replace q35 := eq_true q35
                                          have p38 : 0 ≤ (x9_1 : Int) := of_decide_eq_true (by first | (with_reducible assumption) | assumption)
                                          have q38 : x9_1 < (a0.size : Int) := of_decide_eq_true (by first | (with_reducible assumption) | assumption)
                                          have hx38 := bt_at a0 x9_1
                                          replace p38 := eq_true p38
                                          replace q38 := eq_true q38
                                          go_wp2
                                          repeat (go_quiet (fail); try go_wp2)
                                          go_ret
                                          exact ⟨by first | rfl | (simp [errW_none, errW_some] <;> rfl) | (simp [*, errW_none, errW_some] <;> rfl), by repeat (first | (with_reducible first | exact HB.out | apply below_alloc | apply pw_below_drewN | apply below_drew1) | exact HB.out)⟩
                                      · rw [if_neg c37] at H
                                        exact absurd H (by simp)
                                    · rw [if_neg c36] at H
                                      exact absurd H (by simp)
                                  · rw [if_neg c34] at H
                                    exact absurd H (by simp)
                                · rw [if_neg c33] at H
                                  exact absurd H (by simp)
                    · replace c18 := Bool.eq_false_iff.mpr c18
                      subst c18
                      have H1 : (monikerlaw1_EditsKept.l0 kj11 a0 l1 t348 x7_1 x8_6 (wrap64 (x9_1 + 1))) = some r := by rw [if_neg (show ¬ (false = true) by decide)] at H; exact H
                      clear H
                      have H := H1
                      clear H1
                      have H' := Aside0.mk H
                      clear H
                      go_wp2
                      repeat (go_quiet (fail); try go_wp2)
                      go_roundg kj11
                      case measure => have := HK1.out; have := HJ6.out; have := HJ11.out; omega
                      case rel => exact ⟨(x7_1), (x8_6), (wrap64 (x9_1 + 1)), (by first | rfl | (simp; done) | (simp [*]; done)), (by first | rfl | (simp; done) | (simp [*]; done)), (by first | rfl | (simp; done) | (simp [*]; done)), H', ⟨by have := HK1.out; have := HJ6.out; have := HJ11.out; omega⟩, ⟨by repeat (first | (with_reducible first | exact HB.out | apply below_alloc | apply pw_below_drewN | apply below_drew1) | exact HB.out)⟩⟩
        · rw [if_neg c6] at H
          have c6b0 : decide (x9_1 ≤ (a0.size : Int)) = false := decide_eq_false c6
          clear c6
          obtain rfl := Option.some.inj H
          go_wp2
          repeat (go_quiet (fail); try go_wp2)
          go_ret
          exact ⟨by first | rfl | (simp [errW_none, errW_some] <;> rfl) | (simp [*, errW_none, errW_some] <;> rfl), by repeat (first | (with_reducible first | exact HB.out | apply below_alloc | apply pw_below_drewN | apply below_drew1) | exact HB.out)⟩
  · rw [if_neg c4] at H
    have c4b0 : (t349 == 0) = false := beq_eq_false_iff_ne.mpr c4
    have c4b1 : (t349 != 0) = true := bne_iff_ne.mpr c4
    obtain rfl := Option.some.inj H
    go_enter Try.func8, Try.ntmps8
    go_wp2_with (first | (go_at_call 24; (with_reducible refine (edits_Apply.calls k a0 _ _ l1 t348 t349 _ ?side1 ?side2 A3.out).mono ?_); (case side1 => repeat (first | exact HR1.out | (with_reducible refine Kd.C_alloc ?_ _) | (with_reducible refine Kd.C_drewN ?_ _) | (with_reducible refine Kd.C_drew ?_))); (case side2 => exact HC1.out); rintro e w40 ⟨rfl, hb⟩; have n0_ := Aside0.mk (below_step (by repeat (first | (with_reducible first | exact HB.out | apply below_alloc | apply pw_below_drewN | apply below_drew1) | exact HB.out)) hb); clear HB; have HB := n0_; clear n0_; (try clear hb); (try clear hb2); (try clear hk); (try clear hi)))
    repeat (go_quiet (first | (go_at_call 24; (with_reducible refine (edits_Apply.calls k a0 _ _ l1 t348 t349 _ ?side1 ?side2 A3.out).mono ?_); (case side1 => repeat (first | exact HR1.out | (with_reducible refine Kd.C_alloc ?_ _) | (with_reducible refine Kd.C_drewN ?_ _) | (with_reducible refine Kd.C_drew ?_))); (case side2 => exact HC1.out); rintro e w40 ⟨rfl, hb⟩; have n0_ := Aside0.mk (below_step (by repeat (first | (with_reducible first | exact HB.out | apply below_alloc | apply pw_below_drewN | apply below_drew1) | exact HB.out)) hb); clear HB; have HB := n0_; clear n0_; (try clear hb); (try clear hb2); (try clear hk); (try clear hi))); try go_wp2_with (first | (go_at_call 24; (with_reducible refine (edits_Apply.calls k a0 _ _ l1 t348 t349 _ ?side1 ?side2 A3.out).mono ?_); (case side1 => repeat (first | exact HR1.out | (with_reducible refine Kd.C_alloc ?_ _) | (with_reducible refine Kd.C_drewN ?_ _) | (with_reducible refine Kd.C_drew ?_))); (case side2 => exact HC1.out); rintro e w40 ⟨rfl, hb⟩; have n0_ := Aside0.mk (below_step (by repeat (first | (with_reducible first | exact HB.out | apply below_alloc | apply pw_below_drewN | apply below_drew1) | exact HB.out)) hb); clear HB; have HB := n0_; clear n0_; (try clear hb); (try clear hb2); (try clear hk); (try clear hi))))
    go_ret
    exact ⟨by first | rfl | (simp [errW_none, errW_some] <;> rfl) | (simp [*, errW_none, errW_some] <;> rfl), by repeat (first | (with_reducible first | exact HB.out | apply below_alloc | apply pw_below_drewN | apply below_drew1) | exact HB.out)⟩

end Go.Proofs.Ytaihajmdngoeiaa.F

namespace Go.Proofs.Ytaihajmdngoeiaa.Q
open Go.RowKit Go.Proofs.YtaihajmdngoeiaaW.PrintWords Go.Proofs.YtaihajmdngoeiaaW.PrintLast Go.Proofs.YtaihajmdngoeiaaW.PrintMore
open Go.Proofs.Ytaihajmdngoeiaa.F
set_option linter.unusedSimpArgs false

theorem kbt_in (s : ByteArray) (i : Nat) (h : i < s.size) : bt s (i : Int) = ((s[i]'h).toNat : Int) := (bt_at s (i : Int) (by simpa using h)).symm
theorem bt_left (x y : ByteArray) (i : Nat) (h : i < x.size) : bt (x ++ y) (i : Int) = bt x (i : Int) := by
  rw [kbt_in _ _ h, kbt_in _ _ (by rw [ByteArray.size_append]; omega), ByteArray.getElem_append_left h]
theorem bt_right (x y : ByteArray) (i : Nat) (h : i < y.size) : bt (x ++ y) ((x.size + i : Nat) : Int) = bt y (i : Int) := by
  rw [kbt_in _ _ h, kbt_in _ _ (by rw [ByteArray.size_append]; omega), ByteArray.getElem_append_right (by omega)]
  congr 3
  omega
theorem bt_ext (s : ByteArray) (a b i : Nat) (h : a + i < b) (hb : b ≤ s.size) : bt (s.extract a b) (i : Int) = bt s ((a + i : Nat) : Int) := by
  rw [kbt_in _ _ (by rw [ByteArray.size_extract]; omega), kbt_in _ _ (by omega), ByteArray.getElem_extract]

/-- A kept byte of the text: where it stands. -/
theorem apGo_bt (text : ByteArray) : ∀ (es : List S42) (a : Int) (p : Option Int) (i : Nat) (x : Int), Chain text.size p es → 0 ≤ a → a ≤ text.size → (∀ e t, es = e :: t → a ≤ e.f0) → i ≤ es.length →
    (i = 0 → a ≤ x) → (∀ j (h : j < es.length), j < i → (es[j]).f1 ≤ x) → (∀ (h : i < es.length), x < (es[i]).f0) → x < text.size → a ≤ x + sumG (es.take i) ∧ bt (apGo text a es) (x - a + sumG (es.take i)) = bt text x
  | [], a, p, i, x, _, ha, ha2, _, hi, h0, _, _, hx => by
    obtain rfl : i = 0 := by simpa using hi
    have hax := h0 rfl
    simp only [List.take_nil, sumG, apGo]
    refine ⟨by omega, ?_⟩
    have := bt_ext text a.toNat text.size (x - a).toNat (by omega) (Nat.le_refl _)
    rw [show ((x - a).toNat : Int) = x - a by omega, show ((a.toNat + (x - a).toNat : Nat) : Int) = x by omega] at this
    rw [Int.add_zero]
    exact this
  | e :: t, a, p, 0, x, ⟨c1, c2, c3, c4, c5⟩, ha, ha2, hf, _, h0, _, hn, hx => by
    have hax := h0 rfl
    have hxe : x < e.f0 := hn (by simp)
    simp only [List.take_zero, sumG, apGo]
    refine ⟨by omega, ?_⟩
    have hl : (text.extract a.toNat e.f0.toNat).size = e.f0.toNat - a.toNat := by rw [ByteArray.size_extract]; omega
    have h1 := bt_left (text.extract a.toNat e.f0.toNat) (e.f2 ++ apGo text e.f1 t) (x - a).toNat (by rw [hl]; omega)
    have h2 := bt_ext text a.toNat e.f0.toNat (x - a).toNat (by omega) (by omega)
    rw [show ((x - a).toNat : Int) = x - a by omega] at h1 h2
    rw [show ((a.toNat + (x - a).toNat : Nat) : Int) = x by omega] at h2
    rw [Int.add_zero, ByteArray.append_assoc, h1, h2]
  | e :: t, a, p, i + 1, x, ⟨c1, c2, c3, c4, c5⟩, ha, ha2, hf, hi, h0, hj, hn, hx => by
    have hae := hf e t rfl
    have hx1 : e.f1 ≤ x := hj 0 (by simp) (by omega)
    have hft : ∀ e' t', t = e' :: t' → e.f1 ≤ e'.f0 := by
      rintro e' t' rfl
      have := c5.2.2.2.1 _ rfl
      omega
    obtain ⟨g1, g2⟩ := apGo_bt text t e.f1 (some e.f1) i x c5 (by omega) c3 hft (by simpa using hi) (fun _ => hx1)
      (fun j h hji => by have := hj (j + 1) (by simpa using h) (by omega); simpa using this) (fun h => by have := hn (by simpa using h); simpa using this) hx
    have hl : (text.extract a.toNat e.f0.toNat).size = e.f0.toNat - a.toNat := by rw [ByteArray.size_extract]; omega
    have hsz : ((apGo text e.f1 t).size : Int) = text.size - e.f1 + sumG t := apGo_size text t e.f1 (some e.f1) c5 (by omega) c3 hft
    have hlow : x + 1 - text.size ≤ sumG (t.drop i) := by
      obtain ⟨q, hq⟩ := chain_drop c5 i
      refine sumG_low (x + 1) hq (by omega) (by omega) ?_
      intro e' t' he
      have hi' : i < t.length := by
        rcases Nat.lt_or_ge i t.length with h | h
        · exact h
        · rw [List.drop_eq_nil_of_le h] at he; cases he
      rw [List.drop_eq_getElem_cons hi'] at he
      obtain ⟨rfl, _⟩ := List.cons.inj he
      have := hn (by simpa using hi')
      simp only [List.getElem_cons_succ] at this
      omega
    have hsum : sumG t = sumG (t.take i) + sumG (t.drop i) := by
      conv => lhs; rw [← List.take_append_drop i t]
      exact sumG_append _ _
    simp only [List.take_succ_cons, sumG, apGo]
    have hgr : grow e = (e.f2.size : Int) - (e.f1 - e.f0) := rfl
    refine ⟨by omega, ?_⟩
    have hidx : x - a + (grow e + sumG (t.take i)) = (((text.extract a.toNat e.f0.toNat ++ e.f2).size + (x - e.f1 + sumG (t.take i)).toNat : Nat) : Int) := by
      have e1 : ((text.extract a.toNat e.f0.toNat ++ e.f2).size : Int) = (e.f0 - a) + e.f2.size := by rw [ByteArray.size_append, hl]; omega
      have e2 : ((x - e.f1 + sumG (t.take i)).toNat : Int) = x - e.f1 + sumG (t.take i) := Int.toNat_of_nonneg (by omega)
      rw [Int.natCast_add, e1, e2, hgr]
      omega
    have hlt : (x - e.f1 + sumG (t.take i)).toNat < (apGo text e.f1 t).size := by
      generalize (apGo text e.f1 t).size = Z at hsz ⊢
      omega
    have h1 := bt_right (text.extract a.toNat e.f0.toNat ++ e.f2) (apGo text e.f1 t) (x - e.f1 + sumG (t.take i)).toNat hlt
    rw [hidx, h1, show (((x - e.f1 + sumG (t.take i)).toNat : Nat) : Int) = x - e.f1 + sumG (t.take i) by omega]
    exact g2

theorem shGo_skip (x : Int) (l : List S42) (hb : ∀ j (h : j < l.length), (l[j]).f2.size ≤ 1048576 ∧ 0 ≤ (l[j]).f0 ∧ (l[j]).f0 ≤ (l[j]).f1) : ∀ (i : Nat) (n : Int), i ≤ l.length → (∀ j (h : j < l.length), j < i → (l[j]).f1 ≤ x) →
    shGo x (wrap64 n) l = shGo x (wrap64 (n + sumG (l.take i))) (l.drop i)
  | 0, n, _, _ => by simp [sumG]
  | i + 1, n, hi, hj => by
    rw [shGo_skip x l hb i n (by omega) (fun j h hji => hj j h (by omega))]
    have hi' : i < l.length := by omega
    rw [List.drop_eq_getElem_cons hi']
    have h1 := hj i hi' (by omega)
    simp only [shGo]
    rw [if_neg (by omega), shift_step, List.take_succ_eq_append_getElem hi', sumG_append]
    simp only [sumG]
    congr 2
    omega

theorem chain_wide {s s' : Int} (h : s ≤ s') : ∀ {l : List S42} {p : Option Int}, Chain s p l → Chain s' p l
  | [], _, _ => trivial
  | e :: t, p, ⟨c1, c2, c3, c4, c5⟩ => ⟨c1, c2, by omega, c4, chain_wide h c5⟩
theorem tot_le {l : List S42} (j : Nat) (h : j < l.length) : (l[j]).f2.size ≤ tot l := by
  induction l generalizing j with
  | nil => simp at h
  | cons e t ih =>
    simp only [tot]
    cases j with
    | zero => simp
    | succ j => have := ih j (by simpa using h); simp only [List.getElem_cons_succ]; omega
theorem sumG_take_le {size : Int} {l : List S42} {p : Option Int} (h : Chain size p l) (i : Nat) : sumG (l.take i) ≤ tot l := by
  induction l generalizing i p with
  | nil => simp [sumG, tot]
  | cons e t ih =>
    obtain ⟨c1, c2, c3, c4, c5⟩ := h
    cases i with
    | zero => simp only [List.take_zero, sumG]; omega
    | succ i => have := ih c5 i; simp only [List.take_succ_cons, sumG, tot, grow]; omega

/-- The next edit begins (ends) no earlier. -/
def Nx0 (l : List S42) (i : Nat) (y : Int) : Prop := ∀ h : i < l.length, y ≤ (l[i]).f0
def Nx1 (l : List S42) (i : Nat) (y : Int) : Prop := ∀ h : i < l.length, y ≤ (l[i]).f1
theorem Nx0.at {l : List S42} {i : Nat} {y : Int} (h : Nx0 l i y) (hi : i < l.length) : y ≤ (l[i]).f0 := h hi
theorem Nx1.at {l : List S42} {i : Nat} {y : Int} (h : Nx1 l i y) (hi : i < l.length) : y ≤ (l[i]).f1 := h hi
theorem Nx0.mk {l : List S42} {i : Nat} {y : Int} (h : ∀ h : i < l.length, y ≤ (l[i]).f0) : Nx0 l i y := h
theorem Nx1.mk {l : List S42} {i : Nat} {y : Int} (h : ∀ h : i < l.length, y ≤ (l[i]).f1) : Nx1 l i y := h
open Classical in
/-- Shift, at a place, the edits ahead of it known. -/
theorem Shspec_at (text : ByteArray) (l : List S42) (hb : text.size + tot l ≤ 1048576) (hv : vspec text.size l = 0) (x : Int) (i : Nat) (h0 : 0 ≤ x) (h1 : x ≤ text.size) (hi : i ≤ l.length)
    (hj : ∀ j (h : j < l.length), j < i → (l[j]).f1 ≤ x) (hn : Nx1 l i (x + 1)) (hp : x + sumG (l.take i) ≤ 4611686018427387904 ∧ 0 ≤ x + sumG (l.take i)) :
    Shspec l x = if Nx0 l i x then (x + sumG (l.take i), true) else (0, false) := by
  obtain ⟨hl, hc⟩ := vspec_zero hv
  have hv2 : vspec 4611686018427387904 l = 0 := vspec_of hl (chain_wide (by omega) hc)
  unfold Shspec
  rw [if_neg (by omega), if_neg (by omega), if_neg (by simp [hv2])]
  have h2 := shGo_skip x l (fun j h => ⟨by have := tot_le j h; omega, (chain_at hc j h).1, (chain_at hc j h).2.1⟩) i x hi hj
  rw [w64 (x := x) (by omega) (by omega), w64 (x := x + sumG (l.take i)) (by omega) (by omega)] at h2
  rw [h2]
  rcases Nat.lt_or_ge i l.length with hlt | hge
  · rw [List.drop_eq_getElem_cons hlt]
    have := hn.at hlt
    simp only [shGo]
    rw [if_pos (by omega)]
    by_cases c : (l[i]).f0 < x
    · rw [if_pos c, if_neg (by intro h; have := h.at hlt; omega)]
    · rw [if_neg c, if_pos (Nx0.mk fun _ => by omega)]
  · rw [List.drop_eq_nil_of_le hge, if_pos (Nx0.mk fun h => absurd h (by omega))]
    simp only [shGo]

structure KInv (text : ByteArray) (l : List S42) (x : Int) (i : Nat) (last : Int) : Prop where
  h0 : 0 ≤ x
  h1 : x ≤ text.size + 1
  hi : i ≤ l.length
  hj : ∀ j (h : j < l.length), j < i → (l[j]).f1 ≤ x
  hn : Nx1 l i x
  hz : x = text.size + 1 → last = text.size + sumG l
  ha : last ≤ x + sumG (l.take i)
  hf : Nx0 l i (last - sumG (l.take i))
  hl0 : 0 ≤ last

section
variable (text : ByteArray) (l : List S42) (hb : text.size + tot l ≤ 1048576) (hv : vspec text.size l = 0)
include hb hv

theorem pos_ok (x : Int) (i : Nat) (h0 : 0 ≤ x) (h1 : x ≤ text.size) (hi : i ≤ l.length) (hj : ∀ j (h : j < l.length), j < i → (l[j]).f1 ≤ x) :
    0 ≤ x + sumG (l.take i) ∧ x + sumG (l.take i) ≤ 2097152 := by
  obtain ⟨hl, hc⟩ := vspec_zero hv
  have h2 := sumG_take_le hc i
  refine ⟨?_, by omega⟩
  have key : ∀ (i : Nat), i ≤ l.length → ∀ x : Int, 0 ≤ x → (∀ j (h : j < l.length), j < i → (l[j]).f1 ≤ x) → 0 ≤ x + sumG (l.take i) := by
    intro i
    induction i with
    | zero => intro _ x hx _; simp only [List.take_zero, sumG]; omega
    | succ i ih =>
      intro hi x hx hj
      have hlt : i < l.length := by omega
      obtain ⟨e1, e2, e3⟩ := chain_at hc i hlt
      have h5 := hj i hlt (by omega)
      have h4 := ih (by omega) (l[i]).f0 e1 (fun j h hji => by
        obtain ⟨q, hq⟩ := chain_drop hc j
        rw [List.drop_eq_getElem_cons h] at hq
        have h6 := chain_lt hq.2.2.2.2 (i - j - 1) (by rw [List.length_drop]; omega)
        simp only [List.getElem_drop] at h6
        have e : j + 1 + (i - j - 1) = i := by omega
        simp only [e] at h6
        omega)
      rw [List.take_succ_eq_append_getElem hlt, sumG_append]
      simp only [sumG, grow]
      omega
  exact key i hi x h0 hj

/-- Behind the round's first part: the place is told. -/
theorem kept_tail (S : ByteArray) (hS : S = apGo text 0 l) (x : Int) (i : Nat) (last : Int) (hk : KInv text l x i last) (hx : x ≤ text.size) (hn : Nx1 l i (x + 1))
    (hnext : ∀ last', KInv text l (x + 1) i last' → Ev (fun k => monikerlaw1_EditsKept.l0 k text l S last' (i : Int) (x + 1)) true) :
    Ev (fun k => monikerlaw1_EditsKept.j2 k text l S last (i : Int) x) true := by
  obtain ⟨hl, hc⟩ := vspec_zero hv
  have hp := pos_ok text l hb hv x i hk.h0 hx hk.hi hk.hj
  have hsh := Shspec_at text l hb hv x i hk.h0 hx hk.hi hk.hj hn ⟨by omega, hp.1⟩
  have hsz : (S.size : Int) = text.size + sumG l := by rw [hS]; exact ap_size text l hv
  have hsum : sumG l = sumG (l.take i) + sumG (l.drop i) := by
    conv => lhs; rw [← List.take_append_drop i l]
    exact sumG_append _ _
  have hx0 := hk.h0
  have hw : wrap64 (x + 1) = x + 1 := by rw [w64] <;> omega
  obtain ⟨K1, hK1⟩ := Shift_is l x
  have hi0 : (0 : Int) ≤ (i : Int) := by omega
  by_cases hok : Nx0 l i x
  · rw [if_pos hok] at hsh
    have hlow : x - text.size ≤ sumG (l.drop i) := by
      obtain ⟨q, hq⟩ := chain_drop hc i
      refine sumG_low x hq hk.h0 hx ?_
      intro e t he
      rcases Nat.lt_or_ge i l.length with h | h
      · rw [List.drop_eq_getElem_cons h] at he
        obtain ⟨rfl, _⟩ := List.cons.inj he
        exact hok.at h
      · rw [List.drop_eq_nil_of_le h] at he; cases he
    obtain ⟨n, hn'⟩ : ∃ n, n = x + sumG (l.take i) := ⟨_, rfl⟩
    rw [← hn'] at hsh hp
    have hnk : KInv text l (x + 1) i n := by
      refine ⟨by have := hk.h0; omega, by omega, hk.hi, fun j h hji => by have := hk.hj j h hji; omega, Nx1.mk fun h => by have := hn.at h; omega, ?_, by omega, Nx0.mk fun h => by have := hok.at h; omega, hp.1⟩
      intro hxe
      have hge : ¬ i < l.length := fun h => by
        have h3 := hn.at h
        have h4 := (chain_at hc i h).2.2
        omega
      rw [List.take_of_length_le (by omega)] at hn'
      omega
    obtain ⟨K2, hK2⟩ := hnext n hnk
    refine ⟨K1 + K2 + 3, fun m hm => ?_⟩
    obtain ⟨k, rfl⟩ : ∃ j, m = j + 3 := ⟨m - 3, by omega⟩
    have g1 := hK1 (k + 2) (by omega)
    have g2 := hK2 k (by omega)
    simp only at g1 g2
    rw [hsh] at g1
    have hj4 : monikerlaw1_EditsKept.j4 (k + 1) text l S (i : Int) x n false = some true := by
      simp only [monikerlaw1_EditsKept.j4, hw]
      rw [if_neg (by simp)]
      by_cases c1 : x = (text.size : Int)
      · rw [if_pos c1]; exact g2
      · rw [if_neg c1]
        have hbt : Nx0 l i (x + 1) → bt S n = bt text x := by
          intro hlt
          have := apGo_bt text l 0 none i x hc (by omega) (by omega) (ap_first hc) hk.hi (fun _ => hk.h0) hk.hj (fun h => by have := hlt.at h; omega) (by omega)
          rw [hS, hn', ← this.2]
          congr 1
          omega
        have hnlt : Nx0 l i (x + 1) → n < (S.size : Int) := by
          intro hlt
          have : x + 1 - text.size ≤ sumG (l.drop i) := by
            obtain ⟨q, hq⟩ := chain_drop hc i
            refine sumG_low (x + 1) hq (by have := hk.h0; omega) (by omega) ?_
            intro e t he
            rcases Nat.lt_or_ge i l.length with h | h
            · rw [List.drop_eq_getElem_cons h] at he
              obtain ⟨rfl, _⟩ := List.cons.inj he
              have := hlt.at h
              omega
            · rw [List.drop_eq_nil_of_le h] at he; cases he
          omega
        by_cases c2 : (i : Int) < (l.length : Int)
        · have c2' : i < l.length := by omega
          rw [if_pos c2, if_pos hi0, rd_at l i c2']
          by_cases c3 : (l[i]).f0 ≤ x
          · rw [if_pos c3]; exact g2
          · rw [if_neg c3, if_pos hp.1, if_pos (hnlt (Nx0.mk fun _ => by omega)), if_pos hk.h0, if_pos (by omega), if_pos (hbt (Nx0.mk fun _ => by omega))]
            exact g2
        · rw [if_neg c2, if_pos hp.1, if_pos (hnlt (Nx0.mk fun h => absurd h (by omega))), if_pos hk.h0, if_pos (by omega), if_pos (hbt (Nx0.mk fun h => absurd h (by omega)))]
          exact g2
    have hj3 : monikerlaw1_EditsKept.j3 (k + 2) text l S last (i : Int) x n true false = some true := by
      simp only [monikerlaw1_EditsKept.j3]
      rw [if_neg (by simp), if_pos trivial, if_neg (by have := hk.ha; omega), show decide (n > (S.size : Int)) = false from decide_eq_false (by omega)]
      exact hj4
    simp only [monikerlaw1_EditsKept.j2]
    rw [g1]
    simp only [Option.bind_some]
    by_cases c : (i : Int) = (l.length : Int)
    · rw [if_pos c]; exact hj3
    · have c' : i < l.length := by have := hk.hi; omega
      rw [if_neg c, if_pos hi0, if_pos (by omega), rd_at l i c', show decide (x ≤ (l[i]).f0) = true from decide_eq_true (hok.at c')]
      exact hj3
  · rw [if_neg hok] at hsh
    have hlt : i < l.length := Classical.byContradiction fun h => hok (Nx0.mk fun h' => absurd h' h)
    have hgt : (l[i]).f0 < x := Classical.byContradiction fun h => hok (Nx0.mk fun _ => by omega)
    have h3 := hn.at hlt
    have h4 := (chain_at hc i hlt).2.2
    have hnk : KInv text l (x + 1) i last :=
      ⟨by have := hk.h0; omega, by omega, hk.hi, fun j h hji => by have := hk.hj j h hji; omega, Nx1.mk fun h => by omega, fun he => by omega, by have := hk.ha; omega, hk.hf, hk.hl0⟩
    obtain ⟨K2, hK2⟩ := hnext last hnk
    refine ⟨K1 + K2 + 2, fun m hm => ?_⟩
    obtain ⟨k, rfl⟩ : ∃ j, m = j + 2 := ⟨m - 2, by omega⟩
    have g1 := hK1 (k + 1) (by omega)
    have g2 := hK2 k (by omega)
    simp only at g1 g2
    rw [hsh] at g1
    simp only [monikerlaw1_EditsKept.j2]
    rw [g1]
    simp only [Option.bind_some]
    rw [if_neg (by omega), if_pos hi0, if_pos (by omega), rd_at l i hlt, show decide (x ≤ (l[i]).f0) = false from decide_eq_false (by omega)]
    simp only [monikerlaw1_EditsKept.j3, hw]
    rw [if_neg (by simp), if_neg (by simp)]
    exact g2

theorem kept_loop (S : ByteArray) (hS : S = apGo text 0 l) (d : Nat) : ∀ (x : Int) (i : Nat) (last : Int), KInv text l x i last → text.size + 1 - x = d → Ev (fun k => monikerlaw1_EditsKept.l0 k text l S last (i : Int) x) true := by
  obtain ⟨hl, hc⟩ := vspec_zero hv
  have hsz : (S.size : Int) = text.size + sumG l := by rw [hS]; exact ap_size text l hv
  induction d with
  | zero =>
    intro x i last hk hd
    refine ⟨1, fun m hm => ?_⟩
    obtain ⟨k, rfl⟩ : ∃ j, m = j + 1 := ⟨m - 1, by omega⟩
    simp only [monikerlaw1_EditsKept.l0]
    rw [if_neg (by omega), hk.hz (by omega), hsz]
    simp
  | succ d ih =>
    intro x i last hk hd
    have hx : x ≤ text.size := by omega
    refine Ev.step (f := fun k => monikerlaw1_EditsKept.l1 k text l S last (i : Int) x) (fun k => by simp only [monikerlaw1_EditsKept.l0]; rw [if_pos hx]) ?_
    have hi0 : (0 : Int) ≤ (i : Int) := by omega
    by_cases c : ∃ (h : i < l.length), (l[i]).f1 ≤ x
    · obtain ⟨h, hle⟩ := c
      have he : x = (l[i]).f1 := by have := hk.hn.at h; omega
      obtain ⟨e1, e2, e3⟩ := chain_at hc i h
      have hnx : Nx0 l (i + 1) (x + 1) := Nx0.mk fun h' => by
        obtain ⟨q, hq⟩ := chain_drop hc i
        rw [List.drop_eq_getElem_cons h] at hq
        have h6 := chain_lt hq.2.2.2.2 0 (by rw [List.length_drop]; omega)
        simp only [List.getElem_drop, Nat.add_zero] at h6
        omega
      have hn2 : Nx1 l (i + 1) (x + 1) := Nx1.mk fun h' => by have := hnx.at h'; have := (chain_at hc (i + 1) h').2.1; omega
      have hs2 : sumG (l.take (i + 1)) = sumG (l.take i) + ((l[i]).f2.size - ((l[i]).f1 - (l[i]).f0)) := by
        rw [List.take_succ_eq_append_getElem h, sumG_append]
        simp [sumG, grow]
      have hf := hk.hf.at h
      have hk2 : KInv text l x (i + 1) last := by
        refine ⟨hk.h0, hk.h1, by omega, ?_, Nx1.mk fun h' => by have := hnx.at h'; have := (chain_at hc (i + 1) h').2.1; omega, fun hz => by omega, by omega, Nx0.mk fun h' => by have := hnx.at h'; omega, hk.hl0⟩
        intro j hj hji
        rcases Nat.lt_or_ge j i with h7 | h7
        · exact hk.hj j hj h7
        · obtain rfl : j = i := by omega
          exact hle
      clear hs2 hf hnx
      have hi1 : (0 : Int) ≤ ((i + 1 : Nat) : Int) := Int.natCast_nonneg _
      have hw : wrap64 ((i : Int) + 1) = ((i + 1 : Nat) : Int) := by rw [w64] <;> omega
      refine Ev.step (f := fun k => monikerlaw1_EditsKept.l1 k text l S last ((i + 1 : Nat) : Int) x) (fun k => by
        simp only [monikerlaw1_EditsKept.l1]
        rw [if_pos (Int.ofNat_lt.mpr h), if_pos hi0, rd_at l i h, if_pos hle, hw]) ?_
      refine Ev.step (f := fun k => monikerlaw1_EditsKept.j2 k text l S last ((i + 1 : Nat) : Int) x) (fun k => by
        simp only [monikerlaw1_EditsKept.l1]
        by_cases c2 : ((i + 1 : Nat) : Int) < (l.length : Int)
        · have c3 := hn2.at (Int.ofNat_lt.mp c2)
          rw [if_pos c2, if_pos hi1, rd_at l (i + 1) (Int.ofNat_lt.mp c2), if_neg (by clear hsz hb; omega)]
        · rw [if_neg c2]) ?_
      exact kept_tail text l hb hv S hS x (i + 1) last hk2 hx hn2 (fun last' hk' => ih (x + 1) (i + 1) last' hk' (by omega))
    · have hn2 : Nx1 l i (x + 1) := Nx1.mk fun h => by exact Int.add_one_le_of_lt (Classical.byContradiction fun h' => c ⟨h, by omega⟩)
      refine Ev.step (f := fun k => monikerlaw1_EditsKept.j2 k text l S last (i : Int) x) (fun k => by
        simp only [monikerlaw1_EditsKept.l1]
        by_cases c2 : (i : Int) < (l.length : Int)
        · have c3 := hn2.at (Int.ofNat_lt.mp c2)
          rw [if_pos c2, if_pos hi0, rd_at l i (Int.ofNat_lt.mp c2), if_neg (by clear hsz hb; omega)]
        · rw [if_neg c2]) ?_
      exact kept_tail text l hb hv S hS x i last hk hx hn2 (fun last' hk' => ih (x + 1) i last' hk' (by omega))
end
theorem EditsKept_is (text : ByteArray) (l : List S42) (hb : text.size + tot l ≤ 1048576) : Ev (fun k => monikerlaw1_EditsKept.f k text l) true := by
  unfold monikerlaw1_EditsKept.f
  refine (Apply_is text l (by omega)).bind ?_
  unfold Apspec
  by_cases h : vspec text.size l = 0
  · rw [if_pos h]
    simp only [if_true]
    have := kept_loop text l hb h (apGo text 0 l) rfl (text.size + 1) 0 0 0
      ⟨by omega, by omega, by omega, fun j _ hj => by omega, Nx1.mk fun hh => by have := chain_at (vspec_zero h).2 0 hh; omega, fun hz => by omega, by simp [sumG], Nx0.mk fun hh => by have := chain_at (vspec_zero h).2 0 hh; simp only [List.take_zero, sumG]; omega, by omega⟩ (by omega)
    exact this
  · rw [if_neg h]
    simp only [if_neg h]
    exact Ev.now _
end Go.Proofs.Ytaihajmdngoeiaa.Q

namespace Go.Proofs.Ytaihajmdngoeiaa.O
open Go.ChangeShapes Go.WideShapes Go.Deep Go.Proofs.YtaihajmdngoeiaaW.PrintWords

/-- What a value of type t that came in is, as a Lean value of kind d; and what is known of it. -/
def Opens {α : Type} (P : Program) (t : TypeId) (d : Kd α) (B : α → Prop) : Prop :=
  ∀ {H : Type} {enc : TypeId × Value → H} {w : World} {base : Nat} {spare : Nat → Bool} {held : Bool} {fuel : Nat} {cs : List Value} {x : DataW H × List MemPlace},
    DataW.trod enc P w base spare held fuel t cs = some x → (∀ n ∈ x.1.weights P t, n ≤ reachBytes) → ∃ a, d.K w a cs ∧ B a

theorem Opens.imp {α : Type} {P : Program} {t : TypeId} {d : Kd α} {B B' : α → Prop} (h : Opens P t d B) (hb : ∀ a, B a → B' a) : Opens P t d B' := fun h1 h2 => by
  obtain ⟨a, h3, h4⟩ := h h1 h2
  exact ⟨a, h3, hb a h4⟩
theorem opens_int {P : Program} {t : TypeId} {k : IntKind} (hu : P.underlying t = some (.int k)) : Opens P t (Kd.int k) (fun n => (Lit.int k n).wf = true) := fun h _ => by
  obtain ⟨n, rfl, rfl, hw⟩ := DataW.trod_int hu h
  exact ⟨n, rfl, hw⟩
theorem opens_bool {P : Program} {t : TypeId} (hu : P.underlying t = some .bool) : Opens P t Kd.bool (fun _ => True) := fun h _ => by
  obtain ⟨n, rfl, rfl⟩ := DataW.trod_bool hu h
  exact ⟨n, rfl, trivial⟩
theorem opens_string {P : Program} {t : TypeId} (hu : P.underlying t = some .string) : Opens P t Kd.string (fun s => s.size ≤ 140737488351232) := fun h hw => by
  obtain ⟨s, rfl, rfl, _⟩ := DataW.trod_string hu h
  refine ⟨s, rfl, ?_⟩
  have := hw s.data.toList.length (by simp [DataW.weights])
  rw [Array.length_toList] at this
  exact this

theorem mem_weightsAll {H : Type} {P : Program} {e : TypeId} : ∀ {l : List (DataW H)} {y : DataW H}, y ∈ l → ∀ n ∈ y.weights P e, n ∈ DataW.weightsAll P e l
  | y0 :: l, y, h, n, hn => by
    simp only [DataW.weightsAll, List.mem_append]
    rcases List.mem_cons.1 h with rfl | h
    · exact .inl hn
    · exact .inr (mem_weightsAll h n hn)

/-- A slice that came in, its address and capacity told. -/
theorem open_row {α : Type} {P : Program} {t e : TypeId} {d : Kd α} {B : α → Prop} (hu : P.underlying t = some (.slice e)) (he : Opens P e d B) (hc : P.cellsOf e = d.sz)
    {H : Type} {enc : TypeId × Value → H} {w : World} {base : Nat} {spare : Nat → Bool} {held : Bool} {fuel : Nat} {A : Option Addr} {n c : Nat} {x : DataW H × List MemPlace}
    (h : DataW.trod enc P w base spare held fuel t [.slice A n c] = some x) (hw : ∀ n ∈ x.1.weights P t, n ≤ reachBytes) :
    ∃ xs : List α, xs.length = n ∧ d.C w A n xs ∧ n ≤ c ∧ (A = none → c = 0) ∧ (∀ a ∈ xs, B a) ∧ n * P.bytesOf e ≤ 140737488351232 := by
  rcases open_slice hu h with ⟨hcs, rfl⟩ | ⟨a, len, cap, m, fu, D, Pl, hcs, hb, hl, hm, hmm, rfl, hel⟩
  · simp only [List.cons.injEq, Value.slice.injEq, and_true] at hcs
    obtain ⟨rfl, rfl, rfl⟩ := hcs
    exact ⟨[], rfl, ⟨rfl, by omega, fun h0 => absurd h0 (by omega)⟩, by omega, fun _ => rfl, (fun a ha => by cases ha), by omega⟩
  · simp only [List.cons.injEq, Value.slice.injEq, and_true] at hcs
    obtain ⟨rfl, rfl, rfl⟩ := hcs
    have hlm : n ≤ m := by rw [hmm]; split <;> omega
    have hex : ∀ i, i < n → ∃ v : α, (∃ cs, d.K w v cs ∧ ∀ j u, cs[j]? = some u → w.cell? (a.add (i * d.sz + j)) = some u) ∧ B v := by
      intro i hi
      obtain ⟨cs', hc1, hc2⟩ := hel i (by omega)
      have hmem : D i ∈ (List.range n).map D := List.mem_map.2 ⟨i, List.mem_range.2 hi, rfl⟩
      obtain ⟨v, hv, hB⟩ := he hc2 (fun q hq => hw q (by
        simp only [DataW.weights, hu, List.mem_cons, List.mem_append]
        exact .inr (.inl (mem_weightsAll hmem q hq))))
      refine ⟨v, ⟨cs', hv, fun j u hj => ?_⟩, hB⟩
      obtain ⟨_, hcl, hat⟩ := World.cells?_some hc1
      have hjl : j < cs'.length := (List.getElem?_eq_some_iff.1 hj).1
      have := hat j (by omega)
      rw [hc] at this
      rw [← Go.Deep.add_add, this, hj]
    have key : ∀ k, k ≤ n → ∃ xs : List α, xs.length = k ∧ (∀ j p, xs[j]? = some p → (∃ cs, cs.length = d.sz ∧ d.K w p cs ∧ ∀ i u, cs[i]? = some u → w.cell? (a.add (j * d.sz + i)) = some u) ∧ B p) := by
      intro k
      induction k with
      | zero => intro _; exact ⟨[], rfl, fun j p hj => by simp at hj⟩
      | succ k ih =>
        intro hk
        obtain ⟨xs, hx, hxs⟩ := ih (by omega)
        obtain ⟨v, ⟨cs, hv, hcell⟩, hB⟩ := hex k (by omega)
        refine ⟨xs ++ [v], by simp [hx], fun j p hj => ?_⟩
        rcases Nat.lt_or_ge j k with hjk | hjk
        · rw [List.getElem?_append_left (by omega)] at hj
          exact hxs j p hj
        · have hjl := (List.getElem?_eq_some_iff.1 hj).1
          rw [List.length_append, List.length_singleton] at hjl
          obtain rfl : j = k := by omega
          have hp : v = p := by simpa [List.getElem?_append_right, hx] using hj
          subst hp
          exact ⟨⟨cs, d.K_len hv, hv, hcell⟩, hB⟩
    obtain ⟨xs, hx, hxs⟩ := key n (Nat.le_refl _)
    refine ⟨xs, hx, ⟨hx, by have : maxLen = 9223372036854775807 := rfl; omega, fun _ => ⟨a, rfl, fun j p hj => (hxs j p hj).1⟩⟩, hl, (fun h => by cases h), fun v hv => ?_, ?_⟩
    · obtain ⟨j, hj, rfl⟩ := List.mem_iff_getElem.1 hv
      exact (hxs j _ (List.getElem?_eq_getElem hj)).2
    · have := hw ((((List.range n).map D).length + ((List.range (m - n)).map fun j => D (n + j)).length) * P.bytesOf e) (by
        simp only [DataW.weights, hu]
        exact List.mem_cons_self)
      simp only [List.length_map, List.length_range] at this
      have h2 : n * P.bytesOf e ≤ (n + (m - n)) * P.bytesOf e := Nat.mul_le_mul_right _ (by omega)
      have h3 : reachBytes = 140737488351232 := rfl
      omega

theorem opens_slice {α : Type} {P : Program} {t e : TypeId} {d : Kd α} {B : α → Prop} (hu : P.underlying t = some (.slice e)) (he : Opens P e d B) (hc : P.cellsOf e = d.sz) :
    Opens P t (Kd.slice e d) (fun xs => (∀ a ∈ xs, B a) ∧ xs.length * P.bytesOf e ≤ 140737488351232) := by
  intro H enc w base spare held fuel cs x h hw
  obtain ⟨A, n, c, rfl⟩ : ∃ A n c, cs = [.slice A n c] := by
    rcases open_slice hu h with ⟨hcs, _⟩ | ⟨a, len, cap, m, fu, D, Pl, hcs, _⟩
    · exact ⟨_, _, _, hcs⟩
    · exact ⟨_, _, _, hcs⟩
  obtain ⟨xs, rfl, h1, h2, h3, h4, h5⟩ := open_row hu he hc h hw
  exact ⟨xs, ⟨A, c, rfl, h2, h1⟩, h4, h5⟩
end Go.Proofs.Ytaihajmdngoeiaa.O

namespace Go.Proofs.Ytaihajmdngoeiaa.O
open Go.ChangeShapes Go.WideShapes Go.Deep Go.Proofs.YtaihajmdngoeiaaW.PrintWords Go.Proofs.Ytaihajmdngoeiaa
set_option linter.unusedVariables false

section
variable {H : Type} {enc : TypeId × Value → H}
/-- The wrap of a row with a condition of its specification's own, the reach handed on. -/
theorem returns_upto {a : Assume} {C : Checked} {os : Os} {f : FuncId} {fn : Func} {s : OpenSpec} {k : (H : Type) → List (DataW H) → Bool} (hk : s.cond = some k) {F : Stop.Interp} {conds : List PathCond} {apart fresh handsOn again : Bool}
    (own : ownKnob C.prog.godebug = none) (started : os.Started) (noInit : C.prog.inits.idxOf? f = none) (hfn : C.prog.funcs[f]? = some fn)
    (witness : ∃ (w : World) (tape : Tape) (i : Input), w.os = os ∧ (w.forCall tape i).Shaped C.prog ∧ i.vars = [] ∧ Input.okWide C.prog (w.forCall tape i) .any w.heap.size f i ∧
      s.pre6 enc C.prog fn conds apart (w.forCall tape i).memory i.args ∧ a.holds C.prog (lone (Frame.enter C.prog f i.args .normal) [] (w.forCall tape i)))
    (contract : ∀ (W : World) (base : Nat) (args : Array Value) (ds gs : List (DataW H)) (before : List MemPlace),
      (∀ (j : Nat) t v, fn.params[j]? = some t → args[j]? = some v → Value.okWide C.prog W .any base t v) →
      DataW.Whole enc C.prog fn.params.toList s.vars apart W args.toList ds gs before →
      conds.all (PathCond.test C.prog ⟨fn.params.toList, ds, s.bare.plain.varTypes C.prog, gs⟩) = true → k H (ds ++ gs) = true →
      (DataW.weightsEach C.prog (fn.params.toList ++ s.bare.plain.varTypes C.prog) (ds ++ gs)).all (· ≤ reachBytes) = true →
      a.holds C.prog (lone (Frame.enter C.prog f args .normal) [] W) →
      Calls C.prog f args W fun e W' => ∃ v, e = .returned v ∧ (s.at F).post enc C.prog fn apart fresh handsOn again W args v W') :
    ReturnsInHanded a C os f .any (s.pre6 enc C.prog fn conds apart) ((s.at F).post enc C.prog fn apart fresh handsOn again) := by
  refine returnsInHanded_of_calls own started noInit witness ?_
  intro w tape i _ _ _ hok hpre hholds
  obtain ⟨_, _, _, fn', hfn', _, _, _, _, hval⟩ := hok
  have e : fn' = fn := Option.some.inj (hfn'.symm.trans hfn)
  subst e
  obtain ⟨ds, gs, before, hw, hc, hkk⟩ := (OpenSpec.pre_some hk conds apart _ _).1 hpre.1
  have hw' := DataW.Whole.of_heap (w' := w.forCall tape i) (by rfl) hw
  have hz := hpre.2
  refine (contract (w.forCall tape i) w.heap.size i.args ds gs before hval hw' hc hkk (hz.weights hw) hholds).mono fun e W' ⟨v, he, hp⟩ => ?_
  subst he
  exact ChangeSpec.post_blind hp
end

theorem witnessU {H : Type} {enc : TypeId × Value → H} {C : Checked} {os : Os} {f : FuncId} {fn : Func} {s : OpenSpec} {k : (H : Type) → List (DataW H) → Bool} (hk : s.cond = some k) {conds : List PathCond} {apart : Bool} (modest : Bool) (i : Input) (fuel : Nat)
    (hv : (World.plainHolding C.prog os i).variablesB C.prog = true)
    (hr : ((World.plainHolding C.prog os i).heap.toList.drop C.prog.globals.size).take ((begin C.prog (fun _ _ => 0) default).world.heap.size - C.prog.globals.size) =
      (begin C.prog (fun _ _ => 0) default).world.heap.toList.drop C.prog.globals.size)
    (hok : Input.okWideB C.prog (World.plainHolding C.prog os i) f ⟨#[], i.args, []⟩ = true)
    (hB : (match DataW.whole enc C.prog (World.plainHolding C.prog os i).memory fn.params.toList s.vars apart i.args.toList fuel with
      | some x => conds.all (PathCond.test C.prog ⟨fn.params.toList, x.1, s.bare.plain.varTypes C.prog, x.2.1⟩) && k H (x.1 ++ x.2.1)
      | none => false) = true)
    (hsz : s.bare.sizedB enc C.prog fn apart (World.plainHolding C.prog os i).memory i.args fuel = true) :
    ∃ (w : World) (tape : Tape) (i : Input), w.os = os ∧ (w.forCall tape i).Shaped C.prog ∧ i.vars = [] ∧ Input.okWide C.prog (w.forCall tape i) .any w.heap.size f i ∧
      s.pre6 enc C.prog fn conds apart (w.forCall tape i).memory i.args ∧ ({ modest := modest } : Assume).holds C.prog (lone (Frame.enter C.prog f i.args .normal) [] (w.forCall tape i)) := by
  cases hx : DataW.whole enc C.prog (World.plainHolding C.prog os i).memory fn.params.toList s.vars apart i.args.toList fuel with
  | none => rw [hx] at hB; cases hB
  | some x =>
    rw [hx] at hB
    have h := (Bool.and_eq_true _ _).mp hB
    exact OpenSpec.witness hk modest i fuel hv hr hok hx h.1 h.2 hsz

/-- As Opens; and the value is no heavier than the reading's bulk. -/
def OpensU {α : Type} (P : Program) (t : TypeId) (d : Kd α) (B : α → Prop) (m : α → Nat) : Prop :=
  ∀ {H : Type} {enc : TypeId × Value → H} {w : World} {base : Nat} {spare : Nat → Bool} {held : Bool} {fuel : Nat} {cs : List Value} {x : DataW H × List MemPlace},
    DataW.trod enc P w base spare held fuel t cs = some x → (∀ n ∈ x.1.weights P t, n ≤ reachBytes) → ∃ a, d.K w a cs ∧ B a ∧ m a ≤ Rows.uptoBulk x.1

theorem opens_intU {P : Program} {t : TypeId} {k : IntKind} (hu : P.underlying t = some (.int k)) : OpensU P t (Kd.int k) (fun n => (Lit.int k n).wf = true) (fun _ => 1) := fun h _ => by
  obtain ⟨n, rfl, rfl, hw⟩ := DataW.trod_int hu h
  exact ⟨n, rfl, hw, by simp [Rows.uptoBulk]⟩
theorem opens_boolU {P : Program} {t : TypeId} (hu : P.underlying t = some .bool) : OpensU P t Kd.bool (fun _ => True) (fun _ => 1) := fun h _ => by
  obtain ⟨n, rfl, rfl⟩ := DataW.trod_bool hu h
  exact ⟨n, rfl, trivial, by simp [Rows.uptoBulk]⟩
theorem opens_stringU {P : Program} {t : TypeId} (hu : P.underlying t = some .string) : OpensU P t Kd.string (fun s => s.size ≤ 140737488351232) (fun s => s.size + 1) := fun h hw => by
  obtain ⟨s, rfl, rfl, _⟩ := DataW.trod_string hu h
  have e : s.data.toList.length = s.size := by rw [Array.length_toList]; rfl
  refine ⟨s, rfl, ?_, by simp only [Rows.uptoBulk]; omega⟩
  have := hw s.data.toList.length (by simp [DataW.weights])
  rw [e] at this
  exact this

theorem bulkAll_snoc {H : Type} : ∀ (l : List (DataW H)) (d : DataW H), Rows.uptoBulkAll (l ++ [d]) = Rows.uptoBulkAll l + Rows.uptoBulk d
  | [], d => by simp [Rows.uptoBulkAll]
  | x :: l, d => by simp only [List.cons_append, Rows.uptoBulkAll, bulkAll_snoc l d]; omega
def sumM {α : Type} (m : α → Nat) : List α → Nat
  | [] => 0
  | a :: l => m a + sumM m l
theorem sumM_snoc {α : Type} (m : α → Nat) : ∀ (l : List α) (a : α), sumM m (l ++ [a]) = sumM m l + m a
  | [], a => by simp [sumM]
  | x :: l, a => by simp only [List.cons_append, sumM, sumM_snoc m l a]; omega

theorem open_rowU {α : Type} {P : Program} {t e : TypeId} {d : Kd α} {B : α → Prop} {M : α → Nat} (hu : P.underlying t = some (.slice e)) (he : OpensU P e d B M) (hc : P.cellsOf e = d.sz)
    {H : Type} {enc : TypeId × Value → H} {w : World} {base : Nat} {spare : Nat → Bool} {held : Bool} {fuel : Nat} {A : Option Addr} {n c : Nat} {x : DataW H × List MemPlace}
    (h : DataW.trod enc P w base spare held fuel t [.slice A n c] = some x) (hw : ∀ n ∈ x.1.weights P t, n ≤ reachBytes) :
    ∃ xs : List α, xs.length = n ∧ d.C w A n xs ∧ n ≤ c ∧ (A = none → c = 0) ∧ (∀ a ∈ xs, B a) ∧ n * P.bytesOf e ≤ 140737488351232 ∧ sumM M xs + 1 ≤ Rows.uptoBulk x.1 := by
  rcases open_slice hu h with ⟨hcs, rfl⟩ | ⟨a, len, cap, m, fu, D, Pl, hcs, hb, hl, hm, hmm, rfl, hel⟩
  · simp only [List.cons.injEq, Value.slice.injEq, and_true] at hcs
    obtain ⟨rfl, rfl, rfl⟩ := hcs
    exact ⟨[], rfl, ⟨rfl, by omega, fun h0 => absurd h0 (by omega)⟩, by omega, fun _ => rfl, (fun a ha => by cases ha), by omega, by simp [sumM, Rows.uptoBulk]⟩
  · simp only [List.cons.injEq, Value.slice.injEq, and_true] at hcs
    obtain ⟨rfl, rfl, rfl⟩ := hcs
    have hlm : n ≤ m := by rw [hmm]; split <;> omega
    have hex : ∀ i, i < n → ∃ v : α, (∃ cs, d.K w v cs ∧ ∀ j u, cs[j]? = some u → w.cell? (a.add (i * d.sz + j)) = some u) ∧ B v ∧ M v ≤ Rows.uptoBulk (D i) := by
      intro i hi
      obtain ⟨cs', hc1, hc2⟩ := hel i (by omega)
      have hmem : D i ∈ (List.range n).map D := List.mem_map.2 ⟨i, List.mem_range.2 hi, rfl⟩
      obtain ⟨v, hv, hB, hM⟩ := he hc2 (fun q hq => hw q (by
        simp only [DataW.weights, hu, List.mem_cons, List.mem_append]
        exact .inr (.inl (mem_weightsAll hmem q hq))))
      refine ⟨v, ⟨cs', hv, fun j u hj => ?_⟩, hB, hM⟩
      obtain ⟨_, hcl, hat⟩ := World.cells?_some hc1
      have hjl : j < cs'.length := (List.getElem?_eq_some_iff.1 hj).1
      have := hat j (by omega)
      rw [hc] at this
      rw [← Go.Deep.add_add, this, hj]
    have key : ∀ k, k ≤ n → ∃ xs : List α, xs.length = k ∧ (∀ j p, xs[j]? = some p → (∃ cs, cs.length = d.sz ∧ d.K w p cs ∧ ∀ i u, cs[i]? = some u → w.cell? (a.add (j * d.sz + i)) = some u) ∧ B p) ∧ sumM M xs ≤ Rows.uptoBulkAll ((List.range k).map D) := by
      intro k
      induction k with
      | zero => intro _; exact ⟨[], rfl, fun j p hj => by simp at hj, by simp [sumM]⟩
      | succ k ih =>
        intro hk
        obtain ⟨xs, hx, hxs, hsum⟩ := ih (by omega)
        obtain ⟨v, ⟨cs, hv, hcell⟩, hB, hM⟩ := hex k (by omega)
        refine ⟨xs ++ [v], by simp [hx], fun j p hj => ?_, ?_⟩
        · rcases Nat.lt_or_ge j k with hjk | hjk
          · rw [List.getElem?_append_left (by omega)] at hj
            exact hxs j p hj
          · have hjl := (List.getElem?_eq_some_iff.1 hj).1
            rw [List.length_append, List.length_singleton] at hjl
            obtain rfl : j = k := by omega
            have hp : v = p := by simpa [List.getElem?_append_right, hx] using hj
            subst hp
            exact ⟨⟨cs, d.K_len hv, hv, hcell⟩, hB⟩
        · rw [sumM_snoc, List.range_succ, List.map_append, List.map_cons, List.map_nil, bulkAll_snoc]
          omega
    obtain ⟨xs, hx, hxs, hsum⟩ := key n (Nat.le_refl _)
    refine ⟨xs, hx, ⟨hx, by have : maxLen = 9223372036854775807 := rfl; omega, fun _ => ⟨a, rfl, fun j p hj => (hxs j p hj).1⟩⟩, hl, (fun h => by cases h), fun v hv => ?_, ?_, ?_⟩
    · obtain ⟨j, hj, rfl⟩ := List.mem_iff_getElem.1 hv
      exact (hxs j _ (List.getElem?_eq_getElem hj)).2
    · have := hw ((((List.range n).map D).length + ((List.range (m - n)).map fun j => D (n + j)).length) * P.bytesOf e) (by
        simp only [DataW.weights, hu]
        exact List.mem_cons_self)
      simp only [List.length_map, List.length_range] at this
      have h2 : n * P.bytesOf e ≤ (n + (m - n)) * P.bytesOf e := Nat.mul_le_mul_right _ (by omega)
      have h3 : reachBytes = 140737488351232 := rfl
      omega
    · simp only [Rows.uptoBulk]
      omega
end Go.Proofs.Ytaihajmdngoeiaa.O

namespace Go.Proofs.Ytaihajmdngoeiaa.H
open Go.ChangeShapes Go.WideShapes Go.Deep Go.Proofs.YtaihajmdngoeiaaW.PrintWords Go.Proofs.Ytaihajmdngoeiaa.F

def B42 (x : S42) : Prop := (Lit.int .i64 x.f0).wf = true ∧ (Lit.int .i64 x.f1).wf = true ∧ x.f2.size ≤ 140737488351232
theorem cells42 : Try.prog.cellsOf 42 = 3 := by kernel_rfl
theorem cells3 : Try.prog.cellsOf 3 = 1 := by kernel_rfl
theorem cells9 : Try.prog.cellsOf 9 = 1 := by kernel_rfl
theorem bytes42 : Try.prog.bytesOf 42 = 32 := by kernel_rfl
theorem opens42 : O.Opens Try.prog 42 k42 B42 := by
  intro H enc w base spare held fuel cs x h hw
  obtain ⟨ys, n, rfl, rfl, hlen, hyl, hf⟩ := DataW.trod_struct Try.underlying42 h
  rw [cells42] at hlen
  obtain ⟨c0, c1, c2, rfl⟩ : ∃ a b c, cs = [a, b, c] := by
    match cs, hlen with
    | [a, b, c], _ => exact ⟨a, b, c, rfl⟩
  obtain ⟨y0, y1, y2, rfl⟩ : ∃ a b c, ys = [a, b, c] := by
    match ys, hyl with
    | [a, b, c], _ => exact ⟨a, b, c, rfl⟩
  have f0 := hf 0 { name := "From", type := 3, offset := 0, embedded := false, tag := "", pkgPath := "", byteOffset := 0 } rfl
  have f1 := hf 1 { name := "To", type := 3, offset := 1, embedded := false, tag := "", pkgPath := "", byteOffset := 8 } rfl
  have f2 := hf 2 { name := "Text", type := 9, offset := 2, embedded := false, tag := "", pkgPath := "", byteOffset := 16 } rfl
  simp only [cells3, cells9, List.drop_zero, List.drop_succ_cons, List.take_succ_cons, List.take_zero, List.getElem?_cons_zero, List.getElem?_cons_succ] at f0 f1 f2
  have hq : ∀ (j : Nat) (t : TypeId) (d : DataW H), [3, 3, 9][j]? = some t → [y0.1, y1.1, y2.1][j]? = some d → ∀ n ∈ d.weights Try.prog t, n ≤ reachBytes := by
    intro j t d h1 h2 q hq
    refine hw q ?_
    simp only [DataW.weights, Try.underlying42]
    exact DataW.weights_mem_each (j := j) h1 h2 q hq
  obtain ⟨a0, e0, w0⟩ := O.opens_int Try.underlying3 f0 (hq 0 _ _ rfl rfl)
  obtain rfl : c0 = .int .i64 a0 := (List.cons.inj e0).1
  obtain ⟨a1, e1, w1⟩ := O.opens_int Try.underlying3 f1 (hq 1 _ _ rfl rfl)
  obtain rfl : c1 = .int .i64 a1 := (List.cons.inj e1).1
  obtain ⟨a2, e2, w2⟩ := O.opens_string Try.underlying9 f2 (hq 2 _ _ rfl rfl)
  obtain rfl : c2 = .string a2 := (List.cons.inj e2).1
  exact ⟨⟨a0, a1, a2⟩, k42_mk w _, w0, w1, w2⟩
end Go.Proofs.Ytaihajmdngoeiaa.H

namespace Go.Proofs.Ytaihajmdngoeiaa.H
open Go.ChangeShapes Go.WideShapes Go.Deep Go.Proofs.YtaihajmdngoeiaaW.PrintWords Go.Proofs.Ytaihajmdngoeiaa.F Go.Proofs.Ytaihajmdngoeiaa
theorem opens42U : O.OpensU Try.prog 42 k42 B42 (fun x => x.f2.size + 4) := by
  intro H enc w base spare held fuel cs x h hw
  obtain ⟨ys, n, rfl, rfl, hlen, hyl, hf⟩ := DataW.trod_struct Try.underlying42 h
  rw [cells42] at hlen
  obtain ⟨c0, c1, c2, rfl⟩ : ∃ a b c, cs = [a, b, c] := by
    match cs, hlen with
    | [a, b, c], _ => exact ⟨a, b, c, rfl⟩
  obtain ⟨y0, y1, y2, rfl⟩ : ∃ a b c, ys = [a, b, c] := by
    match ys, hyl with
    | [a, b, c], _ => exact ⟨a, b, c, rfl⟩
  have f0 := hf 0 { name := "From", type := 3, offset := 0, embedded := false, tag := "", pkgPath := "", byteOffset := 0 } rfl
  have f1 := hf 1 { name := "To", type := 3, offset := 1, embedded := false, tag := "", pkgPath := "", byteOffset := 8 } rfl
  have f2 := hf 2 { name := "Text", type := 9, offset := 2, embedded := false, tag := "", pkgPath := "", byteOffset := 16 } rfl
  simp only [cells3, cells9, List.drop_zero, List.drop_succ_cons, List.take_succ_cons, List.take_zero, List.getElem?_cons_zero, List.getElem?_cons_succ] at f0 f1 f2
  have hq : ∀ (j : Nat) (t : TypeId) (d : DataW H), [3, 3, 9][j]? = some t → [y0.1, y1.1, y2.1][j]? = some d → ∀ n ∈ d.weights Try.prog t, n ≤ reachBytes := by
    intro j t d h1 h2 q hq
    refine hw q ?_
    simp only [DataW.weights, Try.underlying42]
    exact DataW.weights_mem_each (j := j) h1 h2 q hq
  obtain ⟨a0, e0, w0, m0⟩ := O.opens_intU Try.underlying3 f0 (hq 0 _ _ rfl rfl)
  obtain rfl : c0 = .int .i64 a0 := (List.cons.inj e0).1
  obtain ⟨a1, e1, w1, m1⟩ := O.opens_intU Try.underlying3 f1 (hq 1 _ _ rfl rfl)
  obtain rfl : c1 = .int .i64 a1 := (List.cons.inj e1).1
  obtain ⟨a2, e2, w2, m2⟩ := O.opens_stringU Try.underlying9 f2 (hq 2 _ _ rfl rfl)
  obtain rfl : c2 = .string a2 := (List.cons.inj e2).1
  refine ⟨⟨a0, a1, a2⟩, k42_mk w _, ⟨w0, w1, w2⟩, ?_⟩
  show a2.size + 4 ≤ Rows.uptoBulk (DataW.agg [y0.1, y1.1, y2.1])
  simp only [Rows.uptoBulk, Rows.uptoBulkAll]
  simp only at m0 m1 m2
  generalize Rows.uptoBulk y0.1 = z0 at m0 ⊢
  generalize Rows.uptoBulk y1.1 = z1 at m1 ⊢
  generalize Rows.uptoBulk y2.1 = z2 at m2 ⊢
  omega
/-- The weight of a list of edits, as the row counts it. -/
def wt (l : List S42) : Nat := O.sumM (fun x => x.f2.size + 4) l
theorem wt_tot : ∀ (l : List S42), (l.map fun x => x.f2.size).sum + 4 * l.length = wt l
  | [] => rfl
  | x :: l => by
    have := wt_tot l
    simp only [List.map_cons, List.sum_cons, List.length_cons, wt, O.sumM] at this ⊢
    omega
end Go.Proofs.Ytaihajmdngoeiaa.H

namespace Go.Proofs.Ytaihajmdngoeiaa.L
open Go.RowKit Go.Proofs.YtaihajmdngoeiaaW.PrintWords Go.Proofs.YtaihajmdngoeiaaW.PrintLast Go.Proofs.YtaihajmdngoeiaaW.PrintMore
open Go.Proofs.Ytaihajmdngoeiaa.F Go.Proofs.Ytaihajmdngoeiaa.H
set_option linter.unusedVariables false
set_option linter.unusedSimpArgs false

theorem tot_wt : ∀ (l : List S42), Q.tot l + 4 * l.length = O.sumM (fun x => x.f2.size + 4) l
  | [] => rfl
  | x :: l => by
    have := tot_wt l
    simp only [Q.tot, O.sumM, List.length_cons]
    omega
theorem kept_walk (a0 : ByteArray) (A1 : Option Addr) (c1 : Nat) (l : List S42) (w : World) (hs : a0.size ≤ 140737488351232) (hr : Kd.C k42 w A1 l.length l) (hc : l.length ≤ c1) (hn : A1 = none → c1 = 0) (hB : ∀ x ∈ l, B42 x) (hb : l.length * 32 ≤ 140737488351232) (hu : (a0.size + 1) + (O.sumM (fun x => x.f2.size + 4) l + 1) ≤ 1048576) :
    Calls Try.prog 8 #[.string a0, .slice A1 l.length c1] w fun e w' => e = .returned (.bool true) ∧ Below w.heap.size w w' := by
  rw [← tot_wt] at hu
  obtain ⟨k, hk⟩ := (Q.EditsKept_is a0 l (by omega)).rounds
  exact monikerlaw1_EditsKept.calls k a0 A1 c1 l true w hr hc hk
end Go.Proofs.Ytaihajmdngoeiaa.L


namespace Go.Proofs.Ytaihajmdngoeiaa.editsKept
open Go.ChangeShapes Go.WideShapes Go.ChangeAt Go.RowKit Go.Proofs.Ytaihajmdngoeiaa
open Go.ChangeMaps (open_string shut_string)
set_option linter.unusedVariables false
theorem own : ownKnob Try.prog.godebug = none := by kernel_rfl
theorem laidOut : laidOutB Try.prog = true := by kernel_rfl
set_option maxRecDepth 100000 in
theorem lifted (os : Os) (started : os.Started) (H : Type) (enc : TypeId × Value → H) (F : Stop.Interp) :
    ReturnsInHanded {} Try.checked os 8 .any ((Rows.OpenSpec.upto Rows.editsKeptSpec).pre6 enc Try.prog Try.f8 Rows.editsKeptUptoRow.domain false) (((Rows.OpenSpec.upto Rows.editsKeptSpec).at F).post enc Try.prog Try.f8 false true false false) := by
  refine O.returns_upto (k := Rows.uptoSmall) (s := Rows.OpenSpec.upto Rows.editsKeptSpec) rfl (C := Try.checked) own started (by kernel_rfl) Try.func8
    (O.witnessU (enc := enc) (C := Try.checked) (s := Rows.OpenSpec.upto Rows.editsKeptSpec) rfl false ⟨#[], #[.string ByteArray.empty, .slice none 0 0], []⟩ 8 (by kernel_rfl) (by kernel_rfl) (by kernel_rfl) (by kernel_rfl) (by kernel_rfl)) ?_
  intro W base args ds gs before hval0 hW hcnd hk0 hsz0 _
  have hsz : (DataW.weightsEach Try.prog (Try.f8.params.toList ++ Rows.editsKeptSpec.plain.varTypes Try.prog) (ds ++ gs)).all (· ≤ reachBytes) = true := hsz0
  have hval : ∀ (j : Nat) t v, Try.f8.params[j]? = some t → args[j]? = some v → Value.okWide Try.prog W .any base t v := hval0
  have hW' := hW
  obtain ⟨p, q, hA0, hV, rfl, hfz, hnd⟩ := hW
  have hA : DataW.TrodAll enc Try.prog W 0 (fun _ => true) true Try.f8.params.toList args.toList ds p := hA0
  rw [Try.params8] at hA hval hsz
  obtain ⟨v0, vs0, d0, ds0, p0, q0, hargs, rfl, rfl, h0, r0⟩ := trodAll_cons hA
  obtain ⟨v1, vs1, d1, ds1, p1, q1, rfl, rfl, rfl, h1, r1⟩ := trodAll_cons r0
  obtain ⟨rfl, rfl, rfl⟩ := trodAll_nil r1
  obtain rfl : args = #[v0, v1] := by cases args; simp_all
  obtain ⟨rfl, rfl⟩ := trodVars_none hV
  have hbulk : Rows.uptoBulkAll ([d0, d1] ++ []) ≤ 1048576 := of_decide_eq_true hk0
  simp only [List.append_nil, Rows.uptoBulkAll, Nat.add_zero] at hbulk
  obtain ⟨a0, rfl, rfl, rfl, y0⟩ := open_string Try.underlying9 (hval 0 9 v0 rfl rfl) h0
  have w0 : a0.size ≤ 140737488351232 := by
    have z := sized_string hsz (j := 0) (t := 9) rfl rfl
    rw [Array.length_toList] at z
    exact z
  have hm0 : a0.size + 1 ≤ Rows.uptoBulk (DataW.lit (H := H) (.string a0.data.toList)) := by simp only [Rows.uptoBulk]; rw [Array.length_toList]; exact Nat.le_refl _
  obtain ⟨a1, len1, cap1, rfl⟩ := okWide_slice Try.underlying22 (hval 1 22 v1 rfl rfl)
  have k1 := h1
  have lt1 : ∀ x ∈ p1, x.block < W.heap.size := by obtain ⟨m, hm⟩ := k1; exact DataW.trod_lt m _ _ _ hm
  obtain ⟨fu1, hf1⟩ := h1
  have hg1 : DataW.trod enc Try.prog W 0 (fun _ => true) true fu1 22 [.slice a1 len1 cap1] = some (d1, p1) := by simpa [Value.cells] using hf1
  have hq1 : ∀ n ∈ DataW.weights Try.prog 22 d1, n ≤ reachBytes := fun n hn => of_decide_eq_true (List.all_eq_true.1 hsz n (DataW.weights_mem_each (j := 1) rfl rfl n hn))
  obtain ⟨l1, rfl, hC1, hc1, hn1, hB1, hb1, hm1⟩ := O.open_rowU Try.underlying22 Go.Proofs.Ytaihajmdngoeiaa.H.opens42U Go.Proofs.Ytaihajmdngoeiaa.H.cells42 hg1 hq1
  rw [Go.Proofs.Ytaihajmdngoeiaa.H.bytes42] at hb1
  clear hA0 hval0 hsz0 hsz
  refine (L.kept_walk a0 a1 cap1 l1 W w0 hC1 hc1 hn1 hB1 hb1 (Nat.le_trans (Nat.add_le_add hm0 hm1) hbulk)).mono fun e W' ⟨he, bel⟩ => ?_
  subst he
  exact ⟨_, rfl, _, _, _, [], _, [], hW', trodAll_mk1 (shut_bool Try.underlying4 _), (trodAll_cons_mk (shut_string Try.underlying9 y0) (trodAll_cons_mk (Below.trod laidOut (by kernel_rfl) (of_decide_eq_true (by kernel_rfl)) k1 bel lt1) trodAll_mk0)), rfl, bel.frame _, fun h => by cases h⟩
theorem over : Rows.editsKeptUptoRow.holds Try.pinned (Rows.OpenSpec.upto Rows.editsKeptSpec) :=
  OpenClaim.holds_of_cond 8 Try.f8 rfl rfl rfl rfl rfl rfl rfl ⟨rfl, rfl, rfl, rfl, rfl⟩ rfl rfl rfl rfl rfl (by kernel_rfl) Try.func8 (by kernel_rfl)
    (of_decide_eq_true (by kernel_rfl)) (by unfold Func.isWrapper; first | (rw [if_pos (by decide +kernel)]; kernel_rfl) | (rw [if_neg (by decide +kernel)]; exact ⟨rfl, rfl⟩))
    (fun os started H enc _ F => lifted os started H enc F)
theorem proved : Rows.EditsKeptUptoSaid := over
#print axioms proved
end Go.Proofs.Ytaihajmdngoeiaa.editsKept
namespace Go.Proofs.Ytaihajmdngoeiaa
/-- The row, under a short name, for the claim. -/
theorem editsKept_holds : Rows.EditsKeptUptoSaid := editsKept.proved
end Go.Proofs.Ytaihajmdngoeiaa
