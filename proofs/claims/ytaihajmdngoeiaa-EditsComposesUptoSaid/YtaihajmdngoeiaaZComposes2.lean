/- The law EditsComposes of package monikerlaw holds of the given program: called with any arguments that can be read as data, together of bulk at most 1048576, it returns true, and its arguments read behind the call as before. Conditions: those of the given row '..Upto', no others. -/
import Derived.Test.YtaihajmdngoeiaaZComposes1
import Derived.Test.YtaihajmdngoeiaaWMore
import Derived.SizedLaws
import Derived.ChangeSlices
import Derived.Deep.Slices
import Derived.Test.YtaihajmdngoeiaaRows
import Derived.JoinedCond
import Derived.ChangeArms
import Derived.WalkKit
import Derived.ProofKit
import Derived.OpenShut
import Derived.ShutString
import Derived.ChangeOld
import Derived.Below
-- A text of this session's own program (wip/myprint.sh over a changed print tool): functions and their walks
namespace Go.Proofs.Ytaihajmdngoeiaa.F
open Go.RowKit Go.Proofs.YtaihajmdngoeiaaW.PrintWords Go.Proofs.YtaihajmdngoeiaaW.PrintLast Go.Proofs.YtaihajmdngoeiaaW.PrintMore
attribute [local go_sem] max2_int min2_int max_two min_two max_three min_three max_four min_four   -- for this text's walks alone
set_option linter.unusedVariables false
set_option linter.unusedSimpArgs false

/-! ### monikerref1_List: function 43 -/
mutual
def monikerref1_List.l0 : Nat → List (S61) → Int → List (S42) → Int → Bool → ByteArray → Int → Option ((List (S42)))
  | 0, _, _, _, _, _, _, _ => none
  | k + 1, x0, x1, x5, x6, x7, x8, x9 => if x9 ≤ (x0.length : Int) then (if x9 < (x0.length : Int) then (if 0 ≤ x9 then (if ((rd_T61 x0 x9).f0 = true) then (monikerref1_List.j1 k x0 x1 x5 x6 x7 x8 x9 ((rd_T61 x0 x9).f1)) else (if x8.size + ((rd_T61 x0 x9).f3).size ≤ 9223372036854775807 then (monikerref1_List.l0 k x0 x1 x5 x6 true (x8 ++ ((rd_T61 x0 x9).f3)) (wrap64 (x9 + 1))) else (none))) else (none)) else (monikerref1_List.j1 k x0 x1 x5 x6 x7 x8 x9 x1)) else (some x5)
def monikerref1_List.j1 : Nat → List (S61) → Int → List (S42) → Int → Bool → ByteArray → Int → Int → Option ((List (S42)))
  | 0, _, _, _, _, _, _, _, _ => none
  | k + 1, x0, x1, x5, x6, x7, x8, x9, x10 => if x7 = true then (monikerref1_List.j2 k x0 x1 x5 x6 x8 x9 x10 true) else (monikerref1_List.j2 k x0 x1 x5 x6 x8 x9 x10 (decide (x10 > x6)))
def monikerref1_List.j2 : Nat → List (S61) → Int → List (S42) → Int → ByteArray → Int → Int → Bool → Option ((List (S42)))
  | 0, _, _, _, _, _, _, _, _ => none
  | k + 1, x0, x1, x5, x6, x8, x9, x10, x45 => if x45 = true then (if x5.length < 4398046511104 then ((some (x5 ++ [(⟨x6, x10, x8⟩ : S42)] : List (S42))).bind fun y429 => (if x9 < (x0.length : Int) then (if 0 ≤ x9 then (monikerref1_List.l0 k x0 x1 y429 ((rd_T61 x0 x9).f2) false (⟨#[]⟩ : ByteArray) (wrap64 (x9 + 1))) else (none)) else (monikerref1_List.l0 k x0 x1 y429 x6 false (⟨#[]⟩ : ByteArray) (wrap64 (x9 + 1))))) else (none)) else (if x9 < (x0.length : Int) then (if 0 ≤ x9 then (monikerref1_List.l0 k x0 x1 x5 ((rd_T61 x0 x9).f2) false (⟨#[]⟩ : ByteArray) (wrap64 (x9 + 1))) else (none)) else (monikerref1_List.l0 k x0 x1 x5 x6 false (⟨#[]⟩ : ByteArray) (wrap64 (x9 + 1))))
end
def monikerref1_List.f (k : Nat) (l0 : List (S61)) (a1 : Int) : Option ((List (S42))) := monikerref1_List.l0 k l0 a1 ([] : List (S42)) 0 false (⟨#[]⟩ : ByteArray) 0
set_option maxHeartbeats 8000000 in
set_option maxRecDepth 100000 in
theorem monikerref1_List.calls (k : Nat) (A0 : Option Addr) (c0 : Nat) (l0 : List (S61)) (a1 : Int) (r : List (S42)) (w : World) (hr0 : Kd.C k61 w A0 l0.length l0) (hc0 : l0.length ≤ c0) (h : monikerref1_List.f k l0 a1 = some r) :
    Calls Try.prog 43 #[.slice A0 l0.length c0, .int .i64 a1] w fun e w' => ∃ v0_ : Value, e = .returned (v0_) ∧ Kd.R k42 42 w' w.heap.size (fun _ => True) v0_ r ∧ Below w.heap.size w w' := by
  have hu42 := Try.underlying42
  have HR0 := Aside0.mk hr0
  have HC0 := Aside0.mk hc0
  clear hr0 hc0
  have HB := Aside0.mk (Below.refl w.heap.size w)
  have H : (monikerref1_List.l0 k l0 a1 ([] : List (S42)) 0 false (⟨#[]⟩ : ByteArray) 0) = some r := h
  clear h
  have H' := Aside0.mk H
  clear H
  go_enter Try.func43, Try.ntmps43
  go_wp2
  go_loopg [5, 6, 7, 8, 9] k (fun kq v5 v6 v7 v8 v9 w' => ∃ (x5_1 : List (S42)) (x6_1 : Int) (x7_1 : Bool) (x8_1 : ByteArray) (x9_1 : Int), v6 = .int .i64 x6_1 ∧ v7 = .bool x7_1 ∧ v8 = .string x8_1 ∧ v9 = .int .i64 x9_1 ∧ Aside0 (monikerref1_List.l0 kq l0 a1 x5_1 x6_1 x7_1 x8_1 x9_1 = some r) ∧ Aside0 (kq ≤ k) ∧ Aside0 (Kd.R k42 42 w' w.heap.size (fun _ => True) v5 x5_1) ∧ Aside0 (Below w.heap.size w w'))
  case atStart => exact ⟨(([] : List (S42))), (0), (false), ((⟨#[]⟩ : ByteArray)), (0), (by first | rfl | (simp; done) | (simp [*]; done)), (by first | rfl | (simp; done) | (simp [*]; done)), (by first | rfl | (simp; done) | (simp [*]; done)), (by first | rfl | (simp; done) | (simp [*]; done)), H', ⟨Nat.le_refl _⟩, ⟨by first | exact Kd.R_nil _ _ _ _ _ | exact Kd.N_nil _ _ _ _ _ | exact Kd.V_nil _ _ _ _ _ | exact Kd.Q_nil _ _ _ _ _ | exact Kd.S_nil _ _ _ _ _⟩, ⟨by repeat (first | (with_reducible first | exact HB.out | apply below_alloc | apply pw_below_drewN | apply below_drew1) | exact HB.out)⟩⟩
  case round =>
    clear H'
    try clear p2
    obtain ⟨x5_1, x6_1, x7_1, x8_1, x9_1, rfl, rfl, rfl, rfl, HA, HK1, HO_5, HB⟩ := hrel
    cases gk with
    | zero => exact absurd HA.out (by simp [monikerref1_List.l0])
    | succ k1 =>
      have H := HA.out
      clear HA
      simp only [monikerref1_List.l0] at H
      by_cases c3 : x9_1 ≤ (l0.length : Int)
      · rw [if_pos c3] at H
        have c3b0 : decide (x9_1 ≤ (l0.length : Int)) = true := decide_eq_true c3
        clear c3
        have HC4 := Aside0.mk H
        clear H
        go_upto_if 21 with (fail)
        go_cut [7, 8, 10] (fun v7 v8 v10 wc => ∃ (kq : Nat) (x7_3 : Bool) (x8_3 : ByteArray) (x10_3 : Int), v7 = .bool x7_3 ∧ v8 = .string x8_3 ∧ v10 = .int .i64 x10_3 ∧ Aside0 (monikerref1_List.j1 kq l0 a1 x5_1 x6_1 x7_3 x8_3 x9_1 x10_3 = some r) ∧ Aside0 (kq ≤ k1) ∧ Aside0 (Kd.R k42 42 wc w.heap.size (fun _ => True) u5 x5_1) ∧ Aside0 (Below w.heap.size w wc))
        case first =>
          have H := HC4.out
          clear HC4
          by_cases c5 : x9_1 < (l0.length : Int)
          · rw [if_pos c5] at H
            have c5b0 : decide (x9_1 < (l0.length : Int)) = true := decide_eq_true c5
            clear c5
            (first | rw [c5b0] | (simp only [i64_w, i32_w]; rw [c5b0]) | skip)
            by_cases c6 : 0 ≤ x9_1
            · rw [if_pos c6] at H
              have c6b0 : decide (0 ≤ x9_1) = true := decide_eq_true c6
              clear c6
              obtain ⟨bq7, hbq7⟩ : ∃ b_ : Bool, b_ = ((rd_T61 l0 x9_1).f0) := ⟨_, rfl⟩
              replace H : (if (bq7 = true) then (monikerref1_List.j1 k1 l0 a1 x5_1 x6_1 x7_1 x8_1 x9_1 ((rd_T61 l0 x9_1).f1)) else (if x8_1.size + ((rd_T61 l0 x9_1).f3).size ≤ 9223372036854775807 then (monikerref1_List.l0 k1 l0 a1 x5_1 x6_1 true (x8_1 ++ ((rd_T61 l0 x9_1).f3)) (wrap64 (x9_1 + 1))) else (none))) = some r := by rw [← hbq7] at H; exact H
              have Nbq7 := Aside0.mk hbq7
              clear hbq7
              by_cases c8 : (bq7 = true)
              · subst c8
                have H1 : (monikerref1_List.j1 k1 l0 a1 x5_1 x6_1 x7_1 x8_1 x9_1 ((rd_T61 l0 x9_1).f1)) = some r := by rw [if_pos rfl] at H; exact H
                clear H
                have H := H1
                clear H1
                have H' := Aside0.mk H
                clear H
                have p426 : 0 ≤ (x9_1 : Int) := of_decide_eq_true (by first | (with_reducible assumption) | assumption)
                have q426 : x9_1 < (l0.length : Int) := of_decide_eq_true (by first | (with_reducible assumption) | assumption)
                obtain ⟨ad426, e426, hx426_0, hx426_1, hx426_2, hx426_3⟩ := at_T61 HR0.out x9_1 p426 q426
                (try rw [← Nbq7.out] at hx426_0)
                cases e426
                replace hx426_0 := (HB.out.cell (World.block_lt_of_cell? w _ hx426_0)).trans hx426_0
                replace hx426_1 := (HB.out.cell (World.block_lt_of_cell? w _ hx426_1)).trans hx426_1
                replace hx426_2 := (HB.out.cell (World.block_lt_of_cell? w _ hx426_2)).trans hx426_2
                replace hx426_3 := (HB.out.cell (World.block_lt_of_cell? w _ hx426_3)).trans hx426_3
                replace p426 := eq_true p426
                replace q426 := eq_true q426
                have p427 : 0 ≤ (x9_1 : Int) := of_decide_eq_true (by first | (with_reducible assumption) | assumption)
                have q427 : x9_1 < (l0.length : Int) := of_decide_eq_true (by first | (with_reducible assumption) | assumption)
                obtain ⟨ad427, e427, hx427_0, hx427_1, hx427_2, hx427_3⟩ := at_T61 HR0.out x9_1 p427 q427
                (try rw [← Nbq7.out] at hx427_0)
                obtain rfl : ad426 = ad427 := (by injection e427)
                replace hx427_0 := (HB.out.cell (World.block_lt_of_cell? w _ hx427_0)).trans hx427_0
                replace hx427_1 := (HB.out.cell (World.block_lt_of_cell? w _ hx427_1)).trans hx427_1
                replace hx427_2 := (HB.out.cell (World.block_lt_of_cell? w _ hx427_2)).trans hx427_2
                replace hx427_3 := (HB.out.cell (World.block_lt_of_cell? w _ hx427_3)).trans hx427_3
                replace p427 := eq_true p427
                replace q427 := eq_true q427
                go_wp2
                go_meet
                case rel => exact ⟨_, (x7_1), (x8_1), ((rd_T61 l0 x9_1).f1), (by first | rfl | (simp; done) | (simp [*]; done)), (by first | rfl | (simp; done) | (simp [*]; done)), (by first | rfl | (simp; done) | (simp [*]; done)), H', ⟨by have := HK1.out; first | omega | exact Nat.le_refl _⟩, ⟨by (with_reducible repeat (first | apply Kd.R_alloc | apply Kd.R_drewN | apply Kd.R_drew)); exact HO_5.out⟩, ⟨by repeat (first | (with_reducible first | exact HB.out | apply below_alloc | apply pw_below_drewN | apply below_drew1) | exact HB.out)⟩⟩
              · replace c8 := Bool.eq_false_iff.mpr c8
                subst c8
                have H1 : (if x8_1.size + ((rd_T61 l0 x9_1).f3).size ≤ 9223372036854775807 then (monikerref1_List.l0 k1 l0 a1 x5_1 x6_1 true (x8_1 ++ ((rd_T61 l0 x9_1).f3)) (wrap64 (x9_1 + 1))) else (none)) = some r := by rw [if_neg (show ¬ (false = true) by decide)] at H; exact H
                clear H
                have H := H1
                clear H1
                by_cases c9 : x8_1.size + ((rd_T61 l0 x9_1).f3).size ≤ 9223372036854775807
                · rw [if_pos c9] at H
                  have c9b0 := eq_true c9
                  have c9b1 : decide (x8_1.size + ((rd_T61 l0 x9_1).f3).size ≤ 9223372036854775807) = true := decide_eq_true c9
                  try have c9b2 : (9223372036854775807 < x8_1.size + ((rd_T61 l0 x9_1).f3).size) = False := eq_false (Nat.not_lt.2 c9)
                  have H' := Aside0.mk H
                  clear H
                  have p426 : 0 ≤ (x9_1 : Int) := of_decide_eq_true (by first | (with_reducible assumption) | assumption)
                  have q426 : x9_1 < (l0.length : Int) := of_decide_eq_true (by first | (with_reducible assumption) | assumption)
                  obtain ⟨ad426, e426, hx426_0, hx426_1, hx426_2, hx426_3⟩ := at_T61 HR0.out x9_1 p426 q426
                  (try rw [← Nbq7.out] at hx426_0)
                  cases e426
                  replace hx426_0 := (HB.out.cell (World.block_lt_of_cell? w _ hx426_0)).trans hx426_0
                  replace hx426_1 := (HB.out.cell (World.block_lt_of_cell? w _ hx426_1)).trans hx426_1
                  replace hx426_2 := (HB.out.cell (World.block_lt_of_cell? w _ hx426_2)).trans hx426_2
                  replace hx426_3 := (HB.out.cell (World.block_lt_of_cell? w _ hx426_3)).trans hx426_3
                  replace p426 := eq_true p426
                  replace q426 := eq_true q426
                  have p428 : 0 ≤ (x9_1 : Int) := of_decide_eq_true (by first | (with_reducible assumption) | assumption)
                  have q428 : x9_1 < (l0.length : Int) := of_decide_eq_true (by first | (with_reducible assumption) | assumption)
                  obtain ⟨ad428, e428, hx428_0, hx428_1, hx428_2, hx428_3⟩ := at_T61 HR0.out x9_1 p428 q428
                  (try rw [← Nbq7.out] at hx428_0)
                  obtain rfl : ad426 = ad428 := (by injection e428)
                  replace hx428_0 := (HB.out.cell (World.block_lt_of_cell? w _ hx428_0)).trans hx428_0
                  replace hx428_1 := (HB.out.cell (World.block_lt_of_cell? w _ hx428_1)).trans hx428_1
                  replace hx428_2 := (HB.out.cell (World.block_lt_of_cell? w _ hx428_2)).trans hx428_2
                  replace hx428_3 := (HB.out.cell (World.block_lt_of_cell? w _ hx428_3)).trans hx428_3
                  replace p428 := eq_true p428
                  replace q428 := eq_true q428
                  go_wp2
                  go_roundg k1
                  case measure => have := HK1.out; omega
                  case rel => exact ⟨(x5_1), (x6_1), (true), (x8_1 ++ ((rd_T61 l0 x9_1).f3)), (wrap64 (x9_1 + 1)), (by first | rfl | (simp; done) | (simp [*]; done)), (by first | rfl | (simp; done) | (simp [*]; done)), (by first | rfl | (simp; done) | (simp [*]; done)), (by first | rfl | (simp; done) | (simp [*]; done)), H', ⟨by have := HK1.out; omega⟩, ⟨by (with_reducible repeat (first | apply Kd.R_alloc | apply Kd.R_drewN | apply Kd.R_drew)); exact HO_5.out⟩, ⟨by repeat (first | (with_reducible first | exact HB.out | apply below_alloc | apply pw_below_drewN | apply below_drew1) | exact HB.out)⟩⟩
                · rw [if_neg c9] at H
                  exact absurd H (by simp)
            · rw [if_neg c6] at H
              exact absurd H (by simp)
          · rw [if_neg c5] at H
            have c5b0 : decide (x9_1 < (l0.length : Int)) = false := decide_eq_false c5
            clear c5
            (first | rw [c5b0] | (simp only [i64_w, i32_w]; rw [c5b0]) | skip)
            have H' := Aside0.mk H
            clear H
            go_wp2
            go_meet
            case rel => exact ⟨_, (x7_1), (x8_1), (a1), (by first | rfl | (simp; done) | (simp [*]; done)), (by first | rfl | (simp; done) | (simp [*]; done)), (by first | rfl | (simp; done) | (simp [*]; done)), H', ⟨by have := HK1.out; first | omega | exact Nat.le_refl _⟩, ⟨by (with_reducible repeat (first | apply Kd.R_alloc | apply Kd.R_drewN | apply Kd.R_drew)); exact HO_5.out⟩, ⟨by repeat (first | (with_reducible first | exact HB.out | apply below_alloc | apply pw_below_drewN | apply below_drew1) | exact HB.out)⟩⟩
        case rest =>
          clear HC4
          try clear p2
          try clear c3
          try clear c3b0
          try clear c4
          try clear p4
          try clear q4
          try clear hx4
          try clear c5
          try clear c5b0
          try clear c6
          try clear c6b0
          try clear p6
          try clear q7
          try clear c8
          try clear c9
          try clear c9b0
          try clear c9b1
          try clear c9b2
          try clear hx426_0
          try clear hx426_1
          try clear hx426_2
          try clear hx426_3
          try clear hx427_0
          try clear hx427_1
          try clear hx427_2
          try clear hx427_3
          try clear hx428_0
          try clear hx428_1
          try clear hx428_2
          try clear hx428_3
          try clear p2
          try clear p426
          try clear p427
          try clear p428
          try clear q426
          try clear q427
          try clear q428
          obtain ⟨kq, x7_3, x8_3, x10_3, rfl, rfl, rfl, HA, HJ3, HO_5, HB⟩ := hcut
          cases kq with
          | zero => exact absurd HA.out (by simp [monikerref1_List.j1])
          | succ kj3 =>
            have H := HA.out
            clear HA
            simp only [monikerref1_List.j1] at H
            have HC10 := Aside0.mk H
            clear H
            go_upto_region 14 with (fail)
            go_cut [45] (fun v45 wc => ∃ (kq : Nat) (x45_9 : Bool), v45 = .bool x45_9 ∧ Aside0 (monikerref1_List.j2 kq l0 a1 x5_1 x6_1 x8_3 x9_1 x10_3 x45_9 = some r) ∧ Aside0 (kq ≤ kj3) ∧ Aside0 (Kd.R k42 42 wc w.heap.size (fun _ => True) u5 x5_1) ∧ Aside0 (Below w.heap.size w wc))
            case first =>
              have H := HC10.out
              clear HC10
              by_cases c11 : x7_3 = true
              · subst c11
                have H1 : (monikerref1_List.j2 kj3 l0 a1 x5_1 x6_1 x8_3 x9_1 x10_3 true) = some r := by rw [if_pos rfl] at H; exact H
                clear H
                have H := H1
                clear H1
                have H' := Aside0.mk H
                clear H
                go_wp2
                go_meet
                case rel => exact ⟨_, (true), (by first | rfl | (simp; done) | (simp [*]; done)), H', ⟨by have := HK1.out; have := HJ3.out; first | omega | exact Nat.le_refl _⟩, ⟨by (with_reducible repeat (first | apply Kd.R_alloc | apply Kd.R_drewN | apply Kd.R_drew)); exact HO_5.out⟩, ⟨by repeat (first | (with_reducible first | exact HB.out | apply below_alloc | apply pw_below_drewN | apply below_drew1) | exact HB.out)⟩⟩
              · replace c11 := Bool.eq_false_iff.mpr c11
                subst c11
                have H1 : (monikerref1_List.j2 kj3 l0 a1 x5_1 x6_1 x8_3 x9_1 x10_3 (decide (x10_3 > x6_1))) = some r := by rw [if_neg (show ¬ (false = true) by decide)] at H; exact H
                clear H
                have H := H1
                clear H1
                have H' := Aside0.mk H
                clear H
                go_wp2
                go_meet
                case rel => exact ⟨_, (decide (x10_3 > x6_1)), (by first | rfl | (simp; done) | (simp [*]; done)), H', ⟨by have := HK1.out; have := HJ3.out; first | omega | exact Nat.le_refl _⟩, ⟨by (with_reducible repeat (first | apply Kd.R_alloc | apply Kd.R_drewN | apply Kd.R_drew)); exact HO_5.out⟩, ⟨by repeat (first | (with_reducible first | exact HB.out | apply below_alloc | apply pw_below_drewN | apply below_drew1) | exact HB.out)⟩⟩
            case rest =>
              clear HC10
              try clear c1
              try clear p2
              try clear c3
              try clear c3b0
              try clear c4
              try clear p4
              try clear q4
              try clear hx4
              try clear c5
              try clear c5b0
              try clear c6
              try clear c6b0
              try clear p6
              try clear q7
              try clear c8
              try clear c9
              try clear c9b0
              try clear c9b1
              try clear c9b2
              try clear c11
              try clear hx426_0
              try clear hx426_1
              try clear hx426_2
              try clear hx426_3
              try clear hx427_0
              try clear hx427_1
              try clear hx427_2
              try clear hx427_3
              try clear hx428_0
              try clear hx428_1
              try clear hx428_2
              try clear hx428_3
              try clear p2
              try clear p4
              try clear p426
              try clear p427
              try clear p428
              try clear p6
              try clear q4
              try clear q426
              try clear q427
              try clear q428
              try clear q7
              obtain ⟨kq, x45_9, rfl, HA, HJ9, HO_5, HB⟩ := hcut
              cases kq with
              | zero => exact absurd HA.out (by simp [monikerref1_List.j2])
              | succ kj9 =>
                have H := HA.out
                clear HA
                simp only [monikerref1_List.j2] at H
                by_cases c12 : x45_9 = true
                · subst c12
                  have H1 : (if x5_1.length < 4398046511104 then ((some (x5_1 ++ [(⟨x6_1, x10_3, x8_3⟩ : S42)] : List (S42))).bind fun y429 => (if x9_1 < (l0.length : Int) then (if 0 ≤ x9_1 then (monikerref1_List.l0 kj9 l0 a1 y429 ((rd_T61 l0 x9_1).f2) false (⟨#[]⟩ : ByteArray) (wrap64 (x9_1 + 1))) else (none)) else (monikerref1_List.l0 kj9 l0 a1 y429 x6_1 false (⟨#[]⟩ : ByteArray) (wrap64 (x9_1 + 1))))) else (none)) = some r := by rw [if_pos rfl] at H; exact H
                  clear H
                  have H := H1
                  clear H1
                  by_cases c13 : x5_1.length < 4398046511104
                  · rw [if_pos c13] at H
                    have LMc13 := Aside0.mk c13
                    clear c13
                    obtain ⟨y429, hy429⟩ : ∃ y_ : List (S42), y_ = (x5_1 ++ [(⟨x6_1, x10_3, x8_3⟩ : S42)]) := ⟨_, rfl⟩
                    replace H : (if x9_1 < (l0.length : Int) then (if 0 ≤ x9_1 then (monikerref1_List.l0 kj9 l0 a1 y429 ((rd_T61 l0 x9_1).f2) false (⟨#[]⟩ : ByteArray) (wrap64 (x9_1 + 1))) else (none)) else (monikerref1_List.l0 kj9 l0 a1 y429 x6_1 false (⟨#[]⟩ : ByteArray) (wrap64 (x9_1 + 1)))) = some r := by first | (rw [hy429]; with_reducible exact H) | (have H2_ := (Option.bind_some _ _).symm.trans H; rw [hy429]; with_reducible exact H2_) | (have H2_ := (Option.bind_some _ _).symm.trans H; with_reducible exact H2_) | with_reducible exact H | (rw [hy429]; exact H) | exact H
                    have Ny429 := Aside0.mk hy429
                    clear hy429
                    by_cases c14 : x9_1 < (l0.length : Int)
                    · rw [if_pos c14] at H
                      have c14b0 : decide (x9_1 < (l0.length : Int)) = true := decide_eq_true c14
                      clear c14
                      by_cases c15 : 0 ≤ x9_1
                      · rw [if_pos c15] at H
                        have c15b0 : decide (0 ≤ x9_1) = true := decide_eq_true c15
                        clear c15
                        have H' := Aside0.mk H
                        clear H
                        go_wp2_with (first | ((with_reducible refine gate_builtin (b := .append) (xs := #[.tmp 46, .tmp 51]) rfl ?_); at_builtin; refine Kd.R_append k42 (w0 := w) w.heap.size rfl (.tmp 46) (.tmp 51) 22 42 (.agg #[(.int .i64 0), (.int .i64 0), (.string ⟨#[]⟩)]) 32 rfl Try.underlying22 info42 rfl (by decide) (by omega) u5 x5_1 (⟨x6_1, x10_3, x8_3⟩ : S42) [.int .i64 x6_1, .int .i64 x10_3, .string x8_3] (fun _ => True) (fun _ => False) rfl rfl ?aP (fun _ hk => hk.elim) ?aF ?aO ?aB ?aS ?aL ?_; (case aP => exact k42_mkM _ _ _ (⟨x6_1, x10_3, x8_3⟩ : S42)); (case aB => exact (by repeat (first | (with_reducible first | exact HB.out | apply below_alloc | apply pw_below_drewN | apply below_drew1) | exact HB.out))); (case aF => exact (fun _ _ => trivial)); (case aO => exact (by (with_reducible repeat (first | apply Kd.R_alloc | apply Kd.R_drewN | apply Kd.R_drew)); exact HO_5.out)); (case aS => exact (below_size (by repeat (first | (with_reducible first | exact HB.out | apply below_alloc | apply pw_below_drewN | apply below_drew1) | exact HB.out)))); (case aL => have := LMc13.out; omega); intro v430 w16 ho hb hg hat; rw [← Ny429.out] at ho; have n0_ := Aside0.mk (hb); have n1_ := Aside0.mk (ho); clear HB; clear HO_5; have HB := n0_; have HO431 := n1_; clear n0_ n1_; clear ho hb hg hat; have p432 : 0 ≤ (x9_1 : Int) := of_decide_eq_true (by first | (with_reducible assumption) | assumption); have q432 : x9_1 < (l0.length : Int) := of_decide_eq_true (by first | (with_reducible assumption) | assumption); obtain ⟨ad432, e432, hx432_0, hx432_1, hx432_2, hx432_3⟩ := at_T61 HR0.out x9_1 p432 q432; cases e432; replace hx432_0 := (HB.out.cell (World.block_lt_of_cell? w _ hx432_0)).trans hx432_0; replace hx432_1 := (HB.out.cell (World.block_lt_of_cell? w _ hx432_1)).trans hx432_1; replace hx432_2 := (HB.out.cell (World.block_lt_of_cell? w _ hx432_2)).trans hx432_2; replace hx432_3 := (HB.out.cell (World.block_lt_of_cell? w _ hx432_3)).trans hx432_3; replace p432 := eq_true p432; replace q432 := eq_true q432))
                        go_roundg kj9
                        case measure => have := HK1.out; have := HJ3.out; have := HJ9.out; omega
                        case rel => exact ⟨(y429), ((rd_T61 l0 x9_1).f2), (false), ((⟨#[]⟩ : ByteArray)), (wrap64 (x9_1 + 1)), (by first | rfl | (simp; done) | (simp [*]; done)), (by first | rfl | (simp; done) | (simp [*]; done)), (by first | rfl | (simp; done) | (simp [*]; done)), (by first | rfl | (simp; done) | (simp [*]; done)), H', ⟨by have := HK1.out; have := HJ3.out; have := HJ9.out; omega⟩, ⟨by (with_reducible repeat (first | apply Kd.R_alloc | apply Kd.R_drewN | apply Kd.R_drew)); exact HO431.out⟩, ⟨by repeat (first | (with_reducible first | exact HB.out | apply below_alloc | apply pw_below_drewN | apply below_drew1) | exact HB.out)⟩⟩
                      · rw [if_neg c15] at H
                        exact absurd H (by simp)
                    · rw [if_neg c14] at H
                      have c14b0 : decide (x9_1 < (l0.length : Int)) = false := decide_eq_false c14
                      clear c14
                      have H' := Aside0.mk H
                      clear H
                      go_wp2_with (first | ((with_reducible refine gate_builtin (b := .append) (xs := #[.tmp 46, .tmp 51]) rfl ?_); at_builtin; refine Kd.R_append k42 (w0 := w) w.heap.size rfl (.tmp 46) (.tmp 51) 22 42 (.agg #[(.int .i64 0), (.int .i64 0), (.string ⟨#[]⟩)]) 32 rfl Try.underlying22 info42 rfl (by decide) (by omega) u5 x5_1 (⟨x6_1, x10_3, x8_3⟩ : S42) [.int .i64 x6_1, .int .i64 x10_3, .string x8_3] (fun _ => True) (fun _ => False) rfl rfl ?aP (fun _ hk => hk.elim) ?aF ?aO ?aB ?aS ?aL ?_; (case aP => exact k42_mkM _ _ _ (⟨x6_1, x10_3, x8_3⟩ : S42)); (case aB => exact (by repeat (first | (with_reducible first | exact HB.out | apply below_alloc | apply pw_below_drewN | apply below_drew1) | exact HB.out))); (case aF => exact (fun _ _ => trivial)); (case aO => exact (by (with_reducible repeat (first | apply Kd.R_alloc | apply Kd.R_drewN | apply Kd.R_drew)); exact HO_5.out)); (case aS => exact (below_size (by repeat (first | (with_reducible first | exact HB.out | apply below_alloc | apply pw_below_drewN | apply below_drew1) | exact HB.out)))); (case aL => have := LMc13.out; omega); intro v430 w17 ho hb hg hat; rw [← Ny429.out] at ho; have n0_ := Aside0.mk (hb); have n1_ := Aside0.mk (ho); clear HB; clear HO_5; have HB := n0_; have HO431 := n1_; clear n0_ n1_; clear ho hb hg hat))
                      go_roundg kj9
                      case measure => have := HK1.out; have := HJ3.out; have := HJ9.out; omega
                      case rel => exact ⟨(y429), (x6_1), (false), ((⟨#[]⟩ : ByteArray)), (wrap64 (x9_1 + 1)), (by first | rfl | (simp; done) | (simp [*]; done)), (by first | rfl | (simp; done) | (simp [*]; done)), (by first | rfl | (simp; done) | (simp [*]; done)), (by first | rfl | (simp; done) | (simp [*]; done)), H', ⟨by have := HK1.out; have := HJ3.out; have := HJ9.out; omega⟩, ⟨by (with_reducible repeat (first | apply Kd.R_alloc | apply Kd.R_drewN | apply Kd.R_drew)); exact HO431.out⟩, ⟨by repeat (first | (with_reducible first | exact HB.out | apply below_alloc | apply pw_below_drewN | apply below_drew1) | exact HB.out)⟩⟩
                  · rw [if_neg c13] at H
                    exact absurd H (by simp)
                · replace c12 := Bool.eq_false_iff.mpr c12
                  subst c12
                  have H1 : (if x9_1 < (l0.length : Int) then (if 0 ≤ x9_1 then (monikerref1_List.l0 kj9 l0 a1 x5_1 ((rd_T61 l0 x9_1).f2) false (⟨#[]⟩ : ByteArray) (wrap64 (x9_1 + 1))) else (none)) else (monikerref1_List.l0 kj9 l0 a1 x5_1 x6_1 false (⟨#[]⟩ : ByteArray) (wrap64 (x9_1 + 1)))) = some r := by rw [if_neg (show ¬ (false = true) by decide)] at H; exact H
                  clear H
                  have H := H1
                  clear H1
                  by_cases c18 : x9_1 < (l0.length : Int)
                  · rw [if_pos c18] at H
                    have c18b0 : decide (x9_1 < (l0.length : Int)) = true := decide_eq_true c18
                    clear c18
                    by_cases c19 : 0 ≤ x9_1
                    · rw [if_pos c19] at H
                      have c19b0 : decide (0 ≤ x9_1) = true := decide_eq_true c19
                      clear c19
                      have H' := Aside0.mk H
                      clear H
                      have p433 : 0 ≤ (x9_1 : Int) := of_decide_eq_true (by first | (with_reducible assumption) | assumption)
                      have q433 : x9_1 < (l0.length : Int) := of_decide_eq_true (by first | (with_reducible assumption) | assumption)
                      obtain ⟨ad433, e433, hx433_0, hx433_1, hx433_2, hx433_3⟩ := at_T61 HR0.out x9_1 p433 q433
                      cases e433
                      replace hx433_0 := (HB.out.cell (World.block_lt_of_cell? w _ hx433_0)).trans hx433_0
                      replace hx433_1 := (HB.out.cell (World.block_lt_of_cell? w _ hx433_1)).trans hx433_1
                      replace hx433_2 := (HB.out.cell (World.block_lt_of_cell? w _ hx433_2)).trans hx433_2
                      replace hx433_3 := (HB.out.cell (World.block_lt_of_cell? w _ hx433_3)).trans hx433_3
                      replace p433 := eq_true p433
                      replace q433 := eq_true q433
                      go_wp2
                      go_roundg kj9
                      case measure => have := HK1.out; have := HJ3.out; have := HJ9.out; omega
                      case rel => exact ⟨(x5_1), ((rd_T61 l0 x9_1).f2), (false), ((⟨#[]⟩ : ByteArray)), (wrap64 (x9_1 + 1)), (by first | rfl | (simp; done) | (simp [*]; done)), (by first | rfl | (simp; done) | (simp [*]; done)), (by first | rfl | (simp; done) | (simp [*]; done)), (by first | rfl | (simp; done) | (simp [*]; done)), H', ⟨by have := HK1.out; have := HJ3.out; have := HJ9.out; omega⟩, ⟨by (with_reducible repeat (first | apply Kd.R_alloc | apply Kd.R_drewN | apply Kd.R_drew)); exact HO_5.out⟩, ⟨by repeat (first | (with_reducible first | exact HB.out | apply below_alloc | apply pw_below_drewN | apply below_drew1) | exact HB.out)⟩⟩
                    · rw [if_neg c19] at H
                      exact absurd H (by simp)
                  · rw [if_neg c18] at H
                    have c18b0 : decide (x9_1 < (l0.length : Int)) = false := decide_eq_false c18
                    clear c18
                    have H' := Aside0.mk H
                    clear H
                    go_wp2
                    go_roundg kj9
                    case measure => have := HK1.out; have := HJ3.out; have := HJ9.out; omega
                    case rel => exact ⟨(x5_1), (x6_1), (false), ((⟨#[]⟩ : ByteArray)), (wrap64 (x9_1 + 1)), (by first | rfl | (simp; done) | (simp [*]; done)), (by first | rfl | (simp; done) | (simp [*]; done)), (by first | rfl | (simp; done) | (simp [*]; done)), (by first | rfl | (simp; done) | (simp [*]; done)), H', ⟨by have := HK1.out; have := HJ3.out; have := HJ9.out; omega⟩, ⟨by (with_reducible repeat (first | apply Kd.R_alloc | apply Kd.R_drewN | apply Kd.R_drew)); exact HO_5.out⟩, ⟨by repeat (first | (with_reducible first | exact HB.out | apply below_alloc | apply pw_below_drewN | apply below_drew1) | exact HB.out)⟩⟩
      · rw [if_neg c3] at H
        have c3b0 : decide (x9_1 ≤ (l0.length : Int)) = false := decide_eq_false c3
        clear c3
        obtain rfl := Option.some.inj H
        go_wp2
        go_ret
        exact ⟨_, by first | rfl | (simp [errW_none, errW_some] <;> rfl) | (simp [*, errW_none, errW_some] <;> rfl), by (with_reducible repeat (first | apply Kd.R_alloc | apply Kd.R_drewN | apply Kd.R_drew)); exact HO_5.out, by repeat (first | (with_reducible first | exact HB.out | apply below_alloc | apply pw_below_drewN | apply below_drew1) | exact HB.out)⟩

end Go.Proofs.Ytaihajmdngoeiaa.F

namespace Go.Proofs.Ytaihajmdngoeiaa.Q
open Go.RowKit Go.Proofs.YtaihajmdngoeiaaW.PrintWords Go.Proofs.YtaihajmdngoeiaaW.PrintLast Go.Proofs.YtaihajmdngoeiaaW.PrintMore
open Go.Proofs.Ytaihajmdngoeiaa.F
set_option linter.unusedVariables false
set_option linter.unusedSimpArgs false

def texts_ : List S61 → Nat
  | [] => 0
  | r :: l => r.f3.size + texts_ l
/-- The edits of a row of runs. -/
def lstR (n : Int) : Int → Bool → ByteArray → List S61 → List S42
  | last, op, tx, [] => if op = true ∨ last < n then [⟨last, n, tx⟩] else []
  | last, op, tx, r :: l => if r.f0 = true then (if op = true ∨ last < r.f1 then [⟨last, r.f1, tx⟩] else []) ++ lstR n r.f2 false ⟨#[]⟩ l else lstR n last true (tx ++ r.f3) l
theorem list_loop (l : List S61) (n : Int) (hlen : l.length ≤ 1000000000000) (d : Nat) : ∀ (i : Nat) (last : Int) (op : Bool) (tx : ByteArray) (out : List S42), i ≤ l.length → l.length - i = d → tx.size + texts_ (l.drop i) ≤ 9223372036854775807 → out.length + d + 1 ≤ 2000000000000 →
    Ev (fun k => monikerref1_List.l0 k l n out last op tx (i : Int)) (out ++ lstR n last op tx (l.drop i)) := by
  induction d with
  | zero =>
    intro i last op tx out h1 h2 ht ho
    have A1 : ((i : Int) ≤ (l.length : Int)) = True := eq_true (by omega)
    have A2 : ((i : Int) < (l.length : Int)) = False := eq_false (by omega)
    have A3 : (out.length < 4398046511104) = True := eq_true (by omega)
    have hw : wrap64 ((i : Int) + 1) = (i : Int) + 1 := by rw [w64] <;> omega
    have A4 : ((i : Int) + 1 ≤ (l.length : Int)) = False := eq_false (by omega)
    rw [List.drop_eq_nil_of_le (by omega)]
    refine ⟨4, fun k hk => ?_⟩
    obtain ⟨k, rfl⟩ : ∃ m, k = m + 4 := ⟨k - 4, by omega⟩
    simp only [monikerref1_List.l0, monikerref1_List.j1, monikerref1_List.j2, A1, A2, A3, A4, if_true, if_false, hw, Option.bind_some, lstR]
    cases op with
    | true => simp
    | false =>
      by_cases c : last < n
      · have c2 : decide (n > last) = true := decide_eq_true c
        simp [c2, c]
      · have c2 : decide (n > last) = false := decide_eq_false c
        simp [c2, c]
  | succ d ih =>
    intro i last op tx out h1 h2 ht ho
    have hi : i < l.length := by omega
    have A1 : ((i : Int) ≤ (l.length : Int)) = True := eq_true (by omega)
    have A2 : ((i : Int) < (l.length : Int)) = True := eq_true (by omega)
    have A5 : ((0 : Int) ≤ (i : Int)) = True := eq_true (by omega)
    have A3 : (out.length < 4398046511104) = True := eq_true (by omega)
    have hw : wrap64 ((i : Int) + 1) = ((i + 1 : Nat) : Int) := by rw [w64] <;> omega
    rw [List.drop_eq_getElem_cons hi] at ht ⊢
    simp only [texts_] at ht
    have hrd := rd61_at l i hi
    have IH := fun last op tx out => ih (i + 1) last op tx out (by omega) (by omega)
    clear ih
    generalize l[i] = r at hrd ht ⊢
    simp only [lstR]
    by_cases e : r.f0 = true
    · rw [if_pos e]
      by_cases c : op = true ∨ last < r.f1
      · rw [if_pos c]
        obtain ⟨K, hK⟩ := IH r.f2 false ⟨#[]⟩ (out ++ [⟨last, r.f1, tx⟩]) (by show (0 : Nat) + _ ≤ _; omega) (by simp; omega)
        refine ⟨K + 3, fun k hk => ?_⟩
        obtain ⟨k, rfl⟩ : ∃ m, k = m + 3 := ⟨k - 3, by omega⟩
        have g := hK k (by omega)
        simp only at g
        simp only [monikerref1_List.l0, monikerref1_List.j1, A1, A2, A5, if_true, hrd, e]
        have hj : (if op = true then monikerref1_List.j2 (k + 1) l n out last tx (i : Int) r.f1 true else monikerref1_List.j2 (k + 1) l n out last tx (i : Int) r.f1 (decide (r.f1 > last))) = monikerref1_List.j2 (k + 1) l n out last tx (i : Int) r.f1 true := by
          by_cases ho : op = true
          · rw [if_pos ho]
          · rw [if_neg ho, decide_eq_true (show r.f1 > last from c.resolve_left ho)]
        rw [hj]
        simp only [monikerref1_List.j2, if_true, A2, A3, A5, Option.bind_some, hrd, hw]
        rw [g]
        simp
      · rw [if_neg c]
        obtain ⟨K, hK⟩ := IH r.f2 false ⟨#[]⟩ out (by show (0 : Nat) + _ ≤ _; omega) (by omega)
        refine ⟨K + 3, fun k hk => ?_⟩
        obtain ⟨k, rfl⟩ : ∃ m, k = m + 3 := ⟨k - 3, by omega⟩
        have g := hK k (by omega)
        simp only at g
        simp only [monikerref1_List.l0, monikerref1_List.j1, A1, A2, A5, if_true, hrd, e]
        rw [if_neg (fun h => c (Or.inl h)), decide_eq_false (show ¬ r.f1 > last from fun h => c (Or.inr h))]
        simp only [monikerref1_List.j2, Bool.false_eq_true, if_false, A2, A5, if_true, hrd, hw]
        rw [g]
        simp
    · rw [if_neg e]
      obtain ⟨K, hK⟩ := IH last true (tx ++ r.f3) out (by rw [ByteArray.size_append]; omega) (by omega)
      refine ⟨K + 1, fun k hk => ?_⟩
      obtain ⟨k, rfl⟩ : ∃ m, k = m + 1 := ⟨k - 1, by omega⟩
      have g := hK k (by omega)
      simp only at g
      have A6 : (tx.size + r.f3.size ≤ 9223372036854775807) = True := eq_true (by omega)
      simp only [monikerref1_List.l0, A1, A2, A5, if_true, hrd, if_neg e, A6, hw]
      exact g
theorem List_is (l : List S61) (n : Int) (hlen : l.length ≤ 1000000000000) (ht : texts_ l ≤ 9223372036854775807) : Ev (fun k => monikerref1_List.f k l n) (lstR n 0 false ⟨#[]⟩ l) := by
  unfold monikerref1_List.f
  have := list_loop l n hlen l.length 0 0 false ⟨#[]⟩ [] (by omega) (by omega) (by show (0 : Nat) + _ ≤ _; simpa using ht) (by simp; omega)
  simpa using this
/-- The runs' list is the list of their bytes. -/
theorem lstR_cells (n : Int) : ∀ (l : List S61) (last : Int) (op : Bool) (g : Bool) (tx : ByteArray), (∀ r ∈ l, Rn r) → (∀ r ∈ l, r.f0 = true → r.f2 ≤ n) →
    lstR n last (op || g) tx l = (lstC n last op tx.data.toList (cells g (rAts l)).1 (cells g (rAts l)).2).map toS
  | [], last, op, g, tx, _, _ => by
    simp only [lstR, rAts, List.flatMap_nil, cells, lstC]
    cases op <;> cases g <;> simp [toS] <;> split <;> simp [toS]
  | r :: l, last, op, g, tx, hR, hN => by
    have hr := hR r List.mem_cons_self
    have hR' := fun z hz => hR z (List.mem_cons_of_mem r hz)
    have hN' := fun z hz => hN z (List.mem_cons_of_mem r hz)
    rw [rAts_cons]
    simp only [lstR]
    by_cases e : r.f0 = true
    · have hn := hN r List.mem_cons_self e
      have hlt : r.f1 < r.f2 := by unfold Rn at hr; rw [if_pos e] at hr; exact hr.1
      rw [if_pos e]
      have ih := lstR_cells n l r.f2 false false ⟨#[]⟩ hR' hN'
      have hrun : ∀ (d : Nat) (x : Int) (X : Rw), (r.f2 - x).toNat = d → x ≤ r.f2 → lstC n x false [] (oCs x r.f2 ++ X.1) X.2 = lstC n r.f2 false [] X.1 X.2 := by
        intro d
        induction d with
        | zero =>
          intro x X h1 h2
          have : oCs x r.f2 = [] := by unfold oCs; rw [h1]; rfl
          rw [this, show x = r.f2 by omega]
          rfl
        | succ d ihd =>
          intro x X h1 h2
          rw [oCs_cons x r.f2 (by omega)]
          simp only [List.cons_append, lstC]
          rw [if_neg (by simp), ihd (x + 1) X (by omega) (by omega)]
      have hat : rAt r = cAts (oCs r.f1 r.f2) := by unfold rAt; rw [if_pos e, oAt_cAts]
      rw [hat, oCs_cons r.f1 r.f2 hlt]
      have e2 : cAts ((false, By.old r.f1) :: oCs (r.f1 + 1) r.f2) ++ rAts l = .by (.old r.f1) :: (cAts (oCs (r.f1 + 1) r.f2) ++ rAts l) := by simp [cAts, cAt]
      rw [e2]
      simp only [cells, lstC]
      have e3 : cells false (cAts (oCs (r.f1 + 1) r.f2) ++ rAts l) = (oCs (r.f1 + 1) r.f2 ++ (cells false (rAts l)).1, (cells false (rAts l)).2) := by
        rw [cells_cAts]
        by_cases hz : r.f1 + 1 < r.f2
        · rw [oCs_cons _ _ hz]
          simp
        · have : oCs (r.f1 + 1) r.f2 = [] := by unfold oCs; rw [show (r.f2 - (r.f1 + 1)).toNat = 0 by omega]; rfl
          rw [this]
          rfl
      rw [e3]
      simp only
      rw [hrun _ (r.f1 + 1) (cells false (rAts l)) rfl (by omega)]
      have ih' : lstR n r.f2 false ⟨#[]⟩ l = (lstC n r.f2 false [] (cells false (rAts l)).1 (cells false (rAts l)).2).map toS := ih
      rw [ih']
      have hc : ((op || g) = true ∨ last < r.f1) ↔ (op = true ∨ g = true ∨ last < r.f1) := by cases op <;> cases g <;> simp
      by_cases c : (op || g) = true ∨ last < r.f1
      · rw [if_pos c, if_pos (hc.1 c)]
        rfl
      · rw [if_neg c, if_neg (fun h => c (hc.2 h))]
        rfl
    · rw [if_neg e]
      have hat : rAt r = .mark :: news r.f3.data.toList := by unfold rAt; rw [if_neg e]
      rw [hat]
      simp only [List.cons_append, cells]
      rw [cells_news]
      simp only
      rw [lst_news]
      have ih := lstR_cells n l last (op || !r.f3.data.toList.isEmpty) (true && r.f3.data.toList.isEmpty) (tx ++ r.f3) hR' hN'
      have hb : ((op || !r.f3.data.toList.isEmpty) || (true && r.f3.data.toList.isEmpty)) = true := by cases r.f3.data.toList.isEmpty <;> simp
      rw [hb] at ih
      rw [ih, ByteArray.data_append, Array.toList_append]
end Go.Proofs.Ytaihajmdngoeiaa.Q

-- A text of this session's own program (wip/myprint.sh over a changed print tool): functions and their walks
namespace Go.Proofs.Ytaihajmdngoeiaa.F
open Go.RowKit Go.Proofs.YtaihajmdngoeiaaW.PrintWords Go.Proofs.YtaihajmdngoeiaaW.PrintLast Go.Proofs.YtaihajmdngoeiaaW.PrintMore
attribute [local go_sem] max2_int min2_int max_two min_two max_three min_three max_four min_four   -- for this text's walks alone
set_option linter.unusedVariables false
set_option linter.unusedSimpArgs false

/-! ### monikerref1_Left: function 42 -/
def monikerref1_Left.l0 : Nat → Int → List (S42) → Int → Option (Int)
  | 0, _, _, _ => none
  | k + 1, x0, x1, x5 => if x5 < (x1.length : Int) then (if 0 ≤ x5 then (monikerref1_Left.l0 k (wrap64 (x0 + (wrap64 ((((rd_T42 x1 x5).f2).size : Int) - (wrap64 (((rd_T42 x1 x5).f1) - ((rd_T42 x1 x5).f0))))))) x1 (wrap64 (x5 + 1))) else (none)) else (some x0)
def monikerref1_Left.f (k : Nat) (a0 : Int) (l1 : List (S42)) : Option (Int) := monikerref1_Left.l0 k a0 l1 0
set_option maxHeartbeats 8000000 in
set_option maxRecDepth 100000 in
theorem monikerref1_Left.calls (k : Nat) (a0 : Int) (A1 : Option Addr) (c1 : Nat) (l1 : List (S42)) (r : Int) (w : World) (hr1 : Kd.C k42 w A1 l1.length l1) (hc1 : l1.length ≤ c1) (h : monikerref1_Left.f k a0 l1 = some r) :
    Calls Try.prog 42 #[.int .i64 a0, .slice A1 l1.length c1] w fun e w' => e = .returned (.int .i64 r) ∧ Drawn0 w w' := by
  have HR1 := Aside0.mk hr1
  have HC1 := Aside0.mk hc1
  clear hr1 hc1
  have H : (monikerref1_Left.l0 k a0 l1 0) = some r := h
  clear h
  have H' := Aside0.mk H
  clear H
  go_enter Try.func42, Try.ntmps42
  go_wp2
  repeat (go_quiet (fail); try go_wp2)
  go_loopg [0, 5] k (fun kq v0 v5 w' => ∃ (x0_1 : Int) (x5_1 : Int), v0 = .int .i64 x0_1 ∧ v5 = .int .i64 x5_1 ∧ Aside0 (monikerref1_Left.l0 kq x0_1 l1 x5_1 = some r) ∧ Aside0 (kq ≤ k) ∧ Drawn0 w w')
  case atStart => exact ⟨(a0), (0), (by first | rfl | (simp; done) | (simp [*]; done)), (by first | rfl | (simp; done) | (simp [*]; done)), H', ⟨Nat.le_refl _⟩, by repeat (first | exact Drawn0.refl _ | apply Drawn0.step)⟩
  case round =>
    clear H'
    try clear c1
    try clear p2
    obtain ⟨x0_1, x5_1, rfl, rfl, HA, HK1, ⟨m1, rfl⟩⟩ := hrel
    cases gk with
    | zero => exact absurd HA.out (by simp [monikerref1_Left.l0])
    | succ k1 =>
      have H := HA.out
      clear HA
      simp only [monikerref1_Left.l0] at H
      by_cases c3 : x5_1 < (l1.length : Int)
      · rw [if_pos c3] at H
        have c3b0 : decide (x5_1 < (l1.length : Int)) = true := decide_eq_true c3
        clear c3
        by_cases c4 : 0 ≤ x5_1
        · rw [if_pos c4] at H
          have c4b0 : decide (0 ≤ x5_1) = true := decide_eq_true c4
          clear c4
          have H' := Aside0.mk H
          clear H
          have p423 : 0 ≤ (x5_1 : Int) := of_decide_eq_true (by first | (with_reducible assumption) | assumption)
          have q423 : x5_1 < (l1.length : Int) := of_decide_eq_true (by first | (with_reducible assumption) | assumption)
          obtain ⟨ad423, e423, hx423_0, hx423_1, hx423_2⟩ := at_T42 HR1.out x5_1 p423 q423
          cases e423
          replace p423 := eq_true p423
          replace q423 := eq_true q423
          have p424 : 0 ≤ (x5_1 : Int) := of_decide_eq_true (by first | (with_reducible assumption) | assumption)
          have q424 : x5_1 < (l1.length : Int) := of_decide_eq_true (by first | (with_reducible assumption) | assumption)
          obtain ⟨ad424, e424, hx424_0, hx424_1, hx424_2⟩ := at_T42 HR1.out x5_1 p424 q424
          obtain rfl : ad423 = ad424 := (by injection e424)
          replace p424 := eq_true p424
          replace q424 := eq_true q424
          have p425 : 0 ≤ (x5_1 : Int) := of_decide_eq_true (by first | (with_reducible assumption) | assumption)
          have q425 : x5_1 < (l1.length : Int) := of_decide_eq_true (by first | (with_reducible assumption) | assumption)
          obtain ⟨ad425, e425, hx425_0, hx425_1, hx425_2⟩ := at_T42 HR1.out x5_1 p425 q425
          obtain rfl : ad423 = ad425 := (by injection e425)
          replace p425 := eq_true p425
          replace q425 := eq_true q425
          go_wp2
          repeat (go_quiet (fail); try go_wp2)
          go_roundg k1
          case measure => have := HK1.out; omega
          case rel => exact ⟨(wrap64 (x0_1 + (wrap64 ((((rd_T42 l1 x5_1).f2).size : Int) - (wrap64 (((rd_T42 l1 x5_1).f1) - ((rd_T42 l1 x5_1).f0))))))), (wrap64 (x5_1 + 1)), (by first | rfl | (simp; done) | (simp [*]; done)), (by first | rfl | (simp; done) | (simp [*]; done)), H', ⟨by have := HK1.out; omega⟩, by repeat (first | exact Drawn0.refl _ | apply Drawn0.step)⟩
        · rw [if_neg c4] at H
          exact absurd H (by simp)
      · rw [if_neg c3] at H
        have c3b0 : decide (x5_1 < (l1.length : Int)) = false := decide_eq_false c3
        clear c3
        obtain rfl := Option.some.inj H
        go_wp2
        repeat (go_quiet (fail); try go_wp2)
        go_ret
        exact ⟨by first | rfl | (simp; done) | (simp [*]; done), by repeat (first | exact Drawn0.refl _ | apply Drawn0.step)⟩

end Go.Proofs.Ytaihajmdngoeiaa.F

-- A text of this session's own program (wip/myprint.sh over a changed print tool): functions and their walks
namespace Go.Proofs.Ytaihajmdngoeiaa.F
open Go.RowKit Go.Proofs.YtaihajmdngoeiaaW.PrintWords Go.Proofs.YtaihajmdngoeiaaW.PrintLast Go.Proofs.YtaihajmdngoeiaaW.PrintMore
attribute [local go_sem] max2_int min2_int max_two min_two max_three min_three max_four min_four   -- for this text's walks alone
set_option linter.unusedVariables false
set_option linter.unusedSimpArgs false

/-! ### monikerref1_Compose: function 31 -/
def monikerref1_Compose.f (k : Nat) (a0 : Int) (l1 : List (S42)) (l2 : List (S42)) : Option ((List (S42)) × Int) := (monikerref1_Valid.f k a0 l1).bind fun t434 => (if t434 = 0 then ((monikerref1_Left.f k a0 l1).bind fun t435 => ((monikerref1_valid.f k t435 l2).bind fun t436 => (if t436 = 0 then ((monikerref1_Whole.f a0).bind fun t437 => ((monikerref1_Done.f k t437 l1).bind fun t440 => ((monikerref1_Done.f k t440 l2).bind fun t443 => ((monikerref1_List.f k t443 a0).bind fun t446 => (if (t446.length : Int) > 65536 then (some (([] : List (S42)), 2)) else (some (t446, 0))))))) else (some (([] : List (S42)), t436))))) else (some (([] : List (S42)), t434)))
set_option maxHeartbeats 8000000 in
set_option maxRecDepth 100000 in
theorem monikerref1_Compose.calls (k : Nat) (a0 : Int) (A1 : Option Addr) (c1 : Nat) (l1 : List (S42)) (A2 : Option Addr) (c2 : Nat) (l2 : List (S42)) (r1 : List (S42)) (r2 : Int) (w : World) (hr1 : Kd.C k42 w A1 l1.length l1) (hc1 : l1.length ≤ c1) (hr2 : Kd.C k42 w A2 l2.length l2) (hc2 : l2.length ≤ c2) (h : monikerref1_Compose.f k a0 l1 l2 = some (r1, r2)) :
    Calls Try.prog 31 #[.int .i64 a0, .slice A1 l1.length c1, .slice A2 l2.length c2] w fun e w' => ∃ v0_ : Value, e = .returned (.tuple #[v0_, .int .i64 r2]) ∧ Kd.R k42 42 w' w.heap.size (fun _ => True) v0_ r1 ∧ Below w.heap.size w w' := by
  have HR1 := Aside0.mk hr1
  have HC1 := Aside0.mk hc1
  clear hr1 hc1
  have HR2 := Aside0.mk hr2
  have HC2 := Aside0.mk hc2
  clear hr2 hc2
  have HB := Aside0.mk (Below.refl w.heap.size w)
  have H : ((monikerref1_Valid.f k a0 l1).bind fun t434 => (if t434 = 0 then ((monikerref1_Left.f k a0 l1).bind fun t435 => ((monikerref1_valid.f k t435 l2).bind fun t436 => (if t436 = 0 then ((monikerref1_Whole.f a0).bind fun t437 => ((monikerref1_Done.f k t437 l1).bind fun t440 => ((monikerref1_Done.f k t440 l2).bind fun t443 => ((monikerref1_List.f k t443 a0).bind fun t446 => (if (t446.length : Int) > 65536 then (some (([] : List (S42)), 2)) else (some (t446, 0))))))) else (some (([] : List (S42)), t436))))) else (some (([] : List (S42)), t434)))) = some (r1, r2) := h
  clear h
  replace H := Option.bind_eq_some_iff.mp H
  obtain ⟨t434, A40, H⟩ := H
  replace H : (if t434 = 0 then ((monikerref1_Left.f k a0 l1).bind fun t435 => ((monikerref1_valid.f k t435 l2).bind fun t436 => (if t436 = 0 then ((monikerref1_Whole.f a0).bind fun t437 => ((monikerref1_Done.f k t437 l1).bind fun t440 => ((monikerref1_Done.f k t440 l2).bind fun t443 => ((monikerref1_List.f k t443 a0).bind fun t446 => (if (t446.length : Int) > 65536 then (some (([] : List (S42)), 2)) else (some (t446, 0))))))) else (some (([] : List (S42)), t436))))) else (some (([] : List (S42)), t434))) = some (r1, r2) := H
  have A4 := Aside0.mk A40
  clear A40
  by_cases c5 : t434 = 0
  · rw [if_pos c5] at H
    have c5b0 : (t434 == 0) = true := beq_iff_eq.mpr c5
    have c5b1 : (t434 != 0) = false := bne_eq_false_iff_eq.mpr c5
    clear c5
    replace H := Option.bind_eq_some_iff.mp H
    obtain ⟨t435, A60, H⟩ := H
    replace H : ((monikerref1_valid.f k t435 l2).bind fun t436 => (if t436 = 0 then ((monikerref1_Whole.f a0).bind fun t437 => ((monikerref1_Done.f k t437 l1).bind fun t440 => ((monikerref1_Done.f k t440 l2).bind fun t443 => ((monikerref1_List.f k t443 a0).bind fun t446 => (if (t446.length : Int) > 65536 then (some (([] : List (S42)), 2)) else (some (t446, 0))))))) else (some (([] : List (S42)), t436)))) = some (r1, r2) := H
    have A6 := Aside0.mk A60
    clear A60
    replace H := Option.bind_eq_some_iff.mp H
    obtain ⟨t436, A70, H⟩ := H
    replace H : (if t436 = 0 then ((monikerref1_Whole.f a0).bind fun t437 => ((monikerref1_Done.f k t437 l1).bind fun t440 => ((monikerref1_Done.f k t440 l2).bind fun t443 => ((monikerref1_List.f k t443 a0).bind fun t446 => (if (t446.length : Int) > 65536 then (some (([] : List (S42)), 2)) else (some (t446, 0))))))) else (some (([] : List (S42)), t436))) = some (r1, r2) := H
    have A7 := Aside0.mk A70
    clear A70
    by_cases c8 : t436 = 0
    · rw [if_pos c8] at H
      have c8b0 : (t436 == 0) = true := beq_iff_eq.mpr c8
      have c8b1 : (t436 != 0) = false := bne_eq_false_iff_eq.mpr c8
      clear c8
      replace H := Option.bind_eq_some_iff.mp H
      obtain ⟨t437, A90, H⟩ := H
      replace H : ((monikerref1_Done.f k t437 l1).bind fun t440 => ((monikerref1_Done.f k t440 l2).bind fun t443 => ((monikerref1_List.f k t443 a0).bind fun t446 => (if (t446.length : Int) > 65536 then (some (([] : List (S42)), 2)) else (some (t446, 0)))))) = some (r1, r2) := H
      have A9 := Aside0.mk A90
      clear A90
      replace H := Option.bind_eq_some_iff.mp H
      obtain ⟨t440, A100, H⟩ := H
      replace H : ((monikerref1_Done.f k t440 l2).bind fun t443 => ((monikerref1_List.f k t443 a0).bind fun t446 => (if (t446.length : Int) > 65536 then (some (([] : List (S42)), 2)) else (some (t446, 0))))) = some (r1, r2) := H
      have A10 := Aside0.mk A100
      clear A100
      replace H := Option.bind_eq_some_iff.mp H
      obtain ⟨t443, A110, H⟩ := H
      replace H : ((monikerref1_List.f k t443 a0).bind fun t446 => (if (t446.length : Int) > 65536 then (some (([] : List (S42)), 2)) else (some (t446, 0)))) = some (r1, r2) := H
      have A11 := Aside0.mk A110
      clear A110
      replace H := Option.bind_eq_some_iff.mp H
      obtain ⟨t446, A120, H⟩ := H
      replace H : (if (t446.length : Int) > 65536 then (some (([] : List (S42)), 2)) else (some (t446, 0))) = some (r1, r2) := H
      have A12 := Aside0.mk A120
      clear A120
      by_cases c13 : (t446.length : Int) > 65536
      · rw [if_pos c13] at H
        have c13b0 : decide (65536 < (t446.length : Int)) = true := decide_eq_true c13
        have c13b1 : decide (65536 < t446.length) = true := decide_eq_true (by omega)
        clear c13
        simp only [Option.some.injEq, Prod.mk.injEq] at H
        obtain ⟨rfl, rfl⟩ := H
        go_enter Try.func31, Try.ntmps31
        go_wp2_with (first | ((with_reducible refine gate_callee (f := 17) rfl ?_); refine goesL_ (some 12) rfl rfl Try.func17 (by kernel_rfl) rfl #[.int .i64 a0, .slice A1 l1.length c1] rfl (by (try simp only [List.map_toArray, List.map_cons, List.map_nil]); first | done | rfl | (simp only [List.length_drop, List.length_take]; rfl)) ?_; (with_reducible refine (monikerref1_Valid.calls k a0 _ _ l1 t434 _ ?side1 ?side2 A4.out).mono ?_); (case side1 => repeat (first | exact HR1.out | (with_reducible refine Kd.C_alloc ?_ _) | (with_reducible refine Kd.C_drewN ?_ _) | (with_reducible refine Kd.C_drew ?_))); (case side2 => exact HC1.out); rintro e w14 ⟨rfl, hb⟩; refine ⟨_, rfl, ?_⟩; have n0_ := Aside0.mk (below_step (by repeat (first | (with_reducible first | exact HB.out | apply below_alloc | apply pw_below_drewN | apply below_drew1) | exact HB.out)) hb); clear HB; have HB := n0_; clear n0_; (try clear hb); (try clear hb2); (try clear hk); (try clear hi)) | ((with_reducible refine gate_callee (f := 42) rfl ?_); refine goesL_ (some 18) rfl rfl Try.func42 (by kernel_rfl) rfl #[.int .i64 a0, .slice A1 l1.length c1] rfl (by (try simp only [List.map_toArray, List.map_cons, List.map_nil]); first | done | rfl | (simp only [List.length_drop, List.length_take]; rfl)) ?_; (with_reducible refine (monikerref1_Left.calls k a0 _ _ l1 t435 _ ?side1 ?side2 A6.out).mono ?_); (case side1 => repeat (first | exact (Kd.C_below HR1.out HB.out) | (with_reducible refine Kd.C_alloc ?_ _) | (with_reducible refine Kd.C_drewN ?_ _) | (with_reducible refine Kd.C_drew ?_))); (case side2 => exact HC1.out); rintro e w' ⟨rfl, ⟨nd, rfl⟩⟩; refine ⟨_, rfl, ?_⟩) | ((with_reducible refine gate_callee (f := 33) rfl ?_); refine goesL_ (some 20) rfl rfl Try.func33 (by kernel_rfl) rfl #[.int .i64 t435, .slice A2 l2.length c2] rfl (by (try simp only [List.map_toArray, List.map_cons, List.map_nil]); first | done | rfl | (simp only [List.length_drop, List.length_take]; rfl)) ?_; (with_reducible refine (monikerref1_valid.calls k t435 _ _ l2 t436 _ ?side1 ?side2 A7.out).mono ?_); (case side1 => repeat (first | exact (Kd.C_below HR2.out (by repeat (first | (with_reducible first | exact HB.out | apply below_alloc | apply pw_below_drewN | apply below_drew1) | exact HB.out))) | (with_reducible refine Kd.C_alloc ?_ _) | (with_reducible refine Kd.C_drewN ?_ _) | (with_reducible refine Kd.C_drew ?_))); (case side2 => exact HC2.out); rintro e w15 ⟨rfl, hb⟩; refine ⟨_, rfl, ?_⟩; have n0_ := Aside0.mk (below_step (by repeat (first | (with_reducible first | exact HB.out | apply below_alloc | apply pw_below_drewN | apply below_drew1) | exact HB.out)) hb); clear HB; have HB := n0_; clear n0_; (try clear hb); (try clear hb2); (try clear hk); (try clear hi)) | ((with_reducible refine gate_callee (f := 37) rfl ?_); refine goesL_ (some 25) rfl rfl Try.func37 (by kernel_rfl) rfl #[.int .i64 a0] rfl (by (try simp only [List.map_toArray, List.map_cons, List.map_nil]); first | done | rfl | (simp only [List.length_drop, List.length_take]; rfl)) ?_; (with_reducible refine (monikerref1_Whole.calls a0 t437 _ A9.out).mono ?_); rintro e w16 ⟨v438, rfl, ho0, hb⟩; refine ⟨_, rfl, ?_⟩; have n0_ := Aside0.mk (Kd.R_lower ho0 (below_size (by repeat (first | (with_reducible first | exact HB.out | apply below_alloc | apply pw_below_drewN | apply below_drew1) | exact HB.out)))); have n1_ := Aside0.mk (below_step (by repeat (first | (with_reducible first | exact HB.out | apply below_alloc | apply pw_below_drewN | apply below_drew1) | exact HB.out)) hb); clear HB; have HO439 := n0_; have HB := n1_; clear n0_ n1_; (try clear hb); (try clear hb2); (try clear hk); (try clear hi); (try clear ho0); obtain ⟨Ao17, co17, eo17⟩ := Kd.R_slice HO439.out; subst eo17) | ((with_reducible refine gate_callee (f := 36) rfl ?_); refine goesL_ (some 27) rfl rfl Try.func36 (by kernel_rfl) rfl #[.slice Ao17 t437.length co17, .slice A1 l1.length c1] rfl (by (try simp only [List.map_toArray, List.map_cons, List.map_nil]); first | done | rfl | (simp only [List.length_drop, List.length_take]; rfl)) ?_; (with_reducible refine (monikerref1_Done.calls k (fun k_ => some k_ = (.slice Ao17 t437.length co17 : Value).ownBlock) _ _ t437 _ _ l1 t440 _ ?side1 ?side2 ?side3 A10.out).mono ?_); (case side1 => exact Kd.R_V (Kd.R_tight rfl (HO439.out))); (case side2 => repeat (first | exact (Kd.C_below HR1.out HB.out) | (with_reducible refine Kd.C_alloc ?_ _) | (with_reducible refine Kd.C_drewN ?_ _) | (with_reducible refine Kd.C_drew ?_))); (case side3 => exact HC1.out); rintro e w18 ⟨v441, rfl, ho0, hb⟩; refine ⟨_, rfl, ?_⟩; have n0_ := Aside0.mk (Kd.R_elder' (by (with_reducible repeat (first | apply Kd.R_alloc | apply Kd.R_drewN | apply Kd.R_drew)); exact HO439.out) (Kd.R_base ho0) hb); have n1_ := Aside0.mk (Kd.R_lower (Kd.R_new' (Kd.R_mono (ok' := fun k_ => True) ho0 (fun _ hk_ => trivial)) (Kd.R_lt (by (with_reducible repeat (first | apply Kd.R_alloc | apply Kd.R_drewN | apply Kd.R_drew)); exact HO439.out))) (below_size (by repeat (first | (with_reducible first | exact HB.out | apply below_alloc | apply pw_below_drewN | apply below_drew1) | exact HB.out)))); have n2_ := Aside0.mk (below_step (by repeat (first | (with_reducible first | exact HB.out | apply below_alloc | apply pw_below_drewN | apply below_drew1) | exact HB.out)) hb); clear HO439; clear HB; have HO439 := n0_; have HO442 := n1_; have HB := n2_; clear n0_ n1_ n2_; (try clear hb); (try clear hb2); (try clear hk); (try clear hi); (try clear ho0); obtain ⟨Ao19, co19, eo19⟩ := Kd.R_slice HO442.out; subst eo19) | ((with_reducible refine gate_callee (f := 36) rfl ?_); refine goesL_ (some 29) rfl rfl Try.func36 (by kernel_rfl) rfl #[.slice Ao19 t440.length co19, .slice A2 l2.length c2] rfl (by (try simp only [List.map_toArray, List.map_cons, List.map_nil]); first | done | rfl | (simp only [List.length_drop, List.length_take]; rfl)) ?_; (with_reducible refine (monikerref1_Done.calls k (fun k_ => some k_ = (.slice Ao19 t440.length co19 : Value).ownBlock) _ _ t440 _ _ l2 t443 _ ?side1 ?side2 ?side3 A11.out).mono ?_); (case side1 => exact Kd.R_V (Kd.R_tight rfl (HO442.out))); (case side2 => repeat (first | exact (Kd.C_below HR2.out HB.out) | (with_reducible refine Kd.C_alloc ?_ _) | (with_reducible refine Kd.C_drewN ?_ _) | (with_reducible refine Kd.C_drew ?_))); (case side3 => exact HC2.out); rintro e w20 ⟨v444, rfl, ho0, hb⟩; refine ⟨_, rfl, ?_⟩; have n0_ := Aside0.mk (Kd.R_elder' (by (with_reducible repeat (first | apply Kd.R_alloc | apply Kd.R_drewN | apply Kd.R_drew)); exact HO439.out) (Kd.R_base ho0) hb); have n1_ := Aside0.mk (Kd.R_elder' (by (with_reducible repeat (first | apply Kd.R_alloc | apply Kd.R_drewN | apply Kd.R_drew)); exact HO442.out) (Kd.R_base ho0) hb); have n2_ := Aside0.mk (Kd.R_lower (Kd.R_new' (Kd.R_new' (Kd.R_mono (ok' := fun k_ => True) ho0 (fun _ hk_ => trivial)) (Kd.R_lt (by (with_reducible repeat (first | apply Kd.R_alloc | apply Kd.R_drewN | apply Kd.R_drew)); exact HO439.out))) (Kd.R_lt (by (with_reducible repeat (first | apply Kd.R_alloc | apply Kd.R_drewN | apply Kd.R_drew)); exact HO442.out))) (below_size (by repeat (first | (with_reducible first | exact HB.out | apply below_alloc | apply pw_below_drewN | apply below_drew1) | exact HB.out)))); have n3_ := Aside0.mk (below_step (by repeat (first | (with_reducible first | exact HB.out | apply below_alloc | apply pw_below_drewN | apply below_drew1) | exact HB.out)) hb); clear HO439; clear HO442; clear HB; have HO439 := n0_; have HO442 := n1_; have HO445 := n2_; have HB := n3_; clear n0_ n1_ n2_ n3_; (try clear hb); (try clear hb2); (try clear hk); (try clear hi); (try clear ho0); obtain ⟨Ao21, co21, eo21⟩ := Kd.R_slice HO445.out; subst eo21) | ((with_reducible refine gate_callee (f := 43) rfl ?_); refine goesL_ (some 31) rfl rfl Try.func43 (by kernel_rfl) rfl #[.slice Ao21 t443.length co21, .int .i64 a0] rfl (by (try simp only [List.map_toArray, List.map_cons, List.map_nil]); first | done | rfl | (simp only [List.length_drop, List.length_take]; rfl)) ?_; (with_reducible refine (monikerref1_List.calls k _ _ t443 a0 t446 _ ?side1 ?side2 A12.out).mono ?_); (case side1 => repeat (first | exact (Kd.R_reads' HO445.out).2.2 | (with_reducible refine Kd.C_alloc ?_ _) | (with_reducible refine Kd.C_drewN ?_ _) | (with_reducible refine Kd.C_drew ?_))); (case side2 => exact (Kd.R_reads' HO445.out).2.1); rintro e w22 ⟨v447, rfl, ho0, hb⟩; refine ⟨_, rfl, ?_⟩; have n0_ := Aside0.mk (Kd.R_below (by (with_reducible repeat (first | apply Kd.R_alloc | apply Kd.R_drewN | apply Kd.R_drew)); exact HO439.out) hb); have n1_ := Aside0.mk (Kd.R_below (by (with_reducible repeat (first | apply Kd.R_alloc | apply Kd.R_drewN | apply Kd.R_drew)); exact HO442.out) hb); have n2_ := Aside0.mk (Kd.R_below (by (with_reducible repeat (first | apply Kd.R_alloc | apply Kd.R_drewN | apply Kd.R_drew)); exact HO445.out) hb); have n3_ := Aside0.mk (Kd.R_lower ho0 (below_size (by repeat (first | (with_reducible first | exact HB.out | apply below_alloc | apply pw_below_drewN | apply below_drew1) | exact HB.out)))); have n4_ := Aside0.mk (below_step (by repeat (first | (with_reducible first | exact HB.out | apply below_alloc | apply pw_below_drewN | apply below_drew1) | exact HB.out)) hb); clear HO439; clear HO442; clear HO445; clear HB; have HO439 := n0_; have HO442 := n1_; have HO445 := n2_; have HO448 := n3_; have HB := n4_; clear n0_ n1_ n2_ n3_ n4_; (try clear hb); (try clear hb2); (try clear hk); (try clear hi); (try clear ho0); obtain ⟨Ao23, co23, eo23⟩ := Kd.R_slice HO448.out; subst eo23))
        go_ret2
        exact ⟨_, by first | rfl | (simp [errW_none, errW_some] <;> rfl) | (simp [*, errW_none, errW_some] <;> rfl), by first | exact Kd.R_nil _ _ _ _ _ | exact Kd.N_nil _ _ _ _ _ | exact Kd.V_nil _ _ _ _ _ | exact Kd.Q_nil _ _ _ _ _ | exact Kd.S_nil _ _ _ _ _, by repeat (first | (with_reducible first | exact HB.out | apply below_alloc | apply pw_below_drewN | apply below_drew1) | exact HB.out)⟩
      · rw [if_neg c13] at H
        have c13b0 : decide (65536 < (t446.length : Int)) = false := decide_eq_false c13
        have c13b1 : decide (65536 < t446.length) = false := decide_eq_false (by omega)
        clear c13
        simp only [Option.some.injEq, Prod.mk.injEq] at H
        obtain ⟨rfl, rfl⟩ := H
        go_enter Try.func31, Try.ntmps31
        go_wp2_with (first | ((with_reducible refine gate_callee (f := 17) rfl ?_); refine goesL_ (some 12) rfl rfl Try.func17 (by kernel_rfl) rfl #[.int .i64 a0, .slice A1 l1.length c1] rfl (by (try simp only [List.map_toArray, List.map_cons, List.map_nil]); first | done | rfl | (simp only [List.length_drop, List.length_take]; rfl)) ?_; (with_reducible refine (monikerref1_Valid.calls k a0 _ _ l1 t434 _ ?side1 ?side2 A4.out).mono ?_); (case side1 => repeat (first | exact HR1.out | (with_reducible refine Kd.C_alloc ?_ _) | (with_reducible refine Kd.C_drewN ?_ _) | (with_reducible refine Kd.C_drew ?_))); (case side2 => exact HC1.out); rintro e w24 ⟨rfl, hb⟩; refine ⟨_, rfl, ?_⟩; have n0_ := Aside0.mk (below_step (by repeat (first | (with_reducible first | exact HB.out | apply below_alloc | apply pw_below_drewN | apply below_drew1) | exact HB.out)) hb); clear HB; have HB := n0_; clear n0_; (try clear hb); (try clear hb2); (try clear hk); (try clear hi)) | ((with_reducible refine gate_callee (f := 42) rfl ?_); refine goesL_ (some 18) rfl rfl Try.func42 (by kernel_rfl) rfl #[.int .i64 a0, .slice A1 l1.length c1] rfl (by (try simp only [List.map_toArray, List.map_cons, List.map_nil]); first | done | rfl | (simp only [List.length_drop, List.length_take]; rfl)) ?_; (with_reducible refine (monikerref1_Left.calls k a0 _ _ l1 t435 _ ?side1 ?side2 A6.out).mono ?_); (case side1 => repeat (first | exact (Kd.C_below HR1.out HB.out) | (with_reducible refine Kd.C_alloc ?_ _) | (with_reducible refine Kd.C_drewN ?_ _) | (with_reducible refine Kd.C_drew ?_))); (case side2 => exact HC1.out); rintro e w' ⟨rfl, ⟨nd, rfl⟩⟩; refine ⟨_, rfl, ?_⟩) | ((with_reducible refine gate_callee (f := 33) rfl ?_); refine goesL_ (some 20) rfl rfl Try.func33 (by kernel_rfl) rfl #[.int .i64 t435, .slice A2 l2.length c2] rfl (by (try simp only [List.map_toArray, List.map_cons, List.map_nil]); first | done | rfl | (simp only [List.length_drop, List.length_take]; rfl)) ?_; (with_reducible refine (monikerref1_valid.calls k t435 _ _ l2 t436 _ ?side1 ?side2 A7.out).mono ?_); (case side1 => repeat (first | exact (Kd.C_below HR2.out (by repeat (first | (with_reducible first | exact HB.out | apply below_alloc | apply pw_below_drewN | apply below_drew1) | exact HB.out))) | (with_reducible refine Kd.C_alloc ?_ _) | (with_reducible refine Kd.C_drewN ?_ _) | (with_reducible refine Kd.C_drew ?_))); (case side2 => exact HC2.out); rintro e w25 ⟨rfl, hb⟩; refine ⟨_, rfl, ?_⟩; have n0_ := Aside0.mk (below_step (by repeat (first | (with_reducible first | exact HB.out | apply below_alloc | apply pw_below_drewN | apply below_drew1) | exact HB.out)) hb); clear HB; have HB := n0_; clear n0_; (try clear hb); (try clear hb2); (try clear hk); (try clear hi)) | ((with_reducible refine gate_callee (f := 37) rfl ?_); refine goesL_ (some 25) rfl rfl Try.func37 (by kernel_rfl) rfl #[.int .i64 a0] rfl (by (try simp only [List.map_toArray, List.map_cons, List.map_nil]); first | done | rfl | (simp only [List.length_drop, List.length_take]; rfl)) ?_; (with_reducible refine (monikerref1_Whole.calls a0 t437 _ A9.out).mono ?_); rintro e w26 ⟨v438, rfl, ho0, hb⟩; refine ⟨_, rfl, ?_⟩; have n0_ := Aside0.mk (Kd.R_lower ho0 (below_size (by repeat (first | (with_reducible first | exact HB.out | apply below_alloc | apply pw_below_drewN | apply below_drew1) | exact HB.out)))); have n1_ := Aside0.mk (below_step (by repeat (first | (with_reducible first | exact HB.out | apply below_alloc | apply pw_below_drewN | apply below_drew1) | exact HB.out)) hb); clear HB; have HO439 := n0_; have HB := n1_; clear n0_ n1_; (try clear hb); (try clear hb2); (try clear hk); (try clear hi); (try clear ho0); obtain ⟨Ao27, co27, eo27⟩ := Kd.R_slice HO439.out; subst eo27) | ((with_reducible refine gate_callee (f := 36) rfl ?_); refine goesL_ (some 27) rfl rfl Try.func36 (by kernel_rfl) rfl #[.slice Ao27 t437.length co27, .slice A1 l1.length c1] rfl (by (try simp only [List.map_toArray, List.map_cons, List.map_nil]); first | done | rfl | (simp only [List.length_drop, List.length_take]; rfl)) ?_; (with_reducible refine (monikerref1_Done.calls k (fun k_ => some k_ = (.slice Ao27 t437.length co27 : Value).ownBlock) _ _ t437 _ _ l1 t440 _ ?side1 ?side2 ?side3 A10.out).mono ?_); (case side1 => exact Kd.R_V (Kd.R_tight rfl (HO439.out))); (case side2 => repeat (first | exact (Kd.C_below HR1.out HB.out) | (with_reducible refine Kd.C_alloc ?_ _) | (with_reducible refine Kd.C_drewN ?_ _) | (with_reducible refine Kd.C_drew ?_))); (case side3 => exact HC1.out); rintro e w28 ⟨v441, rfl, ho0, hb⟩; refine ⟨_, rfl, ?_⟩; have n0_ := Aside0.mk (Kd.R_elder' (by (with_reducible repeat (first | apply Kd.R_alloc | apply Kd.R_drewN | apply Kd.R_drew)); exact HO439.out) (Kd.R_base ho0) hb); have n1_ := Aside0.mk (Kd.R_lower (Kd.R_new' (Kd.R_mono (ok' := fun k_ => True) ho0 (fun _ hk_ => trivial)) (Kd.R_lt (by (with_reducible repeat (first | apply Kd.R_alloc | apply Kd.R_drewN | apply Kd.R_drew)); exact HO439.out))) (below_size (by repeat (first | (with_reducible first | exact HB.out | apply below_alloc | apply pw_below_drewN | apply below_drew1) | exact HB.out)))); have n2_ := Aside0.mk (below_step (by repeat (first | (with_reducible first | exact HB.out | apply below_alloc | apply pw_below_drewN | apply below_drew1) | exact HB.out)) hb); clear HO439; clear HB; have HO439 := n0_; have HO442 := n1_; have HB := n2_; clear n0_ n1_ n2_; (try clear hb); (try clear hb2); (try clear hk); (try clear hi); (try clear ho0); obtain ⟨Ao29, co29, eo29⟩ := Kd.R_slice HO442.out; subst eo29) | ((with_reducible refine gate_callee (f := 36) rfl ?_); refine goesL_ (some 29) rfl rfl Try.func36 (by kernel_rfl) rfl #[.slice Ao29 t440.length co29, .slice A2 l2.length c2] rfl (by (try simp only [List.map_toArray, List.map_cons, List.map_nil]); first | done | rfl | (simp only [List.length_drop, List.length_take]; rfl)) ?_; (with_reducible refine (monikerref1_Done.calls k (fun k_ => some k_ = (.slice Ao29 t440.length co29 : Value).ownBlock) _ _ t440 _ _ l2 t443 _ ?side1 ?side2 ?side3 A11.out).mono ?_); (case side1 => exact Kd.R_V (Kd.R_tight rfl (HO442.out))); (case side2 => repeat (first | exact (Kd.C_below HR2.out HB.out) | (with_reducible refine Kd.C_alloc ?_ _) | (with_reducible refine Kd.C_drewN ?_ _) | (with_reducible refine Kd.C_drew ?_))); (case side3 => exact HC2.out); rintro e w30 ⟨v444, rfl, ho0, hb⟩; refine ⟨_, rfl, ?_⟩; have n0_ := Aside0.mk (Kd.R_elder' (by (with_reducible repeat (first | apply Kd.R_alloc | apply Kd.R_drewN | apply Kd.R_drew)); exact HO439.out) (Kd.R_base ho0) hb); have n1_ := Aside0.mk (Kd.R_elder' (by (with_reducible repeat (first | apply Kd.R_alloc | apply Kd.R_drewN | apply Kd.R_drew)); exact HO442.out) (Kd.R_base ho0) hb); have n2_ := Aside0.mk (Kd.R_lower (Kd.R_new' (Kd.R_new' (Kd.R_mono (ok' := fun k_ => True) ho0 (fun _ hk_ => trivial)) (Kd.R_lt (by (with_reducible repeat (first | apply Kd.R_alloc | apply Kd.R_drewN | apply Kd.R_drew)); exact HO439.out))) (Kd.R_lt (by (with_reducible repeat (first | apply Kd.R_alloc | apply Kd.R_drewN | apply Kd.R_drew)); exact HO442.out))) (below_size (by repeat (first | (with_reducible first | exact HB.out | apply below_alloc | apply pw_below_drewN | apply below_drew1) | exact HB.out)))); have n3_ := Aside0.mk (below_step (by repeat (first | (with_reducible first | exact HB.out | apply below_alloc | apply pw_below_drewN | apply below_drew1) | exact HB.out)) hb); clear HO439; clear HO442; clear HB; have HO439 := n0_; have HO442 := n1_; have HO445 := n2_; have HB := n3_; clear n0_ n1_ n2_ n3_; (try clear hb); (try clear hb2); (try clear hk); (try clear hi); (try clear ho0); obtain ⟨Ao31, co31, eo31⟩ := Kd.R_slice HO445.out; subst eo31) | ((with_reducible refine gate_callee (f := 43) rfl ?_); refine goesL_ (some 31) rfl rfl Try.func43 (by kernel_rfl) rfl #[.slice Ao31 t443.length co31, .int .i64 a0] rfl (by (try simp only [List.map_toArray, List.map_cons, List.map_nil]); first | done | rfl | (simp only [List.length_drop, List.length_take]; rfl)) ?_; (with_reducible refine (monikerref1_List.calls k _ _ t443 a0 t446 _ ?side1 ?side2 A12.out).mono ?_); (case side1 => repeat (first | exact (Kd.R_reads' HO445.out).2.2 | (with_reducible refine Kd.C_alloc ?_ _) | (with_reducible refine Kd.C_drewN ?_ _) | (with_reducible refine Kd.C_drew ?_))); (case side2 => exact (Kd.R_reads' HO445.out).2.1); rintro e w32 ⟨v447, rfl, ho0, hb⟩; refine ⟨_, rfl, ?_⟩; have n0_ := Aside0.mk (Kd.R_below (by (with_reducible repeat (first | apply Kd.R_alloc | apply Kd.R_drewN | apply Kd.R_drew)); exact HO439.out) hb); have n1_ := Aside0.mk (Kd.R_below (by (with_reducible repeat (first | apply Kd.R_alloc | apply Kd.R_drewN | apply Kd.R_drew)); exact HO442.out) hb); have n2_ := Aside0.mk (Kd.R_below (by (with_reducible repeat (first | apply Kd.R_alloc | apply Kd.R_drewN | apply Kd.R_drew)); exact HO445.out) hb); have n3_ := Aside0.mk (Kd.R_lower ho0 (below_size (by repeat (first | (with_reducible first | exact HB.out | apply below_alloc | apply pw_below_drewN | apply below_drew1) | exact HB.out)))); have n4_ := Aside0.mk (below_step (by repeat (first | (with_reducible first | exact HB.out | apply below_alloc | apply pw_below_drewN | apply below_drew1) | exact HB.out)) hb); clear HO439; clear HO442; clear HO445; clear HB; have HO439 := n0_; have HO442 := n1_; have HO445 := n2_; have HO448 := n3_; have HB := n4_; clear n0_ n1_ n2_ n3_ n4_; (try clear hb); (try clear hb2); (try clear hk); (try clear hi); (try clear ho0); obtain ⟨Ao33, co33, eo33⟩ := Kd.R_slice HO448.out; subst eo33))
        go_ret2
        exact ⟨_, by first | rfl | (simp [errW_none, errW_some] <;> rfl) | (simp [*, errW_none, errW_some] <;> rfl), by (with_reducible repeat (first | apply Kd.R_alloc | apply Kd.R_drewN | apply Kd.R_drew)); exact HO448.out, by repeat (first | (with_reducible first | exact HB.out | apply below_alloc | apply pw_below_drewN | apply below_drew1) | exact HB.out)⟩
    · rw [if_neg c8] at H
      have c8b0 : (t436 == 0) = false := beq_eq_false_iff_ne.mpr c8
      have c8b1 : (t436 != 0) = true := bne_iff_ne.mpr c8
      simp only [Option.some.injEq, Prod.mk.injEq] at H
      obtain ⟨rfl, rfl⟩ := H
      go_enter Try.func31, Try.ntmps31
      go_wp2_with (first | ((with_reducible refine gate_callee (f := 17) rfl ?_); refine goesL_ (some 12) rfl rfl Try.func17 (by kernel_rfl) rfl #[.int .i64 a0, .slice A1 l1.length c1] rfl (by (try simp only [List.map_toArray, List.map_cons, List.map_nil]); first | done | rfl | (simp only [List.length_drop, List.length_take]; rfl)) ?_; (with_reducible refine (monikerref1_Valid.calls k a0 _ _ l1 t434 _ ?side1 ?side2 A4.out).mono ?_); (case side1 => repeat (first | exact HR1.out | (with_reducible refine Kd.C_alloc ?_ _) | (with_reducible refine Kd.C_drewN ?_ _) | (with_reducible refine Kd.C_drew ?_))); (case side2 => exact HC1.out); rintro e w34 ⟨rfl, hb⟩; refine ⟨_, rfl, ?_⟩; have n0_ := Aside0.mk (below_step (by repeat (first | (with_reducible first | exact HB.out | apply below_alloc | apply pw_below_drewN | apply below_drew1) | exact HB.out)) hb); clear HB; have HB := n0_; clear n0_; (try clear hb); (try clear hb2); (try clear hk); (try clear hi)) | ((with_reducible refine gate_callee (f := 42) rfl ?_); refine goesL_ (some 18) rfl rfl Try.func42 (by kernel_rfl) rfl #[.int .i64 a0, .slice A1 l1.length c1] rfl (by (try simp only [List.map_toArray, List.map_cons, List.map_nil]); first | done | rfl | (simp only [List.length_drop, List.length_take]; rfl)) ?_; (with_reducible refine (monikerref1_Left.calls k a0 _ _ l1 t435 _ ?side1 ?side2 A6.out).mono ?_); (case side1 => repeat (first | exact (Kd.C_below HR1.out HB.out) | (with_reducible refine Kd.C_alloc ?_ _) | (with_reducible refine Kd.C_drewN ?_ _) | (with_reducible refine Kd.C_drew ?_))); (case side2 => exact HC1.out); rintro e w' ⟨rfl, ⟨nd, rfl⟩⟩; refine ⟨_, rfl, ?_⟩) | ((with_reducible refine gate_callee (f := 33) rfl ?_); refine goesL_ (some 20) rfl rfl Try.func33 (by kernel_rfl) rfl #[.int .i64 t435, .slice A2 l2.length c2] rfl (by (try simp only [List.map_toArray, List.map_cons, List.map_nil]); first | done | rfl | (simp only [List.length_drop, List.length_take]; rfl)) ?_; (with_reducible refine (monikerref1_valid.calls k t435 _ _ l2 t436 _ ?side1 ?side2 A7.out).mono ?_); (case side1 => repeat (first | exact (Kd.C_below HR2.out (by repeat (first | (with_reducible first | exact HB.out | apply below_alloc | apply pw_below_drewN | apply below_drew1) | exact HB.out))) | (with_reducible refine Kd.C_alloc ?_ _) | (with_reducible refine Kd.C_drewN ?_ _) | (with_reducible refine Kd.C_drew ?_))); (case side2 => exact HC2.out); rintro e w35 ⟨rfl, hb⟩; refine ⟨_, rfl, ?_⟩; have n0_ := Aside0.mk (below_step (by repeat (first | (with_reducible first | exact HB.out | apply below_alloc | apply pw_below_drewN | apply below_drew1) | exact HB.out)) hb); clear HB; have HB := n0_; clear n0_; (try clear hb); (try clear hb2); (try clear hk); (try clear hi)))
      go_ret2
      exact ⟨_, by first | rfl | (simp [errW_none, errW_some] <;> rfl) | (simp [*, errW_none, errW_some] <;> rfl), by first | exact Kd.R_nil _ _ _ _ _ | exact Kd.N_nil _ _ _ _ _ | exact Kd.V_nil _ _ _ _ _ | exact Kd.Q_nil _ _ _ _ _ | exact Kd.S_nil _ _ _ _ _, by repeat (first | (with_reducible first | exact HB.out | apply below_alloc | apply pw_below_drewN | apply below_drew1) | exact HB.out)⟩
  · rw [if_neg c5] at H
    have c5b0 : (t434 == 0) = false := beq_eq_false_iff_ne.mpr c5
    have c5b1 : (t434 != 0) = true := bne_iff_ne.mpr c5
    simp only [Option.some.injEq, Prod.mk.injEq] at H
    obtain ⟨rfl, rfl⟩ := H
    go_enter Try.func31, Try.ntmps31
    go_wp2_with (first | ((with_reducible refine gate_callee (f := 17) rfl ?_); refine goesL_ (some 12) rfl rfl Try.func17 (by kernel_rfl) rfl #[.int .i64 a0, .slice A1 l1.length c1] rfl (by (try simp only [List.map_toArray, List.map_cons, List.map_nil]); first | done | rfl | (simp only [List.length_drop, List.length_take]; rfl)) ?_; (with_reducible refine (monikerref1_Valid.calls k a0 _ _ l1 t434 _ ?side1 ?side2 A4.out).mono ?_); (case side1 => repeat (first | exact HR1.out | (with_reducible refine Kd.C_alloc ?_ _) | (with_reducible refine Kd.C_drewN ?_ _) | (with_reducible refine Kd.C_drew ?_))); (case side2 => exact HC1.out); rintro e w36 ⟨rfl, hb⟩; refine ⟨_, rfl, ?_⟩; have n0_ := Aside0.mk (below_step (by repeat (first | (with_reducible first | exact HB.out | apply below_alloc | apply pw_below_drewN | apply below_drew1) | exact HB.out)) hb); clear HB; have HB := n0_; clear n0_; (try clear hb); (try clear hb2); (try clear hk); (try clear hi)))
    go_ret2
    exact ⟨_, by first | rfl | (simp [errW_none, errW_some] <;> rfl) | (simp [*, errW_none, errW_some] <;> rfl), by first | exact Kd.R_nil _ _ _ _ _ | exact Kd.N_nil _ _ _ _ _ | exact Kd.V_nil _ _ _ _ _ | exact Kd.Q_nil _ _ _ _ _ | exact Kd.S_nil _ _ _ _ _, by repeat (first | (with_reducible first | exact HB.out | apply below_alloc | apply pw_below_drewN | apply below_drew1) | exact HB.out)⟩

end Go.Proofs.Ytaihajmdngoeiaa.F

namespace Go.Proofs.Ytaihajmdngoeiaa.Q
open Go.RowKit Go.Proofs.YtaihajmdngoeiaaW.PrintWords Go.Proofs.YtaihajmdngoeiaaW.PrintLast Go.Proofs.YtaihajmdngoeiaaW.PrintMore
open Go.Proofs.Ytaihajmdngoeiaa.F
set_option linter.unusedVariables false
set_option linter.unusedSimpArgs false

theorem texts_app : ∀ (a b : List S61), texts_ (a ++ b) = texts_ a + texts_ b
  | [], b => by simp [texts_]
  | r :: a, b => by
    simp only [List.cons_append, texts_, texts_app a b]
    omega
theorem part_text (r : S61) (a b : Int) : (partS r a b).f3.size ≤ r.f3.size := by
  unfold partS
  split
  · exact Nat.zero_le _
  · simp only [ByteArray.size_extract]
    omega
theorem keptS_texts (x y : Int) : ∀ (l : List S61) (p : Int), texts_ (keptS p x y l) ≤ 2 * texts_ l
  | [], p => by simp [keptS, texts_]
  | r :: l, p => by
    have := keptS_texts x y l (p + rsz r)
    simp only [keptS]
    split
    · simp only [texts_app, texts_]
      have h1 : texts_ (if rsz r = 0 ∧ x ≤ p then [r] else []) ≤ r.f3.size := by split <;> simp [texts_]
      have h2 : texts_ (if max (x - p) 0 < min (y - p) (rsz r) then [partS r (max (x - p) 0) (min (y - p) (rsz r))] else []) ≤ r.f3.size := by
        have := part_text r (max (x - p) 0) (min (y - p) (rsz r))
        split <;> simp [texts_] <;> exact this
      omega
    · simp [texts_]
theorem doneC_texts (l : List S61) (size : Int) : ∀ (es : List S42) (p : Int), texts_ (doneC l size p es) ≤ (es.length + 1) * (2 * texts_ l) + tot es
  | [], p => by
    have := keptS_texts p size l 0
    simp only [doneC, List.length_nil, tot]
    omega
  | e :: t, p => by
    have h1 := keptS_texts p e.f0 l 0
    have h2 := doneC_texts l size t e.f1
    simp only [doneC, texts_app, texts_, tot, List.length_cons]
    have h3 : (t.length + 1 + 1) * (2 * texts_ l) = (t.length + 1) * (2 * texts_ l) + 2 * texts_ l := by rw [Nat.add_mul (t.length + 1) 1, Nat.one_mul]
    omega
theorem doneC_len (l : List S61) (size : Int) : ∀ (es : List S42) (p : Int), (doneC l size p es).length ≤ (es.length + 1) * (2 * l.length) + es.length
  | [], p => by
    have := keptS_len p size l 0
    simp only [doneC, List.length_nil]
    omega
  | e :: t, p => by
    have h1 := keptS_len p e.f0 l 0
    have h2 := doneC_len l size t e.f1
    simp only [doneC, List.length_append, List.length_cons]
    have h3 : (t.length + 1 + 1) * (2 * l.length) = (t.length + 1) * (2 * l.length) + 2 * l.length := by rw [Nat.add_mul (t.length + 1) 1, Nat.one_mul]
    omega
/-- A run of the reference whose old bytes lie in the text. -/
def In_ (n : Int) (r : S61) : Prop := Rn r ∧ (r.f0 = true → 0 ≤ r.f1 ∧ r.f2 ≤ n)
theorem part_in {n : Int} {r : S61} (h : In_ n r) (a b : Int) (h0 : 0 ≤ a) (h1 : a < b) (h2 : b ≤ rsz r) : In_ n (partS r a b) := by
  obtain ⟨hR, hI⟩ := h
  unfold partS
  by_cases e : r.f0 = true
  · rw [if_pos e]
    have := hI e
    unfold rsz at h2
    rw [if_pos e] at h2
    refine ⟨?_, fun _ => ?_⟩
    · unfold Rn
      simp only [if_true]
      exact ⟨by omega, trivial⟩
    · exact ⟨by show 0 ≤ r.f1 + a; omega, by show r.f1 + b ≤ n; omega⟩
  · rw [if_neg e]
    refine ⟨?_, fun h => by cases h⟩
    unfold Rn
    simp
theorem keptS_in {n : Int} (x y : Int) : ∀ (l : List S61) (p : Int), (∀ r ∈ l, In_ n r) → ∀ r ∈ keptS p x y l, In_ n r
  | [], p, _, r, hr => by simp [keptS] at hr
  | q :: l, p, h, r, hr => by
    simp only [keptS] at hr
    split at hr
    · rcases List.mem_append.1 hr with hr | hr
      · rcases List.mem_append.1 hr with hr | hr
        · split at hr
          · rw [List.mem_singleton.1 hr]; exact h q List.mem_cons_self
          · cases hr
        · split at hr
          · rename_i hlt
            rw [List.mem_singleton.1 hr]
            exact part_in (h q List.mem_cons_self) _ _ (by omega) hlt (by omega)
          · cases hr
      · exact keptS_in x y l _ (fun z hz => h z (List.mem_cons_of_mem _ hz)) r hr
    · cases hr
theorem new_in (n : Int) (t : ByteArray) : In_ n ⟨false, 0, 0, t⟩ := ⟨by unfold Rn; simp, fun h => by cases h⟩
theorem doneC_in {n : Int} (l : List S61) (size : Int) (h : ∀ r ∈ l, In_ n r) : ∀ (es : List S42) (p : Int), ∀ r ∈ doneC l size p es, In_ n r
  | [], p => keptS_in p size l 0 h
  | e :: t, p => by
    intro r hr
    rcases List.mem_append.1 hr with hr | hr
    · exact keptS_in p e.f0 l 0 h r hr
    · rcases List.mem_cons.1 hr with rfl | hr
      · exact new_in n _
      · exact doneC_in l size h t e.f1 r hr
theorem sd_end {F : Int} : ∀ {es : List S42} {p : Int}, Sd F p es → p ≤ F
  | [], p, h => h
  | e :: t, p, ⟨h1, h2, h3⟩ => by have := sd_end h3; omega
theorem chain_sd {F : Int} : ∀ {es : List S42} {p : Option Int} {a : Int}, Chain F p es → a ≤ F → (∀ e t, es = e :: t → a ≤ e.f0) → Sd F a es
  | [], p, a, _, ha, _ => ha
  | e :: t, p, a, ⟨c1, c2, c3, c4, c5⟩, ha, h => ⟨h e t rfl, c2, chain_sd c5 c3 (fun x y he => by subst he; have := c5.2.2.2.1 _ rfl; omega)⟩
theorem kp_in (n a b : Int) (h0 : 0 ≤ a) (hb : b ≤ n) : ∀ r ∈ kp a b, In_ n r := by
  intro r hr
  unfold kp at hr
  split at hr
  · rw [List.mem_singleton.1 hr]
    refine ⟨?_, fun _ => ⟨h0, hb⟩⟩
    unfold Rn
    simp
    assumption
  · cases hr
theorem segs_in (F : Int) : ∀ (es : List S42) (a : Int), 0 ≤ a → Sd F a es → ∀ r ∈ segs F a es, In_ F r
  | [], a, h0, hs => kp_in F a F h0 (Int.le_refl _)
  | e :: t, a, h0, ⟨h1, h2, h3⟩ => by
    intro r hr
    rcases List.mem_append.1 hr with hr | hr
    · exact kp_in F a e.f0 h0 (by have := sd_end h3; omega) r hr
    · rcases List.mem_cons.1 hr with rfl | hr
      · exact new_in F _
      · exact segs_in F t e.f1 (by omega) h3 r hr
theorem kp_text (a b : Int) : texts_ (kp a b) = 0 := by unfold kp; split <;> rfl
theorem segs_text (F : Int) : ∀ (es : List S42) (a : Int), texts_ (segs F a es) = tot es
  | [], a => kp_text a F
  | e :: t, a => by
    simp only [segs, texts_app, texts_, kp_text, segs_text F t e.f1, tot]
    omega
theorem sum_app : ∀ (a b : List S61), sum_ (a ++ b) = sum_ a + sum_ b
  | [], b => by simp [sum_]
  | r :: a, b => by
    simp only [List.cons_append, sum_, sum_app a b]
    omega
theorem kp_sum (a b : Int) (h : a ≤ b) : sum_ (kp a b) = b - a := by
  unfold kp
  split
  · simp [sum_, rsz]
  · simp only [sum_]; omega
theorem segs_sum (F : Int) : ∀ (es : List S42) (a : Int), Sd F a es → sum_ (segs F a es) = F - a + sumG es
  | [], a, h => by
    simp only [segs, sumG]
    rw [kp_sum a F h]
    omega
  | e :: t, a, ⟨h1, h2, h3⟩ => by
    simp only [segs, sum_app, sum_, sumG, grow, segs_sum F t e.f1 h3, kp_sum a e.f0 h1]
    have : rsz ⟨false, 0, 0, e.f2⟩ = (e.f2.size : Int) := by simp [rsz]
    omega
theorem mem_text : ∀ (l : List S61) (r : S61), r ∈ l → r.f3.size ≤ texts_ l
  | q :: l, r, h => by
    rcases List.mem_cons.1 h with rfl | h
    · simp only [texts_]; omega
    · have := mem_text l r h
      simp only [texts_]; omega
theorem chain_ch {n : Int} : ∀ {es : List S42} {q : Int}, Chain n (some q) es → Ch n q (es.map edOf)
  | [], q, _ => trivial
  | e :: t, q, ⟨c1, c2, c3, c4, c5⟩ => ⟨c4 q rfl, c2, c3, chain_ch c5⟩
theorem chain_ok {n : Int} {es : List S42} {p : Option Int} (h : Chain n p es) : Ok n (es.map edOf) := by
  cases es with
  | nil => trivial
  | cons e t =>
    obtain ⟨c1, c2, c3, c4, c5⟩ := h
    exact ⟨c1, c2, c3, chain_ch c5⟩
theorem grw_edOf (e : S42) : grw (edOf e) = grow e := by
  unfold grw edOf grow
  have : e.f2.data.toList.length = e.f2.size := by simp
  show (e.f2.data.toList.length : Int) - (e.f1 - e.f0) = _
  rw [this]
theorem shOf_edOf : ∀ (l : List S42) (sh : Int), shOf sh (l.map edOf) = sh + sumG l
  | [], sh => by simp [shOf, sumG]
  | e :: t, sh => by
    simp only [List.map_cons, shOf, sumG, shOf_edOf t, grw_edOf]
    omega
theorem rowE_len (n : Int) (h0 : 0 ≤ n) (l : List S42) (p : Option Int) (h : Chain n p l) : ((rowE n (l.map edOf)).1.length : Int) = n + sumG l := by
  have := row_len n (l.map edOf) 0 0 false (Ok.cz (chain_ok h) h0)
  rw [shOf_edOf] at this
  unfold rowE
  omega
theorem Left_loop (l : List S42) (hl : l.length ≤ 65536) (d : Nat) : ∀ (i : Nat) (s : Int), i ≤ l.length → l.length - i = d →
    Ev (fun k => monikerref1_Left.l0 k (wrap64 s) l (i : Int)) (wrap64 (s + sumG (l.drop i))) := by
  induction d with
  | zero =>
    intro i s h1 h2
    refine ⟨1, fun n hn => ?_⟩
    obtain ⟨k, rfl⟩ : ∃ m, n = m + 1 := ⟨n - 1, by omega⟩
    simp only [monikerref1_Left.l0]
    rw [if_neg (by omega), List.drop_eq_nil_of_le (by omega)]
    simp [sumG]
  | succ d ih =>
    intro i s h1 h2
    have hi : i < l.length := by omega
    have hw : wrap64 ((i : Int) + 1) = ((i + 1 : Nat) : Int) := by rw [w64] <;> omega
    obtain ⟨K, hK⟩ := ih (i + 1) (s + grow l[i]) (by omega) (by omega)
    refine ⟨K + 1, fun n hn => ?_⟩
    obtain ⟨k, rfl⟩ : ∃ m, n = m + 1 := ⟨n - 1, by omega⟩
    have g := hK k (by omega)
    simp only at g
    simp only [monikerref1_Left.l0]
    rw [rd_at l i hi, if_pos (by omega), if_pos (by omega)]
    have hs := shift_step s l[i]
    unfold growsOf at hs
    rw [hs, hw, g, List.drop_eq_getElem_cons hi]
    simp only [sumG]
    congr 2
    omega
theorem Left_is (size : Int) (h0 : 0 ≤ size) (h1 : size ≤ 4611686018427387904) (l : List S42) (hl : l.length ≤ 65536) : Ev (fun k => monikerref1_Left.f k size l) (wrap64 (size + sumG l)) := by
  unfold monikerref1_Left.f
  have := Left_loop l hl l.length 0 size (by omega) (by omega)
  rw [w64 (x := size) (by omega) (by omega)] at this
  simpa using this
theorem sub_is (n : Int) (a b : List Ed) (hb : Ok (rowE n a).1.length b) : sub (rowE n a) (rowE (rowE n a).1.length b) = cells false (cmp 0 ((rowE n a).1.drop (0 : Int).toNat, (rowE n a).2) b) := by
  have hall : (∀ e ∈ b, 0 ≤ e.a ∧ e.a ≤ e.b ∧ e.b ≤ ((rowE n a).1.length : Int)) ∧ List.Pairwise (fun x y => x.b ≤ y.a) b := by
    cases b with
    | nil => exact ⟨(fun e he => by cases he), List.Pairwise.nil⟩
    | cons e t =>
      obtain ⟨c1, c2, c3, c4⟩ := hb
      obtain ⟨i1, i2⟩ := ok_pair t e.b c4
      refine ⟨fun x hx => ?_, List.pairwise_cons.2 ⟨fun x hx => by have := (i1 x hx).1; omega, i2⟩⟩
      rcases List.mem_cons.1 hx with rfl | hx
      · exact ⟨c1, c2, c3⟩
      · have := i1 x hx
        exact ⟨by omega, this.2⟩
  have := cmp_sub (rowE n a) b 0 false (Nat.zero_le _) hall.1 (fun e t he => by have := (hall.1 e (by rw [he]; exact List.mem_cons_self)).1; simpa using this) hall.2
  simp only [List.drop_zero, Int.ofNat_zero] at this
  exact this.symm
/-- One list for two, of the given edits. -/
def compL (n : Int) (a b : List S42) : List S42 := (cmpE n (a.map edOf) (b.map edOf)).map toS
def compSpec (n : Int) (a b : List S42) : List S42 × Int :=
  if Vspec n a = 0 then (if vspec (wrap64 (n + sumG a)) b = 0 then (if ((compL n a b).length : Int) > 65536 then ([], 2) else (compL n a b, 0)) else ([], vspec (wrap64 (n + sumG a)) b)) else ([], Vspec n a)
theorem Vspec_zero {n : Int} {l : List S42} (h : Vspec n l = 0) : 0 ≤ n ∧ n ≤ 4611686018427387904 ∧ l.length ≤ 65536 ∧ Chain n none l := by
  unfold Vspec at h
  by_cases h1 : n < 0
  · rw [if_pos h1] at h; cases h
  · rw [if_neg h1] at h
    by_cases h2 : n > 4611686018427387904
    · rw [if_pos h2] at h; cases h
    · rw [if_neg h2] at h
      have := vspec_zero h
      exact ⟨by omega, by omega, this⟩
theorem new_size (n : Int) (h0 : 0 ≤ n) (hn : n ≤ 4611686018427387904) (a : List S42) (ha : Chain n none a) (ht : tot a ≤ 100000000000000000) : 0 ≤ n + sumG a ∧ n + sumG a ≤ 4800000000000000000 ∧ wrap64 (n + sumG a) = n + sumG a := by
  have h1 := sumG_low 0 ha (Int.le_refl _) h0 (ap_first ha)
  have h2 := sumG_tot ha
  have h3 : 0 ≤ n + sumG a := by omega
  have h4 : n + sumG a ≤ 4800000000000000000 := by omega
  exact ⟨h3, h4, w64 (by omega) (by omega)⟩
theorem Compose_is (n : Int) (a b : List S42) (hta : tot a ≤ 1048576) (htb : tot b ≤ 1048576) : Ev (fun k => monikerref1_Compose.f k n a b) (compSpec n a b) := by
  unfold monikerref1_Compose.f compSpec
  refine (RValid_is n a).bind ?_
  by_cases h : Vspec n a = 0
  · simp only [if_pos h]
    obtain ⟨h0, hn, hla, hca⟩ := Vspec_zero h
    obtain ⟨z0, z1, z2⟩ := new_size n h0 hn a hca (by omega)
    refine (Left_is n h0 hn a hla).bind ?_
    rw [z2]
    refine (rvalid_is (n + sumG a) b).bind ?_
    by_cases hb : vspec (n + sumG a) b = 0
    · simp only [if_pos hb]
      obtain ⟨hlb, hcb⟩ := vspec_zero hb
      rw [Whole_is]
      simp only [Option.bind_some]
      refine (Done_is n h0 hn a hla hca).bind ?_
      have hsd : Sd n 0 a := chain_sd hca h0 (ap_first hca)
      have hsum : sum_ (segs n 0 a) = n + sumG a := by rw [segs_sum n a 0 hsd]; omega
      have hin := segs_in n a 0 (Int.le_refl _) hsd
      have htx := segs_text n a 0
      have hln := segs_len n a 0
      have hD := Done_gen (segs n 0 a) b (fun r hr => (hin r hr).1) (fun r hr => ⟨fun e => by have := (hin r hr).2 e; omega, by have := mem_text _ r hr; omega⟩) (by omega) (by omega) hlb (by rw [hsum]; exact chain_sd hcb z0 (ap_first hcb))
      rw [hsum] at hD
      refine hD.bind ?_
      have hdl := doneC_len (segs n 0 a) (n + sumG a) b 0
      have hdt := doneC_texts (segs n 0 a) (n + sumG a) b 0
      have m1 : (b.length + 1) * (2 * (segs n 0 a).length) ≤ 65537 * 262146 := Nat.mul_le_mul (by omega) (by omega)
      have m2 : (b.length + 1) * (2 * texts_ (segs n 0 a)) ≤ 65537 * 2097152 := Nat.mul_le_mul (by omega) (by omega)
      have hdin := doneC_in (n := n) (segs n 0 a) (n + sumG a) hin b 0
      refine (List_is (doneC (segs n 0 a) (n + sumG a) 0 b) n (by omega) (by omega)).bind ?_
      have hlist : lstR n 0 false ⟨#[]⟩ (doneC (segs n 0 a) (n + sumG a) 0 b) = compL n a b := by
        have h1 := lstR_cells n (doneC (segs n 0 a) (n + sumG a) 0 b) 0 false false ⟨#[]⟩ (fun r hr => (hdin r hr).1) (fun r hr e => ((hdin r hr).2 e).2)
        have h2 := doneC_cells (segs n 0 a) (n + sumG a) (fun r hr => (hin r hr).1) hsum b 0 false (Int.le_refl _) (chain_sd hcb z0 (ap_first hcb))
        have hrow : cells false (rAts (segs n 0 a)) = rowE n (a.map edOf) := by
          rw [segs_at n a 0 (Ok.cz (chain_ok hca) h0) h0]
          rfl
        have hlen := rowE_len n h0 a none hca
        rw [hrow] at h2
        have hob : Ok (rowE n (a.map edOf)).1.length (b.map edOf) := by rw [hlen]; exact chain_ok hcb
        rw [← sub_is n (a.map edOf) (b.map edOf) hob] at h2
        simp only [Bool.or_false] at h1
        rw [h1]
        unfold compL cmpE lst
        rw [lst_sC n 0 false _ _ _ h2]
      rw [hlist]
      by_cases hbig : ((compL n a b).length : Int) > 65536
      · simp only [if_pos hbig]; exact Ev.now _
      · simp only [if_neg hbig]; exact Ev.now _
    · simp only [if_neg hb]; exact Ev.now _
  · simp only [if_neg h]; exact Ev.now _

end Go.Proofs.Ytaihajmdngoeiaa.Q

-- Compose, plainly, group by group: what holds between two groups
namespace Go.Proofs.Ytaihajmdngoeiaa.Q
open Go.RowKit Go.Proofs.YtaihajmdngoeiaaW.PrintWords Go.Proofs.YtaihajmdngoeiaaW.PrintLast Go.Proofs.YtaihajmdngoeiaaW.PrintMore
open Go.Proofs.Ytaihajmdngoeiaa.F
set_option linter.unusedVariables false
set_option linter.unusedSimpArgs false

theorem cz_mem {n : Int} : ∀ (l : List Ed) (q : Int), Cz n q l → ∀ e ∈ l, q ≤ e.a ∧ e.a ≤ e.b ∧ e.b ≤ n
  | [], q, _, e, he => by cases he
  | x :: t, q, ⟨c1, c2, c3, c4⟩, e, he => by
    rcases List.mem_cons.1 he with rfl | he
    · exact ⟨c1, c2, c3⟩
    · have := cz_mem t x.b (Ch.cz c4 c3) e he
      exact ⟨by omega, this.2⟩
theorem map_edOf_inj {a b : List S42} (h : a.map edOf = b.map edOf) : a = b := by
  have := congrArg (List.map toS) h
  simpa [List.map_map, Function.comp_def, toS_edOf] using this
theorem edLen (e : S42) : ((edOf e).t.length : Int) = e.f2.size := by
  show (e.f2.data.toList.length : Int) = _
  simp
/-- Between two groups. -/
structure CI (n m : Int) (a b : List S42) (sh : Int) : Prop where
  q : ∃ q, Cz n q (a.map edOf) ∧ 0 ≤ q ∧ q ≤ n ∧ Cz m (q + sh) (b.map edOf) ∧ 0 ≤ q + sh
  hm : m = n + shOf sh (a.map edOf)
theorem tot_mem : ∀ (l : List S42) (e : S42), e ∈ l → e.f2.size ≤ tot l
  | x :: l, e, h => by
    rcases List.mem_cons.1 h with rfl | h
    · simp only [tot]; omega
    · have := tot_mem l e h
      simp only [tot]; omega
theorem tot_both : ∀ (a b : List S42), tot (a ++ b) = tot a + tot b
  | [], b => by simp [tot]
  | x :: a, b => by simp only [List.cons_append, tot, tot_both a b]; omega
theorem CI.sr {n m : Int} {a b : List S42} {sh : Int} (h : CI n m a b sh) (hn : n ≤ 4700000000000000000) (hm : m ≤ 4700000000000000000) (ht : tot a ≤ 1048576) (hl : a.length ≤ 100000 ∧ b.length ≤ 100000) : SR n m ⟨-1, 0, sh, [], [], a, b⟩ := by
  obtain ⟨q, h1, h2, h3, h4, h5⟩ := h.q
  have hend := cz_end n (a.map edOf) q sh h1
  refine ⟨?_, ?_, (fun p hp => by cases hp), (fun e he => by cases he), (fun e he => Nat.le_trans (tot_mem a e he) ht), (show (-1 : Int) ≤ -1 ∧ (-1 : Int) ≤ 4700000000000000000 by decide), (show (0 : Int) ≤ 0 ∧ (0 : Int) ≤ 4700000000000000000 by decide), ?_, ?_⟩
  · intro A e B he
    subst he
    have hmap : (A ++ e :: B).map edOf = A.map edOf ++ edOf e :: B.map edOf := by simp
    rw [hmap] at h1
    have c1 := cz_next n (A.map edOf) q sh (edOf e) (B.map edOf) h1
    have c2 := cz_text n (A.map edOf) q sh (edOf e) (B.map edOf) h1
    have c3 := cz_mem _ q h1 (edOf e) (by simp)
    have hmm := h.hm
    rw [hmap] at hmm
    rw [← hmm, edLen, shOf_edOf] at c2
    rw [shOf_edOf] at c1
    have d1 : (edOf e).a = e.f0 := rfl
    have d2 : (edOf e).b = e.f1 := rfl
    rw [d1] at c1 c2 c3
    rw [d2] at c1 c3
    show 0 ≤ e.f0 + (sh + sumG A) ∧ e.f0 + (sh + sumG A) + e.f2.size ≤ m ∧ 0 ≤ e.f0 ∧ e.f0 ≤ e.f1 ∧ e.f1 ≤ n
    exact ⟨by omega, by omega, by omega, by omega, by omega⟩
  · intro f hf
    have c3 := cz_mem _ _ h4 (edOf f) (List.mem_map_of_mem hf)
    have d1 : (edOf f).a = f.f0 := rfl
    have d2 : (edOf f).b = f.f1 := rfl
    rw [d1, d2] at c3
    exact ⟨by omega, by omega, by omega⟩
  · show _ ≤ sh ∧ sh ≤ _
    have := h.hm
    omega
  · show 0 + a.length ≤ _ ∧ 0 + b.length ≤ _
    omega
theorem putG_len : ∀ (A : List S42) (sh x y : Int), (putG (place sh A) x y).length ≤ tot A
  | [], _, _, _ => by simp [place, putG]
  | e :: r, sh, x, y => by
    have := putG_len r (sh + grow e) x y
    simp only [place, putG, List.length_append, tot]
    have h : (bytesOf (putOne (P67 (e.f0 + sh) e) x y)).length ≤ e.f2.size := by
      rw [bytesOf_length]
      unfold putOne
      split
      · show (e.f2.extract _ _).size ≤ _
        simp only [ByteArray.size_extract]
        omega
      · exact Nat.zero_le _
    omega
theorem writG_len (A : List S42) (sh hi : Int) : ∀ (ss : List S42) (x : Int), (writG (place sh A) hi ss x).length ≤ (ss.length + 1) * tot A + tot ss
  | [], x => by
    have := putG_len A sh x hi
    simp only [writG, List.length_nil, tot]
    omega
  | e :: t, x => by
    have h1 := putG_len A sh x e.f0
    have h2 := writG_len A sh hi t e.f1
    simp only [writG, List.length_append, bytesOf_length, tot, List.length_cons]
    have h3 : (t.length + 1 + 1) * tot A = (t.length + 1) * tot A + tot A := by rw [Nat.add_mul (t.length + 1) 1, Nat.one_mul]
    omega
/-- A group, and what is left behind it. -/
structure CStep (n m : Int) (a b : List S42) (sh : Int) (S : GS) : Prop where
  lo0 : 0 ≤ S.lo
  lo : 0 ≤ S.lo - sh ∧ S.lo - sh ≤ n
  hi : 0 ≤ S.hi - S.sh ∧ S.hi - S.sh ≤ n
  ci : CI n m S.a S.b S.sh
  ln : S.a.length + S.b.length + 1 ≤ a.length + b.length ∧ S.a.length ≤ a.length ∧ S.b.length ≤ b.length
  ta : tot S.a ≤ tot a
  tb : tot S.b ≤ tot b
  tx : (writG S.first S.hi S.second S.lo).length ≤ (b.length + 1) * tot a + tot b
  gr : ∀ k, groups (k + 1) (a.map edOf) (b.map edOf) sh = edOf ⟨S.lo - sh, S.hi - S.sh, strOfNums (writG S.first S.hi S.second S.lo)⟩ :: groups k (S.a.map edOf) (S.b.map edOf) S.sh
theorem CI.step {n m : Int} {a b : List S42} {sh : Int} (h : CI n m a b sh) (hne : ¬ (a = [] ∧ b = [])) (S : GS) (hS : gS (a.length + b.length + 1) ⟨-1, 0, sh, [], [], a, b⟩ = S) : CStep n m a b sh S := by
  obtain ⟨q, h1, h2, h3, h4, h5⟩ := h.q
  have hm := h.hm
  have hne' : ¬ (a.map edOf = [] ∧ b.map edOf = []) := by simpa using hne
  obtain ⟨lo, hlo, hla, hlb⟩ := next_lo (a.map edOf) (b.map edOf) sh hne'
  have ha0 : ∀ e r, a = e :: r → 0 ≤ e.f0 + sh := by
    intro e r he
    have := cz_mem _ q h1 (edOf e) (by rw [he]; simp)
    have d1 : (edOf e).a = e.f0 := rfl
    rw [d1] at this
    omega
  have hb0 : ∀ f t, b = f :: t → 0 ≤ f.f0 := by
    intro f t hf
    have := cz_mem _ _ h4 (edOf f) (by rw [hf]; simp)
    have d1 : (edOf f).a = f.f0 := rfl
    rw [d1] at this
    omega
  obtain ⟨A2, g1, g2, g3⟩ := gS_gat0 sh a b hne ha0 hb0
  rw [hS] at g1 g2 g3
  have hqlo : q + sh ≤ lo := by
    rcases hlo with ⟨e, t, h, h6⟩ | ⟨f, s, h, h6, _⟩
    · rw [h] at h1
      have := h1.1
      omega
    · rw [h] at h4
      have := h4.1
      omega
  have hln : lo - sh ≤ n := by
    rcases hlo with ⟨e, t, h, h6⟩ | ⟨f, s, h, h6, h7⟩
    · rw [h] at h1
      have := h1.2.1
      have := h1.2.2.1
      omega
    · rw [h] at h4
      have b1 := h4.2.1
      have b2 := h4.2.2.1
      cases haa : a.map edOf with
      | nil =>
        rw [haa] at hm
        simp only [shOf] at hm
        omega
      | cons e t =>
        rw [haa] at h1
        have := h7 e t haa
        have := h1.2.1
        have := h1.2.2.1
        omega
  have hA : Cz n (lo - sh) (a.map edOf) := by
    cases haa : a.map edOf with
    | nil => exact hln
    | cons e t =>
      rw [haa] at h1
      have := hla e t haa
      exact ⟨by omega, h1.2⟩
  have hB : Cz m lo (b.map edOf) := by
    cases hbb : b.map edOf with
    | nil =>
      rcases hlo with ⟨e, t, h, h6⟩ | ⟨f, s, h, _⟩
      · have := cz_end n (a.map edOf) (lo - sh) sh hA
        show lo ≤ m
        omega
      · rw [hbb] at h; cases h
    | cons f t =>
      rw [hbb] at h4
      have := hlb f t hbb
      exact ⟨by omega, h4.2⟩
  obtain ⟨s1, s2, s3⟩ := gat0_spec n m (lo - sh) sh lo (by omega) (by omega) (a.map edOf) (b.map edOf) hA hB hm hlo
  have s2a := s2.ha
  have s2b := s2.hb
  have s2m := s2.hm
  have s2g := s2.gat
  have s2sA := s2.stopA
  have s2sB := s2.stopB
  rw [g3] at s1 s2a s2b s2m s2g s2sA s2sB s3
  simp only at s1 s2a s2b s2m s2g s2sA s2sB s3
  have haa : A2 ++ S.a = a := map_edOf_inj (by rw [List.map_append]; exact s2a)
  have hbb : S.second ++ S.b = b := map_edOf_inj (by rw [List.map_append]; exact s2b)
  have hsh : shOf sh (A2.map edOf) = S.sh := by rw [shOf_edOf, g2]
  rw [hsh] at s2sA
  have hql := q_le n (A2.map edOf) (lo - sh) sh S.hi (by rw [← s2a] at hA; exact Cz.left hA hln) (fun f t hm => (s2g.fs_ f t hm).2) (by have := s2g.le_; omega)
  rw [hsh] at hql
  have hmS : m = n + shOf S.sh (S.a.map edOf) := by rw [hm, ← s2a, shOf_append, hsh]
  have hhi : S.hi - S.sh ≤ n := by
    cases hsa : S.a.map edOf with
    | nil =>
      rw [hsa] at hmS
      simp only [shOf] at hmS
      omega
    | cons e t =>
      have := s2sA e t hsa
      have := cz_mem _ _ hA e (by rw [← s2a, hsa]; simp)
      omega
  have e1 : a.length = A2.length + S.a.length := by rw [← haa, List.length_append]
  have e2 : b.length = S.second.length + S.b.length := by rw [← hbb, List.length_append]
  have t1 : tot a = tot A2 + tot S.a := by rw [← haa, tot_both]
  have t2 : tot b = tot S.second + tot S.b := by rw [← hbb, tot_both]
  simp only [List.length_map] at s3
  have hle := s2g.le_
  refine ⟨by omega, by omega, by omega, ⟨⟨S.hi - S.sh, ?_, by omega, hhi, ?_, by omega⟩, hmS⟩, by omega, by omega, by omega, ?_, ?_⟩
  · have hr := cz_right n (A2.map edOf) (S.a.map edOf) (lo - sh) (by rw [s2a]; exact hA)
    exact Ch.cz (ch_from n _ (lo - sh) _ hr (fun e t he => by have := s2sA e t he; omega)) hhi
  · rw [show S.hi - S.sh + S.sh = S.hi by omega]
    have hr := cz_right m (S.second.map edOf) (S.b.map edOf) lo (by rw [s2b]; exact hB)
    exact Ch.cz (ch_from m _ lo _ hr (fun e t he => s2sB e t he)) s2m
  · rw [g1]
    have := writG_len A2 sh S.hi S.second S.lo
    have h6 : (S.second.length + 1) * tot A2 ≤ (b.length + 1) * tot a := Nat.mul_le_mul (by omega) (by omega)
    omega
  · intro k
    simp only [groups]
    rw [if_neg hne', g3, hsh]
    congr 1
    rw [g1, writ_str]
    rfl
end Go.Proofs.Ytaihajmdngoeiaa.Q

-- edits.Compose (30), walked by hand
namespace Go.Proofs.Ytaihajmdngoeiaa.F
open Go.RowKit Go.Proofs.YtaihajmdngoeiaaW.PrintWords Go.Proofs.YtaihajmdngoeiaaW.PrintLast Go.Proofs.YtaihajmdngoeiaaW.PrintMore
open Go.Proofs.Ytaihajmdngoeiaa.Q
set_option linter.unusedVariables false
set_option linter.unusedSimpArgs false

/-- Between the groups of Compose. -/
structure CO (w0 W : World) (g : Nat) (n m : Int) (L : List S42) (kq : Nat) (a b : List S42) (sh : Int) (vo : Value) (out : List S42) : Prop where
  bx : CBx w0 W g a b sh vo
  ro : Kd.R k42 42 W w0.heap.size (fun k => k ≠ g) vo out
  hb : Below w0.heap.size w0 W
  g0 : w0.heap.size ≤ g
  ci : CI n m a b sh
  ta : tot a ≤ 1048576
  tb : tot b ≤ 1048576
  la : a.length ≤ 65536
  lb : b.length ≤ 65536
  lo : out.length + kq ≤ 131073
  lk : a.length + b.length + 1 ≤ kq
  sp : out ++ (groups kq (a.map edOf) (b.map edOf) sh).map toS = L
theorem CBx.lt {w0 W : World} {g : Nat} {a b : List S42} {sh : Int} {vo : Value} (h : CBx w0 W g a b sh vo) : g < W.heap.size := by
  obtain ⟨Aa, ca, Ab, cb, x, _⟩ := h
  exact blk_lt x
theorem CO.mr {w0 W : World} {g : Nat} {n m : Int} {L : List S42} {kq : Nat} {a b : List S42} {sh : Int} {vo : Value} {out : List S42} (h : CO w0 W g n m L kq a b sh vo out) : MR w0 W W g a b sh [] [] (.slice none 0 0) (.slice none 0 0) vo out :=
  ⟨h.bx, Kd.R_nil _ _ _ _ _, Kd.R_nil _ _ _ _ _, Kd.R_mono (Kd.R_bound h.ro) (fun k hk => ⟨hk.1, hk.2.2.1⟩), h.hb, h.g0, h.bx.lt, Nat.le_refl _⟩
theorem CO.next {w0 W W1 : World} {g : Nat} {n m : Int} {L : List S42} {kq : Nat} {a b : List S42} {sh : Int} {vo vo1 : Value} {out : List S42} (h : CO w0 W g n m L (kq + 1) a b sh vo out) {S : GS} (hs : CStep n m a b sh S)
    (hx : CBx w0 W1 g S.a S.b S.sh vo1) (hr : Kd.R k42 42 W1 w0.heap.size (fun k => k ≠ g) vo1 (out ++ [⟨S.lo - sh, S.hi - S.sh, strOfNums (writG S.first S.hi S.second S.lo)⟩])) (hb : Below w0.heap.size w0 W1) :
    CO w0 W1 g n m L kq S.a S.b S.sh vo1 (out ++ [⟨S.lo - sh, S.hi - S.sh, strOfNums (writG S.first S.hi S.second S.lo)⟩]) := by
  have h1 := h.lo
  have h2 := h.lk
  have h3 := hs.ln
  refine ⟨hx, hr, hb, h.g0, hs.ci, Nat.le_trans hs.ta h.ta, Nat.le_trans hs.tb h.tb, Nat.le_trans h3.2.1 h.la, Nat.le_trans h3.2.2 h.lb, ?_, by omega, ?_⟩
  · rw [List.length_append, List.length_singleton]
    omega
  · have := h.sp
    rw [hs.gr, List.map_cons, toS_edOf] at this
    rw [← this]
    simp
theorem CO.end_ {w0 W : World} {g : Nat} {n m : Int} {L : List S42} {kq : Nat} {sh : Int} {vo : Value} {out : List S42} (h : CO w0 W g n m L kq [] [] sh vo out) : out = L := by
  have h1 := h.sp
  have h2 := h.lk
  obtain ⟨k, rfl⟩ : ∃ k, kq = k + 1 := ⟨kq - 1, by simp only [List.length_nil] at h2; omega⟩
  simpa [groups] using h1
def edits_Compose.f (k : Nat) (a0 : Int) (a b : List S42) : Option (List S42 × Int) := if tot a ≤ 1048576 ∧ tot b ≤ 1048576 then some (compSpec a0 a b) else none
set_option maxRecDepth 100000 in
set_option maxHeartbeats 20000000 in
theorem edits_Compose.calls (k : Nat) (a0 : Int) (A1 : Option Addr) (c1 : Nat) (l1 : List S42) (A2 : Option Addr) (c2 : Nat) (l2 : List S42) (r1 : List S42) (r2 : Int) (w : World) (hr1 : Kd.C k42 w A1 l1.length l1) (hc1 : l1.length ≤ c1) (hr2 : Kd.C k42 w A2 l2.length l2) (hc2 : l2.length ≤ c2) (h : edits_Compose.f k a0 l1 l2 = some (r1, r2)) :
    Calls Try.prog 30 #[.int .i64 a0, .slice A1 l1.length c1, .slice A2 l2.length c2] w fun e w' => ∃ v0_ : Value, e = .returned (.tuple #[v0_, .int .i64 r2]) ∧ Kd.R k42 42 w' w.heap.size (fun _ => True) v0_ r1 ∧ Below w.heap.size w w' := by
  have hu22 := Try.underlying22
  have hu42 := Try.underlying42
  unfold edits_Compose.f at h
  have hsz : tot l1 ≤ 1048576 ∧ tot l2 ≤ 1048576 := Classical.byContradiction fun hh => by rw [if_neg hh] at h; cases h
  rw [if_pos hsz] at h
  have h' := Option.some.inj h
  clear h
  unfold compSpec at h'
  have HS := Aside0.mk hsz
  have HR1 := Aside0.mk hr1
  have HC1 := Aside0.mk hc1
  have HR2 := Aside0.mk hr2
  have HC2 := Aside0.mk hc2
  obtain ⟨k1, hk1⟩ := (Valid_is a0 l1).rounds
  have HV1 := Aside0.mk hk1
  clear hsz hr1 hc1 hr2 hc2 hk1
  by_cases q1 : Vspec a0 l1 = 0
  · rw [if_pos q1] at h'
    rw [q1] at HV1
    obtain ⟨z0, zn, zl, zc⟩ := Vspec_zero q1
    obtain ⟨y0, y1, y2⟩ := new_size a0 z0 zn l1 zc (by have := HS.out.1; omega)
    obtain ⟨k2, hk2⟩ := (left_is a0 z0 zn l1 zl).rounds
    rw [y2] at hk2 h'
    obtain ⟨k3, hk3⟩ := (valid_is (a0 + sumG l1) l2).rounds
    have HV2 := Aside0.mk hk2
    have HV3 := Aside0.mk hk3
    clear hk2 hk3
    by_cases q2 : vspec (a0 + sumG l1) l2 = 0
    · rw [if_pos q2] at h'
      rw [q2] at HV3
      obtain ⟨xl, xc⟩ := vspec_zero q2
      have hco : ∀ (W : World) (g : Nat), CBx w W g l1 l2 0 (.slice none 0 0) → Below w.heap.size w W → w.heap.size ≤ g → CO w W g a0 (a0 + sumG l1) (compL a0 l1 l2) (l1.length + l2.length + 1) l1 l2 0 (.slice none 0 0) [] := by
        intro W g hx hb hg
        have hA := Ok.cz (chain_ok zc) z0
        have hob : Ok (rowE a0 (l1.map edOf)).1.length (l2.map edOf) := by rw [rowE_len a0 z0 l1 none zc]; exact chain_ok xc
        refine ⟨hx, Kd.R_nil _ _ _ _ _, hb, hg, ⟨⟨0, hA, Int.le_refl _, z0, Ok.cz (chain_ok xc) y0, by omega⟩, by rw [shOf_edOf]; omega⟩, HS.out.1, HS.out.2, zl, xl, by simp only [List.length_nil]; omega, Nat.le_refl _, ?_⟩
        unfold compL
        rw [cmpE_groups a0 z0 (l1.map edOf) (l2.map edOf) (chain_ok zc) hob (l1.length + l2.length) (by simp only [List.length_map]; omega)]
        rfl
      have HCO := Aside0.mk hco
      have HM := Aside0.mk h'
      have HY := Aside0.mk (show a0 + sumG l1 ≤ 4700000000000000000 by have h1 := sumG_tot zc; have h2 := HS.out.1; omega)
      have HZ := Aside0.mk (show a0 ≤ 4700000000000000000 by omega)
      clear h' hco q1 q2 z0 zn zl zc y0 y1 y2 xl xc
      obtain ⟨L, hL⟩ : ∃ L, compL a0 l1 l2 = L := ⟨_, rfl⟩
      obtain ⟨m, hm⟩ : ∃ m, a0 + sumG l1 = m := ⟨_, rfl⟩
      rw [hL] at HCO HM
      rw [hm] at HCO HV2 HV3 HY
      clear hL hm
      go_enter Try.func30, Try.ntmps30
      go_wp2_with fail
      refine (edits_Valid.calls k1 a0 A1 c1 l1 0 _ HR1.out HC1.out HV1.out).mono ?_
      rintro e w1 ⟨rfl, hb1⟩
      have HB1 := Aside0.mk hb1
      clear hb1
      go_wp2_with fail
      refine (edits_left.calls k2 a0 A1 c1 l1 _ _ (Kd.C_below HR1.out HB1.out) HC1.out HV2.out).mono ?_
      rintro e w2 ⟨rfl, hb2⟩
      have HB2 := Aside0.mk (below_step HB1.out hb2)
      clear hb2
      go_wp2_with fail
      refine (edits_valid.calls k3 m A2 c2 l2 0 _ (Kd.C_below HR2.out HB2.out) HC2.out HV3.out).mono ?_
      rintro e w3 ⟨rfl, hb3⟩
      have HB3 := Aside0.mk (below_step HB2.out hb3)
      clear hb3 HB1 HB2
      go_upto_block 0 with (fail)
      obtain ⟨g, hg⟩ : ∃ g, w3.heap.size = g := ⟨_, rfl⟩
      obtain ⟨W, hW⟩ : ∃ W, W = w3.alloc (Obj.cells #[Value.slice A1 l1.length c1, Value.slice A2 l2.length c2, Value.int IntKind.i64 0, Value.slice none 0 0] 58) := ⟨_, rfl⟩
      rw [← hW, hg]
      have HC := Aside0.mk (HCO.out W g ⟨A1, c1, A2, c2, by rw [hW, ← hg]; exact blk_new _ _, HR1.out, HC1.out, HR2.out, HC2.out⟩ (by rw [hW]; exact below_alloc HB3.out _) (by rw [← hg]; exact HB3.out.size))
      clear hW hg HCO HB3 HV1 HV2 HV3 HS HR1 HR2
      go_wp2_with fail
      go_loopg [] (l1.length + l2.length + 1) (fun kq w' => Aside0 (∃ a b sh vo out, CO w w' g a0 m L kq a b sh vo out))
      case atStart => exact ⟨⟨_, _, _, _, _, HC.out⟩⟩
      case round =>
        clear HC
        have HC := hrel
        obtain ⟨a, b, sh, vo, out, hC⟩ := HC.out
        clear HC
        obtain ⟨Aa, ca, Ab, cb, xg, CA, la, CB, lb⟩ := hC.bx
        obtain ⟨na, hna⟩ : ∃ n, n = a.length := ⟨_, rfl⟩
        obtain ⟨nb, hnb⟩ : ∃ n, n = b.length := ⟨_, rfl⟩
        rw [← hna, ← hnb] at xg
        have m0 : wr.cell? ⟨g, 0, none⟩ = some (.slice Aa na ca) := (blk_cell xg 0).trans rfl
        have m1 : wr.cell? ⟨g, 1, none⟩ = some (.slice Ab nb cb) := (blk_cell xg 1).trans rfl
        have m3 : wr.cell? ⟨g, 3, none⟩ = some vo := (blk_cell xg 3).trans rfl
        have HC := Aside0.mk hC
        have NA := Aside0.mk hna
        have NB := Aside0.mk hnb
        clear hC xg CA la CB lb hna hnb
        by_cases hab : a = [] ∧ b = []
        · obtain ⟨rfl, rfl⟩ := hab
          have h1 := NA.out
          have h2 := NB.out
          simp only [List.length_nil] at h1 h2
          subst h1
          subst h2
          have hL := HC.out.end_
          subst hL
          obtain ⟨Ao, co, eo, hco, hCo⟩ := Kd.R_reads HC.out.ro
          subst eo
          obtain ⟨no, hno⟩ : ∃ n, n = out.length := ⟨_, rfl⟩
          have hm := HM.out
          rw [← hno] at m3 hm
          by_cases hbig : (no : Int) > 65536
          · have d1 : decide ((65536 : Int) < (no : Int)) = true := decide_eq_true hbig
            have d2 : decide (65536 < no) = true := decide_eq_true (by omega)
            rw [if_pos hbig] at hm
            obtain ⟨rfl, rfl⟩ := Prod.mk.inj hm
            clear hm hbig hno
            go_wp2
            go_ret2
            exact ⟨_, rfl, Kd.R_nil _ _ _ _ _, HC.out.hb⟩
          · have d1 : decide ((65536 : Int) < (no : Int)) = false := decide_eq_false hbig
            have d2 : decide (65536 < no) = false := decide_eq_false (by omega)
            rw [if_neg hbig] at hm
            obtain ⟨rfl, rfl⟩ := Prod.mk.inj hm
            have HNO := Aside0.mk hno
            clear hm hbig hno
            go_wp2
            go_ret2
            refine ⟨_, rfl, ?_, HC.out.hb⟩
            rw [HNO.out]
            exact Kd.R_mono HC.out.ro (fun _ _ => trivial)
        · have hz := CI.step HC.out.ci hab _ rfl
          obtain ⟨S, hS⟩ : ∃ S, gS (a.length + b.length + 1) ⟨-1, 0, sh, [], [], a, b⟩ = S := ⟨_, rfl⟩
          rw [hS] at hz
          have hx : ∃ k, gk = k + 1 := ⟨gk - 1, by have := HC.out.lk; omega⟩
          have hsr := HC.out.ci.sr HZ.out HY.out HC.out.ta ⟨by have := HC.out.la; omega, by have := HC.out.lb; omega⟩
          have hgr := group.calls g a b sh vo out a0 m w wr HY.out HZ.out HC.out.mr hsr (by have := HC.out.lo; omega) S hS
            (by have h1 := hz.lo; have h2 := hz.hi; have h3 := HZ.out; exact ⟨by omega, by omega, by omega, by omega⟩)
            (by
              have h1 := hz.tx
              have h2 : (b.length + 1) * tot a ≤ 65537 * 1048576 := Nat.mul_le_mul (by have := HC.out.lb; omega) HC.out.ta
              have h3 := HC.out.tb
              omega) hz.lo0
          have HG := Aside0.mk hgr
          have HX := Aside0.mk hz
          have HK := Aside0.mk hx
          have HAB := Aside0.mk hab
          clear hgr hz hx hS hsr
          by_cases ha : 0 < na
          · have d1 : decide (0 < na) = true := decide_eq_true ha
            have d2 : decide (0 < (na : Int)) = true := decide_eq_true (by omega)
            clear ha hab
            go_wp2_with fail
            refine HG.out.mono ?_
            rintro e W1 ⟨⟨x, rfl⟩, vo1, hx1, hr1, hb1⟩
            obtain ⟨k', rfl⟩ := HK.out
            have HN := Aside0.mk (HC.out.next HX.out hx1 hr1 hb1)
            clear hx1 hr1 hb1 m0 m1 m3
            go_wp2
            go_roundg k'
            case measure => omega
            case rel => exact ⟨⟨_, _, _, _, _, HN.out⟩⟩
          · have hna0 : na = 0 := by omega
            have hb0 : 0 < nb := by
              rcases Nat.eq_zero_or_pos nb with h | h
              · exact absurd ⟨List.eq_nil_of_length_eq_zero (by rw [← NA.out, hna0]), List.eq_nil_of_length_eq_zero (by rw [← NB.out, h])⟩ hab
              · exact h
            have NA0 := Aside0.mk hna0
            have d1 : decide (0 < na) = false := decide_eq_false ha
            have d2 : decide (0 < (na : Int)) = false := decide_eq_false (by omega)
            have d3 : decide (0 < nb) = true := decide_eq_true hb0
            have d4 : decide (0 < (nb : Int)) = true := decide_eq_true (by omega)
            clear ha hab hna0 hb0
            go_wp2_with fail
            refine HG.out.mono ?_
            rintro e W1 ⟨⟨x, rfl⟩, vo1, hx1, hr1, hb1⟩
            obtain ⟨k', rfl⟩ := HK.out
            have HN := Aside0.mk (HC.out.next HX.out hx1 hr1 hb1)
            clear hx1 hr1 hb1 m0 m1 m3
            go_wp2
            go_roundg k'
            case measure => omega
            case rel => exact ⟨⟨_, _, _, _, _, HN.out⟩⟩
    · rw [if_neg q2] at h'
      obtain ⟨rfl, rfl⟩ := Prod.mk.inj h'
      obtain ⟨m, hm⟩ : ∃ m, a0 + sumG l1 = m := ⟨_, rfl⟩
      rw [hm] at HV2 HV3 q2 ⊢
      obtain ⟨e2, he2⟩ : ∃ e, vspec m l2 = e := ⟨_, rfl⟩
      rw [he2] at HV3 q2 ⊢
      have cc2 : (e2 != 0) = true := bne_iff_ne.mpr q2
      clear h' q1 q2 z0 zn zl zc y0 y1 y2 hm he2 HS
      go_enter Try.func30, Try.ntmps30
      go_wp2_with fail
      refine (edits_Valid.calls k1 a0 A1 c1 l1 0 _ HR1.out HC1.out HV1.out).mono ?_
      rintro e w1 ⟨rfl, hb1⟩
      have HB1 := Aside0.mk hb1
      clear hb1
      go_wp2_with fail
      refine (edits_left.calls k2 a0 A1 c1 l1 _ _ (Kd.C_below HR1.out HB1.out) HC1.out HV2.out).mono ?_
      rintro e w2 ⟨rfl, hb2⟩
      have HB2 := Aside0.mk (below_step HB1.out hb2)
      clear hb2
      go_wp2_with fail
      refine (edits_valid.calls k3 m A2 c2 l2 _ _ (Kd.C_below HR2.out HB2.out) HC2.out HV3.out).mono ?_
      rintro e w3 ⟨rfl, hb3⟩
      have HB3 := Aside0.mk (below_step HB2.out hb3)
      clear hb3
      go_wp2
      go_ret2
      exact ⟨_, rfl, Kd.R_nil _ _ _ _ _, HB3.out⟩
  · rw [if_neg q1] at h'
    obtain ⟨rfl, rfl⟩ := Prod.mk.inj h'
    obtain ⟨e1, he1⟩ : ∃ e, Vspec a0 l1 = e := ⟨_, rfl⟩
    rw [he1] at HV1 q1 ⊢
    have cc1 : (e1 != 0) = true := bne_iff_ne.mpr q1
    clear h' q1 he1 HS
    go_enter Try.func30, Try.ntmps30
    go_wp2_with fail
    refine (edits_Valid.calls k1 a0 A1 c1 l1 _ _ HR1.out HC1.out HV1.out).mono ?_
    rintro e w1 ⟨rfl, hb1⟩
    have HB1 := Aside0.mk hb1
    clear hb1
    go_wp2
    go_ret2
    exact ⟨_, rfl, Kd.R_nil _ _ _ _ _, HB1.out⟩
end Go.Proofs.Ytaihajmdngoeiaa.F

namespace Go.Proofs.Ytaihajmdngoeiaa.Q
open Go.RowKit Go.Proofs.YtaihajmdngoeiaaW.PrintWords Go.Proofs.YtaihajmdngoeiaaW.PrintLast Go.Proofs.YtaihajmdngoeiaaW.PrintMore
open Go.Proofs.Ytaihajmdngoeiaa.F

theorem same_loop (l : List S42) (hl : l.length ≤ 9223372036854775807) (d : Nat) : ∀ i, i ≤ l.length → l.length - i = d →
    Ev (fun k => monikerplain_SameEdits.l0 k l l (l.length : Int) (i : Int)) true := by
  induction d with
  | zero =>
    intro i h1 h2
    refine ⟨1, fun n hn => ?_⟩
    obtain ⟨k, rfl⟩ : ∃ m, n = m + 1 := ⟨n - 1, by omega⟩
    simp only [monikerplain_SameEdits.l0]
    rw [if_neg (by omega)]
  | succ d ih =>
    intro i h1 h2
    obtain ⟨K, hK⟩ := ih (i + 1) (by omega) (by omega)
    refine ⟨K + 1, fun n hn => ?_⟩
    obtain ⟨k, rfl⟩ : ∃ m, n = m + 1 := ⟨n - 1, by omega⟩
    simp only [monikerplain_SameEdits.l0]
    rw [if_pos (by omega), if_pos (by omega), if_pos (by omega), if_pos (by omega), if_neg (by simp), show wrap64 ((i : Int) + 1) = ((i + 1 : Nat) : Int) by unfold wrap64; omega]
    exact hK k (by omega)
theorem same_is (l : List S42) (hl : l.length ≤ 9223372036854775807) : Ev (fun k => monikerplain_SameEdits.f k l l) true := by
  unfold monikerplain_SameEdits.f
  simp only [↓reduceIte]
  exact same_loop l hl l.length 0 (by omega) (by omega)
end Go.Proofs.Ytaihajmdngoeiaa.Q

namespace Go.Proofs.Ytaihajmdngoeiaa.H
open Go.RowKit Go.Proofs.YtaihajmdngoeiaaW.PrintWords Go.Proofs.YtaihajmdngoeiaaW.PrintLast Go.Proofs.YtaihajmdngoeiaaW.PrintMore
open Go.Proofs.Ytaihajmdngoeiaa.F
set_option linter.unusedVariables false
set_option linter.unusedSimpArgs false

def marks : List S42 := [⟨-9, 0, ⟨#[114, 111, 111, 109]⟩⟩, ⟨-8, 0, ⟨#[]⟩⟩, ⟨0, -7, ⟨#[]⟩⟩]
def LentPost (l : List S42) (w : World) (e : Ending) (w' : World) : Prop :=
  ∃ A, e = .returned (.slice A l.length (l.length + 3)) ∧ Kd.C k42 w' A (l.length + 3) (l ++ marks) ∧ Below w.heap.size w w'

/-- The cells of a row that came in, whatever its address. -/
theorem row_cells {w : World} {A : Option Addr} {l : List S42} (hr : Kd.C k42 w A l.length l) :
    ∃ inner, Reps (k42.K w) 3 l inner ∧ (A = none → l.length = 0) ∧ ∀ ad, A = some ad → ∀ j u, inner[j]? = some u → w.cell? (ad.add j) = some u := by
  cases A with
  | none =>
    have h0 : l.length = 0 := by
      rcases Nat.eq_zero_or_pos l.length with h | h
      · exact h
      · obtain ⟨ad, e, _⟩ := hr.2.2 h
        cases e
    obtain rfl := List.eq_nil_of_length_eq_zero h0
    exact ⟨[], Reps.none _ _, fun _ => h0, (fun ad e => by cases e)⟩
  | some ad =>
    obtain ⟨inner, h1, h2⟩ := ReadsRow.inner_ (R := k42.K w) (size := 3) hr
    exact ⟨inner, h1, (fun e => by cases e), fun ad2 e => by cases e; exact h2⟩

theorem row_one {w : World} {l : List S42} {inner : List Value} (h : Reps (k42.K w) 3 l inner) : ∀ u ∈ inner, u.oneCell' = true := by
  intro u hu
  obtain ⟨i, hi, rfl⟩ := List.mem_iff_getElem.1 hu
  have hj : i / 3 < l.length := by have := h.1; omega
  have hk := h.2 (i / 3) (l[i / 3]'hj) (List.getElem?_eq_getElem hj)
  refine k42.K_one hk _ ?_
  rw [List.mem_iff_getElem]
  refine ⟨i % 3, by rw [List.length_take, List.length_drop]; have := h.1; omega, ?_⟩
  rw [List.getElem_take, List.getElem_drop]
  congr 1
  omega

def mcells : List Value := [.int .i64 (-9), .int .i64 0, .string ⟨#[114, 111, 111, 109]⟩, .int .i64 (-8), .int .i64 0, .string ⟨#[]⟩, .int .i64 0, .int .i64 (-7), .string ⟨#[]⟩]
theorem mcell (w2 : World) (j : Nat) (u : Value) (hu : mcells[j]? = some u) : (w2.alloc (.cells mcells.toArray 42)).cell? ((⟨w2.heap.size, 0, none⟩ : Addr).add j) = some u := by
  rw [add_plain]
  rw [World.cell?_alloc_new]; simpa using hu
theorem mcells_one : ∀ u ∈ mcells, u.oneCell' = true := by
  simp [mcells, Value.oneCell']
theorem reps_marks (w : World) : Reps (k42.K w) 3 marks mcells := by
  refine ⟨rfl, fun j p hj => ?_⟩
  match j, hj with
  | 0, hj => cases hj; exact k42_mk w _
  | 1, hj => cases hj; exact k42_mk w _
  | 2, hj => cases hj; exact k42_mk w _
  | j + 3, hj => simp [marks] at hj
theorem Reps.app {α : Type} {R : α → List Value → Prop} {size : Nat} {ps qs : List α} {cs ds : List Value} (h : Reps R size ps cs) (k : Reps R size qs ds) : Reps R size (ps ++ qs) (cs ++ ds) := by
  refine ⟨by rw [List.length_append, h.1, k.1, List.length_append, Nat.add_mul], fun j q hq => ?_⟩
  rcases Nat.lt_or_ge j ps.length with hj | hj
  · rw [List.getElem?_append_left hj] at hq
    have h1 : j * size + size ≤ cs.length := by rw [h.1, ← Nat.succ_mul]; exact Nat.mul_le_mul_right _ hj
    have h2 := h.2 j q hq
    rw [List.drop_append_of_le_length (by omega), List.take_append_of_le_length (by rw [List.length_drop]; omega)]
    exact h2
  · rw [List.getElem?_append_right hj] at hq
    have h2 := k.2 _ q hq
    have e : j * size = cs.length + (j - ps.length) * size := by rw [h.1, ← Nat.add_mul]; congr 1; omega
    rw [e, List.drop_append, List.drop_eq_nil_of_le (by omega), List.nil_append, Nat.add_sub_cancel_left]
    exact h2
theorem Kd.C_of_own42 {w w3 : World} {base g c : Nat} {l : List S42} {inner : List Value} (hR : Reps (k42.K w) 3 l inner) (h : w3.ownsRow base 42 3 (.slice (some ⟨g, 0, none⟩) (l.length + 3) c) (l.length + 3) (inner ++ mcells)) :
    Kd.C k42 w3 (some ⟨g, 0, none⟩) (l.length + 3) (l ++ marks) := by
  have hk : ∀ (p : S42) cs, k42.K w p cs → k42.K w3 p cs := fun p cs h => by rw [k42_open h]; exact k42_mk w3 p
  obtain ⟨A, c', he, hrow⟩ := own_reads_row (R := k42.K w3) (ps := l ++ marks) h (Reps.app (Reps.imp_ hR hk) (reps_marks w3)) (by simp [marks])
  injection he with h1 _ _
  subst h1
  exact hrow

set_option maxHeartbeats 1000000 in
theorem lent_calls (A0 : Option Addr) (c0 : Nat) (l : List S42) (w : World) (hr : Kd.C k42 w A0 l.length l) (hc : l.length ≤ c0) (hn : A0 = none → c0 = 0) (hb : l.length * 32 ≤ 140737488351232) :
    Calls Try.prog 15 #[.slice A0 l.length c0] w (LentPost l w) := by
  have hu42 := Try.underlying42
  obtain ⟨i, hi, hz0, hz1, hz2⟩ := info_parts info42
  obtain ⟨inner, hR, hA, hcell⟩ := row_cells hr
  have HR := Aside0.mk hR
  have hlen : inner.length = l.length * 3 := hR.1
  have HL := Aside0.mk hlen
  have HC := Aside0.mk hcell
  have HN := Aside0.mk hn
  have HA := Aside0.mk hA
  have HB2 := Aside0.mk hz2
  have HI := Aside0.mk hi
  have HZ0 := Aside0.mk hz0
  have HZ1 := Aside0.mk hz1
  clear hR hcell hr hn hA hlen hz2 hi hz0 hz1
  have hl : l.length ≤ 4398046510976 := by omega
  go_enter Try.func15, Try.ntmps15
  go_wp2_with (first
    | ((with_reducible refine gate_dst (N := 7) rfl ?_); refine wpList_make_own _ rfl _ _ 22 rfl w.heap.size 42 i _ 3 Try.underlying22 HI.out HZ0.out HZ1.out _ _ _ (l.length + 3) rfl rfl (by first | rfl | (simp; done) | omega) (by rw [HB2.out]; omega) (by unfold maxLen; omega) (Nat.le_refl _) ?_; intro w1 hown1 hg1; have HO1 := Aside0.mk hown1; have HG1 := Aside0.mk hg1; clear hown1 hg1)
    | ((with_reducible refine gate_dst (N := 10) rfl ?_); refine wpList_append_fits_any _ rfl _ _ 22 rfl w.heap.size 42 i 3 Try.underlying22 HI.out HZ1.out w.heap.size 0 (l.length + 3) [] rfl HO1.out A0 l.length c0 inner rfl HL.out (fun e => ⟨HA.out e, HN.out e⟩) (fun ad e j u hu => HG1.out.cell (HC.out ad e j u hu) (by simp)) (row_one HR.out) (by omega) ?_; intro w2 hown2 hg2; simp only [Nat.zero_add, List.nil_append] at hown2; have HO2 := Aside0.mk hown2; have HG2 := Aside0.mk hg2; clear hown2 hg2; rw [Nat.zero_add])
    | ((with_reducible refine gate_dst (N := 16) rfl ?_); refine wpList_append_fits _ rfl _ _ 22 rfl w.heap.size 42 i 3 Try.underlying22 HI.out HZ1.out w.heap.size l.length (l.length + 3) inner rfl (HO2.out.alloc _) ⟨w2.heap.size, 0, none⟩ 3 3 mcells rfl rfl (fun j u hu => mcell w2 j u hu) mcells_one (by omega) ?_; intro w3 hown3 hg3; have HO3 := Aside0.mk hown3; have HG3 := Aside0.mk hg3; clear hown3 hg3))
  go_ret
  obtain ⟨o1, o2⟩ := HO3.out
  refine ⟨_, rfl, ?_, ?_⟩
  · refine Kd.C_of_own42 HR.out HO3.out
  · have b1 := (Below.refl w.heap.size w).grown HG1.out (Nat.le_refl _) (by simp)
    have b2 := b1.grown HG2.out b1.size (by rintro k ⟨⟩; exact Nat.le_refl _)
    have b3 := b2.alloc b2.size (.cells mcells.toArray 42)
    exact b3.grown HG3.out (Nat.le_trans b2.size (by simp)) (by rintro k ⟨⟩; exact Nat.le_refl _)
end Go.Proofs.Ytaihajmdngoeiaa.H

namespace Go.Proofs.Ytaihajmdngoeiaa.H
open Go.RowKit Go.Proofs.YtaihajmdngoeiaaW.PrintWords Go.Proofs.YtaihajmdngoeiaaW.PrintLast Go.Proofs.YtaihajmdngoeiaaW.PrintMore
open Go.Proofs.Ytaihajmdngoeiaa.F
attribute [local go_sem high] eqA42
set_option linter.unusedVariables false
set_option linter.unusedSimpArgs false

theorem Kd.C_lent {w : World} {A : Option Addr} {l : List S42} (h : Kd.C k42 w A (l.length + 3) (l ++ marks)) : Kd.C k42 w A l.length l := by
  have h' : Kd.C k42 w A (l ++ marks).length (l ++ marks) := by rw [List.length_append]; exact h
  have h2 := Kd.C_take (m := l.length) h' (by simp)
  simpa using h2

set_option maxHeartbeats 1000000 in
theorem kept_calls (A0 : Option Addr) (A1 : Option Addr) (c1 : Nat) (l : List S42) (w : World) (hr : Kd.C k42 w A0 (l.length + 3) (l ++ marks)) (hr1 : Kd.C k42 w A1 l.length l) (hc1 : l.length ≤ c1) (hl : l.length ≤ 4398046511104) :
    Calls Try.prog 18 #[.slice A0 l.length (l.length + 3), .slice A1 l.length c1] w fun e w' => e = .returned (.bool true) ∧ Drawn0 w w' := by
  have hu42 := Try.underlying42
  obtain ⟨k, hk⟩ := (Q.same_is l (by omega)).rounds
  have HK := Aside0.mk hk
  have r0 : rd_T42 (l ++ marks) (l.length : Int) = ⟨-9, 0, ⟨#[114, 111, 111, 109]⟩⟩ := by simp [rd_T42, marks]
  have r1 : rd_T42 (l ++ marks) ((l.length : Int) + 1) = ⟨-8, 0, ⟨#[]⟩⟩ := by
    rw [rd_T42, show ((l.length : Int) + 1).toNat = l.length + 1 by omega]; simp [marks]
  have r2 : rd_T42 (l ++ marks) ((l.length : Int) + 2) = ⟨0, -7, ⟨#[]⟩⟩ := by
    rw [rd_T42, show ((l.length : Int) + 2).toNat = l.length + 2 by omega]; simp [marks]
  obtain ⟨ad, e0, x00, x01, x02⟩ := at_T42 hr (l.length : Int) (by omega) (by omega)
  subst e0
  obtain ⟨ad', e1, x10, x11, x12⟩ := at_T42 hr ((l.length : Int) + 1) (by omega) (by omega)
  cases e1
  obtain ⟨ad', e2, x20, x21, x22⟩ := at_T42 hr ((l.length : Int) + 2) (by omega) (by omega)
  cases e2
  rw [r0] at x00 x01 x02
  rw [r1] at x10 x11 x12
  rw [r2] at x20 x21 x22
  clear r0 r1 r2
  simp only [Int.toNat_natCast] at x00 x01 x02
  rw [show ((l.length : Int) + 1).toNat = l.length + 1 by omega] at x10 x11 x12
  rw [show ((l.length : Int) + 2).toNat = l.length + 2 by omega] at x20 x21 x22
  have HS := Aside0.mk (Kd.C_lent hr)
  have HR := Aside0.mk hr
  have HR1 := Aside0.mk hr1
  have HC1 := Aside0.mk hc1
  clear hk hr hr1 hc1
  go_enter Try.func18, Try.ntmps18
  go_wp2_with ((with_reducible refine gate_callee (f := 21) rfl ?_); refine goesL_ (some 8) rfl rfl Try.func21 (by kernel_rfl) rfl #[.slice (some ad) l.length (l.length + 3), .slice A1 l.length c1] rfl (by (try simp only [List.map_toArray, List.map_cons, List.map_nil]); first | done | rfl) ?_; (with_reducible refine (monikerplain_SameEdits.calls k _ _ l _ _ l true _ HS.out (by omega) HR1.out HC1.out HK.out).mono ?_); rintro e w' ⟨rfl, ⟨nd, rfl⟩⟩; refine ⟨_, rfl, ?_⟩)
  go_ret
  exact ⟨rfl, ⟨_, rfl⟩⟩
end Go.Proofs.Ytaihajmdngoeiaa.H

namespace Go.Proofs.Ytaihajmdngoeiaa.O
open Go.ChangeShapes Go.WideShapes Go.Deep Go.Proofs.YtaihajmdngoeiaaW.PrintWords

theorem mem_weightsAll {H : Type} {P : Program} {e : TypeId} : ∀ {l : List (DataW H)} {y : DataW H}, y ∈ l → ∀ n ∈ y.weights P e, n ∈ DataW.weightsAll P e l
  | y0 :: l, y, h, n, hn => by
    simp only [DataW.weightsAll, List.mem_append]
    rcases List.mem_cons.1 h with rfl | h
    · exact .inl hn
    · exact .inr (mem_weightsAll h n hn)

end Go.Proofs.Ytaihajmdngoeiaa.O

namespace Go.Proofs.Ytaihajmdngoeiaa.O
open Go.ChangeShapes Go.WideShapes Go.Deep Go.Proofs.YtaihajmdngoeiaaW.PrintWords Go.Proofs.Ytaihajmdngoeiaa
set_option linter.unusedVariables false

section
variable {H : Type} {enc : TypeId × Value → H}
/-- The wrap of a row with a condition of its specification's own, the reach handed on. -/
theorem returns_upto {a : Assume} {C : Checked} {os : Os} {f : FuncId} {fn : Func} {s : OpenSpec} {k : (H : Type) → List (DataW H) → Bool} (hk : s.cond = some k) {F : Stop.Interp} {conds : List PathCond} {apart fresh handsOn again : Bool}
    (own : ownKnob C.prog.godebug = none) (started : os.Started) (noInit : C.prog.inits.idxOf? f = none) (hfn : C.prog.funcs[f]? = some fn)
    (witness : ∃ (w : World) (tape : Tape) (i : Input), w.os = os ∧ (w.forCall tape i).Shaped C.prog ∧ i.vars = [] ∧ Input.okWide C.prog (w.forCall tape i) .any w.heap.size f i ∧
      s.pre6 enc C.prog fn conds apart (w.forCall tape i).memory i.args ∧ a.holds C.prog (lone (Frame.enter C.prog f i.args .normal) [] (w.forCall tape i)))
    (contract : ∀ (W : World) (base : Nat) (args : Array Value) (ds gs : List (DataW H)) (before : List MemPlace),
      (∀ (j : Nat) t v, fn.params[j]? = some t → args[j]? = some v → Value.okWide C.prog W .any base t v) →
      DataW.Whole enc C.prog fn.params.toList s.vars apart W args.toList ds gs before →
      conds.all (PathCond.test C.prog ⟨fn.params.toList, ds, s.bare.plain.varTypes C.prog, gs⟩) = true → k H (ds ++ gs) = true →
      (DataW.weightsEach C.prog (fn.params.toList ++ s.bare.plain.varTypes C.prog) (ds ++ gs)).all (· ≤ reachBytes) = true →
      a.holds C.prog (lone (Frame.enter C.prog f args .normal) [] W) →
      Calls C.prog f args W fun e W' => ∃ v, e = .returned v ∧ (s.at F).post enc C.prog fn apart fresh handsOn again W args v W') :
    ReturnsInHanded a C os f .any (s.pre6 enc C.prog fn conds apart) ((s.at F).post enc C.prog fn apart fresh handsOn again) := by
  refine returnsInHanded_of_calls own started noInit witness ?_
  intro w tape i _ _ _ hok hpre hholds
  obtain ⟨_, _, _, fn', hfn', _, _, _, _, hval⟩ := hok
  have e : fn' = fn := Option.some.inj (hfn'.symm.trans hfn)
  subst e
  obtain ⟨ds, gs, before, hw, hc, hkk⟩ := (OpenSpec.pre_some hk conds apart _ _).1 hpre.1
  have hw' := DataW.Whole.of_heap (w' := w.forCall tape i) (by rfl) hw
  have hz := hpre.2
  refine (contract (w.forCall tape i) w.heap.size i.args ds gs before hval hw' hc hkk (hz.weights hw) hholds).mono fun e W' ⟨v, he, hp⟩ => ?_
  subst he
  exact ChangeSpec.post_blind hp
end

theorem witnessU {H : Type} {enc : TypeId × Value → H} {C : Checked} {os : Os} {f : FuncId} {fn : Func} {s : OpenSpec} {k : (H : Type) → List (DataW H) → Bool} (hk : s.cond = some k) {conds : List PathCond} {apart : Bool} (modest : Bool) (i : Input) (fuel : Nat)
    (hv : (World.plainHolding C.prog os i).variablesB C.prog = true)
    (hr : ((World.plainHolding C.prog os i).heap.toList.drop C.prog.globals.size).take ((begin C.prog (fun _ _ => 0) default).world.heap.size - C.prog.globals.size) =
      (begin C.prog (fun _ _ => 0) default).world.heap.toList.drop C.prog.globals.size)
    (hok : Input.okWideB C.prog (World.plainHolding C.prog os i) f ⟨#[], i.args, []⟩ = true)
    (hB : (match DataW.whole enc C.prog (World.plainHolding C.prog os i).memory fn.params.toList s.vars apart i.args.toList fuel with
      | some x => conds.all (PathCond.test C.prog ⟨fn.params.toList, x.1, s.bare.plain.varTypes C.prog, x.2.1⟩) && k H (x.1 ++ x.2.1)
      | none => false) = true)
    (hsz : s.bare.sizedB enc C.prog fn apart (World.plainHolding C.prog os i).memory i.args fuel = true) :
    ∃ (w : World) (tape : Tape) (i : Input), w.os = os ∧ (w.forCall tape i).Shaped C.prog ∧ i.vars = [] ∧ Input.okWide C.prog (w.forCall tape i) .any w.heap.size f i ∧
      s.pre6 enc C.prog fn conds apart (w.forCall tape i).memory i.args ∧ ({ modest := modest } : Assume).holds C.prog (lone (Frame.enter C.prog f i.args .normal) [] (w.forCall tape i)) := by
  cases hx : DataW.whole enc C.prog (World.plainHolding C.prog os i).memory fn.params.toList s.vars apart i.args.toList fuel with
  | none => rw [hx] at hB; cases hB
  | some x =>
    rw [hx] at hB
    have h := (Bool.and_eq_true _ _).mp hB
    exact OpenSpec.witness hk modest i fuel hv hr hok hx h.1 h.2 hsz

/-- As Opens; and the value is no heavier than the reading's bulk. -/
def OpensU {α : Type} (P : Program) (t : TypeId) (d : Kd α) (B : α → Prop) (m : α → Nat) : Prop :=
  ∀ {H : Type} {enc : TypeId × Value → H} {w : World} {base : Nat} {spare : Nat → Bool} {held : Bool} {fuel : Nat} {cs : List Value} {x : DataW H × List MemPlace},
    DataW.trod enc P w base spare held fuel t cs = some x → (∀ n ∈ x.1.weights P t, n ≤ reachBytes) → ∃ a, d.K w a cs ∧ B a ∧ m a ≤ Rows.uptoBulk x.1

theorem opens_intU {P : Program} {t : TypeId} {k : IntKind} (hu : P.underlying t = some (.int k)) : OpensU P t (Kd.int k) (fun n => (Lit.int k n).wf = true) (fun _ => 1) := fun h _ => by
  obtain ⟨n, rfl, rfl, hw⟩ := DataW.trod_int hu h
  exact ⟨n, rfl, hw, by simp [Rows.uptoBulk]⟩
theorem opens_stringU {P : Program} {t : TypeId} (hu : P.underlying t = some .string) : OpensU P t Kd.string (fun s => s.size ≤ 140737488351232) (fun s => s.size + 1) := fun h hw => by
  obtain ⟨s, rfl, rfl, _⟩ := DataW.trod_string hu h
  have e : s.data.toList.length = s.size := by rw [Array.length_toList]; rfl
  refine ⟨s, rfl, ?_, by simp only [Rows.uptoBulk]; omega⟩
  have := hw s.data.toList.length (by simp [DataW.weights])
  rw [e] at this
  exact this

theorem bulkAll_snoc {H : Type} : ∀ (l : List (DataW H)) (d : DataW H), Rows.uptoBulkAll (l ++ [d]) = Rows.uptoBulkAll l + Rows.uptoBulk d
  | [], d => by simp [Rows.uptoBulkAll]
  | x :: l, d => by simp only [List.cons_append, Rows.uptoBulkAll, bulkAll_snoc l d]; omega
def sumM {α : Type} (m : α → Nat) : List α → Nat
  | [] => 0
  | a :: l => m a + sumM m l
theorem sumM_snoc {α : Type} (m : α → Nat) : ∀ (l : List α) (a : α), sumM m (l ++ [a]) = sumM m l + m a
  | [], a => by simp [sumM]
  | x :: l, a => by simp only [List.cons_append, sumM, sumM_snoc m l a]; omega

theorem open_rowU {α : Type} {P : Program} {t e : TypeId} {d : Kd α} {B : α → Prop} {M : α → Nat} (hu : P.underlying t = some (.slice e)) (he : OpensU P e d B M) (hc : P.cellsOf e = d.sz)
    {H : Type} {enc : TypeId × Value → H} {w : World} {base : Nat} {spare : Nat → Bool} {held : Bool} {fuel : Nat} {A : Option Addr} {n c : Nat} {x : DataW H × List MemPlace}
    (h : DataW.trod enc P w base spare held fuel t [.slice A n c] = some x) (hw : ∀ n ∈ x.1.weights P t, n ≤ reachBytes) :
    ∃ xs : List α, xs.length = n ∧ d.C w A n xs ∧ n ≤ c ∧ (A = none → c = 0) ∧ (∀ a ∈ xs, B a) ∧ n * P.bytesOf e ≤ 140737488351232 ∧ sumM M xs + 1 ≤ Rows.uptoBulk x.1 := by
  rcases open_slice hu h with ⟨hcs, rfl⟩ | ⟨a, len, cap, m, fu, D, Pl, hcs, hb, hl, hm, hmm, rfl, hel⟩
  · simp only [List.cons.injEq, Value.slice.injEq, and_true] at hcs
    obtain ⟨rfl, rfl, rfl⟩ := hcs
    exact ⟨[], rfl, ⟨rfl, by omega, fun h0 => absurd h0 (by omega)⟩, by omega, fun _ => rfl, (fun a ha => by cases ha), by omega, by simp [sumM, Rows.uptoBulk]⟩
  · simp only [List.cons.injEq, Value.slice.injEq, and_true] at hcs
    obtain ⟨rfl, rfl, rfl⟩ := hcs
    have hlm : n ≤ m := by rw [hmm]; split <;> omega
    have hex : ∀ i, i < n → ∃ v : α, (∃ cs, d.K w v cs ∧ ∀ j u, cs[j]? = some u → w.cell? (a.add (i * d.sz + j)) = some u) ∧ B v ∧ M v ≤ Rows.uptoBulk (D i) := by
      intro i hi
      obtain ⟨cs', hc1, hc2⟩ := hel i (by omega)
      have hmem : D i ∈ (List.range n).map D := List.mem_map.2 ⟨i, List.mem_range.2 hi, rfl⟩
      obtain ⟨v, hv, hB, hM⟩ := he hc2 (fun q hq => hw q (by
        simp only [DataW.weights, hu, List.mem_cons, List.mem_append]
        exact .inr (.inl (mem_weightsAll hmem q hq))))
      refine ⟨v, ⟨cs', hv, fun j u hj => ?_⟩, hB, hM⟩
      obtain ⟨_, hcl, hat⟩ := World.cells?_some hc1
      have hjl : j < cs'.length := (List.getElem?_eq_some_iff.1 hj).1
      have := hat j (by omega)
      rw [hc] at this
      rw [← Go.Deep.add_add, this, hj]
    have key : ∀ k, k ≤ n → ∃ xs : List α, xs.length = k ∧ (∀ j p, xs[j]? = some p → (∃ cs, cs.length = d.sz ∧ d.K w p cs ∧ ∀ i u, cs[i]? = some u → w.cell? (a.add (j * d.sz + i)) = some u) ∧ B p) ∧ sumM M xs ≤ Rows.uptoBulkAll ((List.range k).map D) := by
      intro k
      induction k with
      | zero => intro _; exact ⟨[], rfl, fun j p hj => by simp at hj, by simp [sumM]⟩
      | succ k ih =>
        intro hk
        obtain ⟨xs, hx, hxs, hsum⟩ := ih (by omega)
        obtain ⟨v, ⟨cs, hv, hcell⟩, hB, hM⟩ := hex k (by omega)
        refine ⟨xs ++ [v], by simp [hx], fun j p hj => ?_, ?_⟩
        · rcases Nat.lt_or_ge j k with hjk | hjk
          · rw [List.getElem?_append_left (by omega)] at hj
            exact hxs j p hj
          · have hjl := (List.getElem?_eq_some_iff.1 hj).1
            rw [List.length_append, List.length_singleton] at hjl
            obtain rfl : j = k := by omega
            have hp : v = p := by simpa [List.getElem?_append_right, hx] using hj
            subst hp
            exact ⟨⟨cs, d.K_len hv, hv, hcell⟩, hB⟩
        · rw [sumM_snoc, List.range_succ, List.map_append, List.map_cons, List.map_nil, bulkAll_snoc]
          omega
    obtain ⟨xs, hx, hxs, hsum⟩ := key n (Nat.le_refl _)
    refine ⟨xs, hx, ⟨hx, by have : maxLen = 9223372036854775807 := rfl; omega, fun _ => ⟨a, rfl, fun j p hj => (hxs j p hj).1⟩⟩, hl, (fun h => by cases h), fun v hv => ?_, ?_, ?_⟩
    · obtain ⟨j, hj, rfl⟩ := List.mem_iff_getElem.1 hv
      exact (hxs j _ (List.getElem?_eq_getElem hj)).2
    · have := hw ((((List.range n).map D).length + ((List.range (m - n)).map fun j => D (n + j)).length) * P.bytesOf e) (by
        simp only [DataW.weights, hu]
        exact List.mem_cons_self)
      simp only [List.length_map, List.length_range] at this
      have h2 : n * P.bytesOf e ≤ (n + (m - n)) * P.bytesOf e := Nat.mul_le_mul_right _ (by omega)
      have h3 : reachBytes = 140737488351232 := rfl
      omega
    · simp only [Rows.uptoBulk]
      omega
end Go.Proofs.Ytaihajmdngoeiaa.O

namespace Go.Proofs.Ytaihajmdngoeiaa.H
open Go.ChangeShapes Go.WideShapes Go.Deep Go.Proofs.YtaihajmdngoeiaaW.PrintWords Go.Proofs.Ytaihajmdngoeiaa.F

def B42 (x : S42) : Prop := (Lit.int .i64 x.f0).wf = true ∧ (Lit.int .i64 x.f1).wf = true ∧ x.f2.size ≤ 140737488351232
theorem cells42 : Try.prog.cellsOf 42 = 3 := by kernel_rfl
theorem cells3 : Try.prog.cellsOf 3 = 1 := by kernel_rfl
theorem cells9 : Try.prog.cellsOf 9 = 1 := by kernel_rfl
theorem bytes42 : Try.prog.bytesOf 42 = 32 := by kernel_rfl
end Go.Proofs.Ytaihajmdngoeiaa.H

namespace Go.Proofs.Ytaihajmdngoeiaa.H
open Go.ChangeShapes Go.WideShapes Go.Deep Go.Proofs.YtaihajmdngoeiaaW.PrintWords Go.Proofs.Ytaihajmdngoeiaa.F Go.Proofs.Ytaihajmdngoeiaa
theorem opens42U : O.OpensU Try.prog 42 k42 B42 (fun x => x.f2.size + 4) := by
  intro H enc w base spare held fuel cs x h hw
  obtain ⟨ys, n, rfl, rfl, hlen, hyl, hf⟩ := DataW.trod_struct Try.underlying42 h
  rw [cells42] at hlen
  obtain ⟨c0, c1, c2, rfl⟩ : ∃ a b c, cs = [a, b, c] := by
    match cs, hlen with
    | [a, b, c], _ => exact ⟨a, b, c, rfl⟩
  obtain ⟨y0, y1, y2, rfl⟩ : ∃ a b c, ys = [a, b, c] := by
    match ys, hyl with
    | [a, b, c], _ => exact ⟨a, b, c, rfl⟩
  have f0 := hf 0 { name := "From", type := 3, offset := 0, embedded := false, tag := "", pkgPath := "", byteOffset := 0 } rfl
  have f1 := hf 1 { name := "To", type := 3, offset := 1, embedded := false, tag := "", pkgPath := "", byteOffset := 8 } rfl
  have f2 := hf 2 { name := "Text", type := 9, offset := 2, embedded := false, tag := "", pkgPath := "", byteOffset := 16 } rfl
  simp only [cells3, cells9, List.drop_zero, List.drop_succ_cons, List.take_succ_cons, List.take_zero, List.getElem?_cons_zero, List.getElem?_cons_succ] at f0 f1 f2
  have hq : ∀ (j : Nat) (t : TypeId) (d : DataW H), [3, 3, 9][j]? = some t → [y0.1, y1.1, y2.1][j]? = some d → ∀ n ∈ d.weights Try.prog t, n ≤ reachBytes := by
    intro j t d h1 h2 q hq
    refine hw q ?_
    simp only [DataW.weights, Try.underlying42]
    exact DataW.weights_mem_each (j := j) h1 h2 q hq
  obtain ⟨a0, e0, w0, m0⟩ := O.opens_intU Try.underlying3 f0 (hq 0 _ _ rfl rfl)
  obtain rfl : c0 = .int .i64 a0 := (List.cons.inj e0).1
  obtain ⟨a1, e1, w1, m1⟩ := O.opens_intU Try.underlying3 f1 (hq 1 _ _ rfl rfl)
  obtain rfl : c1 = .int .i64 a1 := (List.cons.inj e1).1
  obtain ⟨a2, e2, w2, m2⟩ := O.opens_stringU Try.underlying9 f2 (hq 2 _ _ rfl rfl)
  obtain rfl : c2 = .string a2 := (List.cons.inj e2).1
  refine ⟨⟨a0, a1, a2⟩, k42_mk w _, ⟨w0, w1, w2⟩, ?_⟩
  show a2.size + 4 ≤ Rows.uptoBulk (DataW.agg [y0.1, y1.1, y2.1])
  simp only [Rows.uptoBulk, Rows.uptoBulkAll]
  simp only at m0 m1 m2
  generalize Rows.uptoBulk y0.1 = z0 at m0 ⊢
  generalize Rows.uptoBulk y1.1 = z1 at m1 ⊢
  generalize Rows.uptoBulk y2.1 = z2 at m2 ⊢
  omega
end Go.Proofs.Ytaihajmdngoeiaa.H

namespace Go.Proofs.Ytaihajmdngoeiaa.L
open Go.RowKit Go.Proofs.YtaihajmdngoeiaaW.PrintWords Go.Proofs.YtaihajmdngoeiaaW.PrintLast Go.Proofs.YtaihajmdngoeiaaW.PrintMore
open Go.Proofs.Ytaihajmdngoeiaa.F Go.Proofs.Ytaihajmdngoeiaa.H
set_option linter.unusedVariables false
set_option linter.unusedSimpArgs false

theorem tot_wtC : ∀ (l : List S42), Q.tot l + 4 * l.length = O.sumM (fun x => x.f2.size + 4) l
  | [] => rfl
  | x :: l => by
    have := tot_wtC l
    simp only [Q.tot, O.sumM, List.length_cons]
    omega
set_option maxHeartbeats 1000000 in
theorem composes_walk (a0 : Int) (A1 : Option Addr) (c1 : Nat) (l1 : List S42) (A2 : Option Addr) (c2 : Nat) (l2 : List S42) (w : World) (h0 : (Lit.int .i64 a0).wf = true)
    (hr1 : Kd.C k42 w A1 l1.length l1) (hc1 : l1.length ≤ c1) (hn1 : A1 = none → c1 = 0) (hB1 : ∀ x ∈ l1, B42 x) (hb1 : l1.length * 32 ≤ 140737488351232)
    (hr2 : Kd.C k42 w A2 l2.length l2) (hc2 : l2.length ≤ c2) (hn2 : A2 = none → c2 = 0) (hB2 : ∀ x ∈ l2, B42 x) (hb2 : l2.length * 32 ≤ 140737488351232)
    (hu : 1 + ((O.sumM (fun x => x.f2.size + 4) l1 + 1) + (O.sumM (fun x => x.f2.size + 4) l2 + 1)) ≤ 1048576) :
    Calls Try.prog 12 #[.int .i64 a0, .slice A1 l1.length c1, .slice A2 l2.length c2] w fun e w' => e = .returned (.bool true) ∧ Below w.heap.size w w' := by
  rw [← tot_wtC, ← tot_wtC] at hu
  have hsz : Q.tot l1 ≤ 1048576 ∧ Q.tot l2 ≤ 1048576 := ⟨by omega, by omega⟩
  obtain ⟨k', hk'⟩ := (Q.Compose_is a0 l1 l2 hsz.1 hsz.2).rounds
  obtain ⟨r, n, hrn⟩ : ∃ r n, Q.compSpec a0 l1 l2 = (r, n) := ⟨_, _, rfl⟩
  have hk : edits_Compose.f 0 a0 l1 l2 = some (r, n) := by unfold edits_Compose.f; rw [if_pos hsz, hrn]
  simp only [hrn] at hk'
  clear hrn hB1 hB2 h0 hsz hu
  have HK := Aside0.mk hk
  have HK' := Aside0.mk hk'
  have HR1 := Aside0.mk hr1
  have HC1 := Aside0.mk hc1
  have HN1 := Aside0.mk hn1
  have HR2 := Aside0.mk hr2
  have HC2 := Aside0.mk hc2
  have HN2 := Aside0.mk hn2
  clear hk hk' hr1 hc1 hn1 hr2 hc2 hn2
  go_enter Try.func12, Try.ntmps12
  go_wp2_with fail
  refine (lent_calls A1 c1 l1 _ HR1.out HC1.out HN1.out hb1).mono ?_
  rintro e w1 ⟨Al, rfl, hC1, hB1⟩
  have HL1 := Aside0.mk hC1
  have HB1 := Aside0.mk hB1
  clear hC1 hB1
  go_wp2_with fail
  refine (lent_calls A2 c2 l2 _ (Kd.C_below HR2.out HB1.out) HC2.out HN2.out hb2).mono ?_
  rintro e w2 ⟨Am, rfl, hC2, hB2⟩
  have HL2 := Aside0.mk hC2
  have HB2 := Aside0.mk hB2
  clear hC2 hB2
  go_wp2_with fail
  refine (edits_Compose.calls 0 a0 Al (l1.length + 3) l1 Am (l2.length + 3) l2 r n _ (Kd.C_lent (Kd.C_below HL1.out HB2.out)) (by omega) (Kd.C_lent HL2.out) (by omega) HK.out).mono ?_
  rintro e w3 ⟨vx, rfl, hx, hb3⟩
  obtain ⟨Ax, cx, rfl, hcx, hCx⟩ := Kd.R_reads hx
  have HX := Aside0.mk hCx
  have HCX := Aside0.mk hcx
  have HB3 := Aside0.mk hb3
  clear hb3 hx hCx hcx
  go_wp2_with fail
  refine (monikerref1_Compose.calls k' a0 A1 c1 l1 A2 c2 l2 r n _ (Kd.C_below (Kd.C_below (Kd.C_below HR1.out HB1.out) HB2.out) HB3.out) HC1.out (Kd.C_below (Kd.C_below (Kd.C_below HR2.out HB1.out) HB2.out) HB3.out) HC2.out HK'.out).mono ?_
  rintro e w4 ⟨vy, rfl, hy, hb4⟩
  obtain ⟨Ay, cy, rfl, hcy, hCy⟩ := Kd.R_reads hy
  have HY := Aside0.mk hCy
  have HCY := Aside0.mk hcy
  have HB4 := Aside0.mk hb4
  clear hb4 hy hCy hcy
  go_wp2_with fail
  obtain ⟨ks, hks⟩ := (Q.same_is r (Kd.C_max HX.out)).rounds
  have HS := Aside0.mk hks
  clear hks
  refine (monikerplain_SameEdits.calls ks Ax cx r Ay cy r true _ (Kd.C_below HX.out HB4.out) HCX.out HY.out HCY.out HS.out).mono ?_
  rintro e w5 ⟨rfl, hb5⟩
  have HB5 := Aside0.mk hb5.below
  clear hb5
  go_wp2_with fail
  refine (kept_calls Al A1 c1 l1 _ (Kd.C_below (Kd.C_below (Kd.C_below (Kd.C_below HL1.out HB2.out) HB3.out) HB4.out) HB5.out) (Kd.C_below (Kd.C_below (Kd.C_below (Kd.C_below (Kd.C_below HR1.out HB1.out) HB2.out) HB3.out) HB4.out) HB5.out) HC1.out (by omega)).mono ?_
  rintro e w6 ⟨rfl, hb6⟩
  have HB6 := Aside0.mk hb6.below
  clear hb6
  go_wp2_with fail
  refine (kept_calls Am A2 c2 l2 _ (Kd.C_below (Kd.C_below (Kd.C_below (Kd.C_below HL2.out HB3.out) HB4.out) HB5.out) HB6.out) (Kd.C_below (Kd.C_below (Kd.C_below (Kd.C_below (Kd.C_below (Kd.C_below HR2.out HB1.out) HB2.out) HB3.out) HB4.out) HB5.out) HB6.out) HC2.out (by omega)).mono ?_
  rintro e w7 ⟨rfl, hb7⟩
  have HB7 := Aside0.mk hb7.below
  clear hb7
  go_wp2_with fail
  go_ret
  exact ⟨rfl, below_step (below_step (below_step (below_step (below_step (below_step HB1.out HB2.out) HB3.out) HB4.out) HB5.out) HB6.out) HB7.out⟩
end Go.Proofs.Ytaihajmdngoeiaa.L


namespace Go.Proofs.Ytaihajmdngoeiaa.editsComposes
open Go.ChangeShapes Go.WideShapes Go.ChangeAt Go.RowKit Go.Proofs.Ytaihajmdngoeiaa
open Go.ChangeMaps (open_string shut_string)
set_option linter.unusedVariables false
theorem own : ownKnob Try.prog.godebug = none := by kernel_rfl
theorem laidOut : laidOutB Try.prog = true := by kernel_rfl
set_option maxRecDepth 100000 in
theorem lifted (os : Os) (started : os.Started) (H : Type) (enc : TypeId × Value → H) (F : Stop.Interp) :
    ReturnsInHanded {} Try.checked os 12 .any ((Rows.OpenSpec.upto Rows.editsComposesSpec).pre6 enc Try.prog Try.f12 Rows.editsComposesUptoRow.domain false) (((Rows.OpenSpec.upto Rows.editsComposesSpec).at F).post enc Try.prog Try.f12 false true false false) := by
  refine O.returns_upto (k := Rows.uptoSmall) (s := Rows.OpenSpec.upto Rows.editsComposesSpec) rfl (C := Try.checked) own started (by kernel_rfl) Try.func12
    (O.witnessU (enc := enc) (C := Try.checked) (s := Rows.OpenSpec.upto Rows.editsComposesSpec) rfl false ⟨#[], #[.int .i64 0, .slice none 0 0, .slice none 0 0], []⟩ 8 (by kernel_rfl) (by kernel_rfl) (by kernel_rfl) (by kernel_rfl) (by kernel_rfl)) ?_
  intro W base args ds gs before hval0 hW hcnd hk0 hsz0 _
  have hsz : (DataW.weightsEach Try.prog (Try.f12.params.toList ++ Rows.editsComposesSpec.plain.varTypes Try.prog) (ds ++ gs)).all (· ≤ reachBytes) = true := hsz0
  have hval : ∀ (j : Nat) t v, Try.f12.params[j]? = some t → args[j]? = some v → Value.okWide Try.prog W .any base t v := hval0
  have hW' := hW
  obtain ⟨p, q, hA0, hV, rfl, hfz, hnd⟩ := hW
  have hA : DataW.TrodAll enc Try.prog W 0 (fun _ => true) true Try.f12.params.toList args.toList ds p := hA0
  rw [Try.params12] at hA hval hsz
  obtain ⟨v0, vs0, d0, ds0, p0, q0, hargs, rfl, rfl, h0, r0⟩ := trodAll_cons hA
  obtain ⟨v1, vs1, d1, ds1, p1, q1, rfl, rfl, rfl, h1, r1⟩ := trodAll_cons r0
  obtain ⟨v2, vs2, d2, ds2, p2, q2, rfl, rfl, rfl, h2, r2⟩ := trodAll_cons r1
  obtain ⟨rfl, rfl, rfl⟩ := trodAll_nil r2
  obtain rfl : args = #[v0, v1, v2] := by cases args; simp_all
  obtain ⟨rfl, rfl⟩ := trodVars_none hV
  have hbulk : Rows.uptoBulkAll ([d0, d1, d2] ++ []) ≤ 1048576 := of_decide_eq_true hk0
  simp only [List.append_nil, Rows.uptoBulkAll, Nat.add_zero] at hbulk
  obtain ⟨a0, rfl, rfl, rfl, w0⟩ := open_int Try.underlying3 (hval 0 3 v0 rfl rfl) h0
  have hm0 : 1 ≤ Rows.uptoBulk (DataW.lit (H := H) (.int .i64 a0)) := by simp only [Rows.uptoBulk]; exact Nat.le_refl _
  obtain ⟨a1, len1, cap1, rfl⟩ := okWide_slice Try.underlying22 (hval 1 22 v1 rfl rfl)
  have k1 := h1
  have lt1 : ∀ x ∈ p1, x.block < W.heap.size := by obtain ⟨m, hm⟩ := k1; exact DataW.trod_lt m _ _ _ hm
  obtain ⟨fu1, hf1⟩ := h1
  have hg1 : DataW.trod enc Try.prog W 0 (fun _ => true) true fu1 22 [.slice a1 len1 cap1] = some (d1, p1) := by simpa [Value.cells] using hf1
  have hq1 : ∀ n ∈ DataW.weights Try.prog 22 d1, n ≤ reachBytes := fun n hn => of_decide_eq_true (List.all_eq_true.1 hsz n (DataW.weights_mem_each (j := 1) rfl rfl n hn))
  obtain ⟨l1, rfl, hC1, hc1, hn1, hB1, hb1, hm1⟩ := O.open_rowU Try.underlying22 Go.Proofs.Ytaihajmdngoeiaa.H.opens42U Go.Proofs.Ytaihajmdngoeiaa.H.cells42 hg1 hq1
  rw [Go.Proofs.Ytaihajmdngoeiaa.H.bytes42] at hb1
  obtain ⟨a2, len2, cap2, rfl⟩ := okWide_slice Try.underlying22 (hval 2 22 v2 rfl rfl)
  have k2 := h2
  have lt2 : ∀ x ∈ p2, x.block < W.heap.size := by obtain ⟨m, hm⟩ := k2; exact DataW.trod_lt m _ _ _ hm
  obtain ⟨fu2, hf2⟩ := h2
  have hg2 : DataW.trod enc Try.prog W 0 (fun _ => true) true fu2 22 [.slice a2 len2 cap2] = some (d2, p2) := by simpa [Value.cells] using hf2
  have hq2 : ∀ n ∈ DataW.weights Try.prog 22 d2, n ≤ reachBytes := fun n hn => of_decide_eq_true (List.all_eq_true.1 hsz n (DataW.weights_mem_each (j := 2) rfl rfl n hn))
  obtain ⟨l2, rfl, hC2, hc2, hn2, hB2, hb2, hm2⟩ := O.open_rowU Try.underlying22 Go.Proofs.Ytaihajmdngoeiaa.H.opens42U Go.Proofs.Ytaihajmdngoeiaa.H.cells42 hg2 hq2
  rw [Go.Proofs.Ytaihajmdngoeiaa.H.bytes42] at hb2
  clear hA0 hval0 hsz0 hsz
  refine (L.composes_walk a0 a1 cap1 l1 a2 cap2 l2 W w0 hC1 hc1 hn1 hB1 hb1 hC2 hc2 hn2 hB2 hb2 (Nat.le_trans (Nat.add_le_add hm0 (Nat.add_le_add hm1 hm2)) hbulk)).mono fun e W' ⟨he, bel⟩ => ?_
  subst he
  exact ⟨_, rfl, _, _, _, [], _, [], hW', trodAll_mk1 (shut_bool Try.underlying4 _), (trodAll_cons_mk (shut_int Try.underlying3 w0) (trodAll_cons_mk (Below.trod laidOut (by kernel_rfl) (of_decide_eq_true (by kernel_rfl)) k1 bel lt1) (trodAll_cons_mk (Below.trod laidOut (by kernel_rfl) (of_decide_eq_true (by kernel_rfl)) k2 bel lt2) trodAll_mk0))), rfl, bel.frame _, fun h => by cases h⟩
theorem over : Rows.editsComposesUptoRow.holds Try.pinned (Rows.OpenSpec.upto Rows.editsComposesSpec) :=
  OpenClaim.holds_of_cond 12 Try.f12 rfl rfl rfl rfl rfl rfl rfl ⟨rfl, rfl, rfl, rfl, rfl⟩ rfl rfl rfl rfl rfl (by kernel_rfl) Try.func12 (by kernel_rfl)
    (of_decide_eq_true (by kernel_rfl)) (by unfold Func.isWrapper; first | (rw [if_pos (by decide +kernel)]; kernel_rfl) | (rw [if_neg (by decide +kernel)]; exact ⟨rfl, rfl⟩))
    (fun os started H enc _ F => lifted os started H enc F)
theorem proved : Rows.EditsComposesUptoSaid := over
#print axioms proved
end Go.Proofs.Ytaihajmdngoeiaa.editsComposes
namespace Go.Proofs.Ytaihajmdngoeiaa
/-- The row, under a short name, for the claim. -/
theorem editsComposes_holds : Rows.EditsComposesUptoSaid := editsComposes.proved
end Go.Proofs.Ytaihajmdngoeiaa
