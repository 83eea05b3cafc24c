/- Texts of the proof of one law (Shapes), part 1: functions printed as Lean functions with their walks, and what is proved of them. Conditions: those of each theorem. -/
import Derived.Test.YtodldpdnhcafpaaDoorZShapes0
import Derived.RangeFuncNested
import Derived.RangeFuncBound
import Derived.RangeFuncCalls
import Derived.RangeFuncLeaves
import Derived.RangeFuncBox
import Derived.Shelf.Abstract
import Derived.Shelf.RegionOpen
import Derived.WalkKit
import Derived.OwnWalkIn
import Derived.TacticsInMore
import Derived.LoopNIn
import Derived.LoopIn
import Derived.OrdersIn
import Derived.BigQuiet
-- Contracts over the table tree.kinds alone (mkc0.py)
namespace Go.Proofs.YtodldpdnhcafpaaDoor.F
open Go.RowKit Go.Proofs.YtodldpdnhcafpaaDoorW.PrintWords Go.Proofs.YtodldpdnhcafpaaDoorW.PrintLast Go.Proofs.YtodldpdnhcafpaaDoorW.PrintMore
open Go.Proofs.YtodldpdnhcafpaaDoor.K
attribute [local go_sem] max2_int min2_int max_two min_two max_three min_three max_four min_four
set_option linter.unusedVariables false
set_option linter.unusedSimpArgs false
/-- The table of the kinds' names lies (the other table aside). -/
structure SG0 (w : World) : Prop where
  g0 : Kd.string.C w (some ⟨0, 0, none⟩) 58 tabG0
theorem SG0.below {w w' : World} (h : SG0 w) (hb : Below w.heap.size w w') : SG0 w' := ⟨Kd.C_below h.g0 hb⟩
set_option maxHeartbeats 8000000 in
set_option maxRecDepth 100000 in
theorem tree_longest.calls0 (k : Nat) (a0 : ByteArray) (r1 : Int) (r2 : Int) (w : World) (h : tree_longest.f k a0 = some (r1, r2)) (hs_ : SG0 w) :
    Calls Tryd.prog 35 #[.string a0] w fun e w' => e = .returned (.tuple #[.int .i64 r1, .int .i64 r2]) ∧ Below w.heap.size w w' := by
  have HRG0 := Aside0.mk hs_.g0
  have HSG := Aside0.mk hs_
  clear hs_
  have HB := Aside0.mk (Below.refl w.heap.size w)
  have H : (tree_longest.l0 k a0 (-1) 0 0) = some (r1, r2) := h
  clear h
  have H' := Aside0.mk H
  clear H
  have hT := tab_range HRG0.out
  go_enter Tryd.func35, Tryd.ntmps35
  go_wp2_with ((with_reducible refine gate_dst (N := 9) rfl ?_); refine wpList_load_mid rfl 87 _ rfl 0 0 rfl (tabG0.map Value.string) _ hT Tryd.underlying87 rfl (by kernel_rfl) ?_)
  clear hT
  repeat (go_quiet (fail); try go_wp2)
  go_loopg [4, 5, 10] k (fun kq v4 v5 v10 w' => ∃ (x4_1 : Int) (x5_1 : Int) (x10_1 : Int), v4 = .int .i64 x4_1 ∧ v5 = .int .i64 x5_1 ∧ v10 = .int .i64 x10_1 ∧ Aside0 (tree_longest.l0 kq a0 x4_1 x5_1 x10_1 = some (r1, r2)) ∧ Aside0 (kq ≤ k) ∧ Aside0 (Below w.heap.size w w'))
  case atStart => exact ⟨((-1)), (0), (0), (by first | rfl | (simp; done) | (simp [*]; done)), (by first | rfl | (simp; done) | (simp [*]; done)), (by first | rfl | (simp; done) | (simp [*]; done)), H', ⟨Nat.le_refl _⟩, ⟨by repeat (first | (with_reducible first | exact HB.out | apply below_alloc | apply pw_below_drewN | apply below_drew1) | exact HB.out)⟩⟩
  case round =>
    clear H'
    obtain ⟨x4_1, x5_1, x10_1, rfl, rfl, rfl, HA, HK1, HB⟩ := hrel
    cases gk with
    | zero => exact absurd HA.out (by simp [tree_longest.l0])
    | succ k1 =>
      have H := HA.out
      clear HA
      simp only [tree_longest.l0] at H
      by_cases c2 : x10_1 < 58
      · rw [if_pos c2] at H
        have c2b0 : decide (x10_1 < 58) = true := decide_eq_true c2
        clear c2
        by_cases c3 : 0 ≤ x10_1
        · rw [if_pos c3] at H
          have c3b0 : decide (0 ≤ x10_1) = true := decide_eq_true c3
          clear c3
          have H' := Aside0.mk H
          clear H
          have p102 : 0 ≤ (x10_1 : Int) := of_decide_eq_true (by first | (with_reducible assumption) | assumption)
          have q102 : x10_1 < (58 : Int) := of_decide_eq_true (by first | (with_reducible assumption) | assumption)
          obtain ⟨ad102, e102, hx102_0⟩ := Kd.at_string HRG0.out x10_1 p102 q102
          obtain rfl : (⟨0, 0, none⟩ : Addr) = ad102 := (by injection e102)
          (first | simp only [add_plain] at hx102_0 | simp only [add_at] at hx102_0 | simp only [Addr.add, Nat.zero_add] at hx102_0 | skip)
          replace hx102_0 := (HB.out.cell (World.block_lt_of_cell? w _ hx102_0)).trans hx102_0
          replace p102 := eq_true p102
          replace q102 := eq_true q102
          have hti := tab_index x10_1 (of_eq_true p102) (of_eq_true q102)
          go_wp2
          repeat (go_quiet (fail); try go_wp2)
          go_loopg [8] k1 (fun kq v8 w' => ∃ (x8_2 : Int), v8 = .int .i64 x8_2 ∧ Aside0 (tree_longest.l1 kq a0 x4_1 x5_1 x10_1 (rdOf ByteArray.empty tabG0 x10_1) x8_2 x10_1 = some (r1, r2)) ∧ Aside0 (kq ≤ k1) ∧ Aside0 (Below w.heap.size w w'))
          case atStart => exact ⟨(0), (by first | rfl | (simp; done) | (simp [*]; done)), H', ⟨Nat.le_refl _⟩, ⟨by repeat (first | (with_reducible first | exact HB.out | apply below_alloc | apply pw_below_drewN | apply below_drew1) | exact HB.out)⟩⟩
          case round =>
            clear H'
            try clear p1
            try clear q1
            try clear hx1
            try clear c2
            try clear c2b0
            try clear p2
            try clear c3
            try clear c3b0
            try clear hx102_0
            try clear p102
            try clear q102
            clear hti
            obtain ⟨x8_2, rfl, HA, HK2, HB⟩ := hrel
            cases gk with
            | zero => exact absurd HA.out (by simp [tree_longest.l1])
            | succ k2 =>
              have H := HA.out
              clear HA
              simp only [tree_longest.l1] at H
              by_cases c4 : x8_2 < (a0.size : Int)
              · rw [if_pos c4] at H
                have c4b0 : decide (x8_2 < (a0.size : Int)) = true := decide_eq_true c4
                clear c4
                by_cases c5 : x8_2 < ((rdOf ByteArray.empty tabG0 x10_1).size : Int)
                · rw [if_pos c5] at H
                  have c5b0 : decide (x8_2 < ((rdOf ByteArray.empty tabG0 x10_1).size : Int)) = true := decide_eq_true c5
                  clear c5
                  by_cases c6 : 0 ≤ x8_2
                  · rw [if_pos c6] at H
                    have c6b0 : decide (0 ≤ x8_2) = true := decide_eq_true c6
                    clear c6
                    by_cases c9 : (bt a0 x8_2) = (bt (rdOf ByteArray.empty tabG0 x10_1) x8_2)
                    · rw [if_pos c9] at H
                      have c9b0 : ((bt a0 x8_2) == (bt (rdOf ByteArray.empty tabG0 x10_1) x8_2)) = true := beq_iff_eq.mpr c9
                      have c9b1 : ((bt a0 x8_2) != (bt (rdOf ByteArray.empty tabG0 x10_1) x8_2)) = false := bne_eq_false_iff_eq.mpr c9
                      clear c9
                      have H' := Aside0.mk H
                      clear H
                      have p7 : 0 ≤ (x8_2 : Int) := of_decide_eq_true (by first | (with_reducible assumption) | assumption)
                      have q7 : x8_2 < (a0.size : Int) := of_decide_eq_true (by first | (with_reducible assumption) | assumption)
                      have hx7 := bt_at a0 x8_2
                      replace p7 := eq_true p7
                      replace q7 := eq_true q7
                      have p8 : 0 ≤ (x8_2 : Int) := of_decide_eq_true (by first | (with_reducible assumption) | assumption)
                      have q8 : x8_2 < ((rdOf ByteArray.empty tabG0 x10_1).size : Int) := of_decide_eq_true (by first | (with_reducible assumption) | assumption)
                      have hx8 := bt_at (rdOf ByteArray.empty tabG0 x10_1) x8_2
                      replace p8 := eq_true p8
                      replace q8 := eq_true q8
                      go_wp2
                      repeat (go_quiet (fail); try go_wp2)
                      go_roundg k2
                      case measure => have := HK1.out; have := HK2.out; omega
                      case rel => exact ⟨(wrap64 (x8_2 + 1)), (by first | rfl | (simp; done) | (simp [*]; done)), H', ⟨by have := HK1.out; have := HK2.out; omega⟩, ⟨by repeat (first | (with_reducible first | exact HB.out | apply below_alloc | apply pw_below_drewN | apply below_drew1) | exact HB.out)⟩⟩
                    · rw [if_neg c9] at H
                      have c9b0 : ((bt a0 x8_2) == (bt (rdOf ByteArray.empty tabG0 x10_1) x8_2)) = false := beq_eq_false_iff_ne.mpr c9
                      have c9b1 : ((bt a0 x8_2) != (bt (rdOf ByteArray.empty tabG0 x10_1) x8_2)) = true := bne_iff_ne.mpr c9
                      obtain ⟨ji10, hji10⟩ : ∃ j_ : Int, (mx x5_1 x8_2) = j_ := ⟨_, rfl⟩
                      replace H : (if x8_2 = ((rdOf ByteArray.empty tabG0 x10_1).size : Int) then (if x4_1 < 0 then (tree_longest.l0 k2 a0 x10_1 ji10 (wrap64 (x10_1 + 1))) else (if 0 ≤ x4_1 then (if x4_1 < 58 then (if x8_2 > ((rdOf ByteArray.empty tabG0 x4_1).size : Int) then (tree_longest.l0 k2 a0 x10_1 ji10 (wrap64 (x10_1 + 1))) else (tree_longest.l0 k2 a0 x4_1 ji10 (wrap64 (x10_1 + 1)))) else (none)) else (none))) else (tree_longest.l0 k2 a0 x4_1 ji10 (wrap64 (x10_1 + 1)))) = some (r1, r2) := by first | (rw [hji10] at H; exact H) | (simp only [hji10] at H ⊢; exact H)
                      have hji10_ : (if x5_1 < x8_2 then x8_2 else x5_1) = ji10 := hji10
                      by_cases c11 : x8_2 = ((rdOf ByteArray.empty tabG0 x10_1).size : Int)
                      · rw [if_pos c11] at H
                        have c11b0 : (x8_2 == ((rdOf ByteArray.empty tabG0 x10_1).size : Int)) = true := beq_iff_eq.mpr c11
                        have c11b1 : (x8_2 != ((rdOf ByteArray.empty tabG0 x10_1).size : Int)) = false := bne_eq_false_iff_eq.mpr c11
                        clear c11
                        by_cases c12 : x4_1 < 0
                        · rw [if_pos c12] at H
                          have c12b0 : decide (x4_1 < 0) = true := decide_eq_true c12
                          clear c12
                          have H' := Aside0.mk H
                          clear H
                          have p7 : 0 ≤ (x8_2 : Int) := of_decide_eq_true (by first | (with_reducible assumption) | assumption)
                          have q7 : x8_2 < (a0.size : Int) := of_decide_eq_true (by first | (with_reducible assumption) | assumption)
                          have hx7 := bt_at a0 x8_2
                          replace p7 := eq_true p7
                          replace q7 := eq_true q7
                          have p8 : 0 ≤ (x8_2 : Int) := of_decide_eq_true (by first | (with_reducible assumption) | assumption)
                          have q8 : x8_2 < ((rdOf ByteArray.empty tabG0 x10_1).size : Int) := of_decide_eq_true (by first | (with_reducible assumption) | assumption)
                          have hx8 := bt_at (rdOf ByteArray.empty tabG0 x10_1) x8_2
                          replace p8 := eq_true p8
                          replace q8 := eq_true q8
                          go_wp2
                          repeat (go_quiet (fail); try go_wp2)
                          go_roundg k2
                          case measure => have := HK1.out; have := HK2.out; omega
                          case rel => exact ⟨(x10_1), (ji10), (wrap64 (x10_1 + 1)), (by first | rfl | (simp; done) | (simp [*]; done)), (by first | rfl | (simp; done) | (simp only [← hji10] <;> (first | rfl | simp)) | (simp [*]; done)), (by first | rfl | (simp; done) | (simp [*]; done)), H', ⟨by have := HK1.out; have := HK2.out; omega⟩, ⟨by repeat (first | (with_reducible first | exact HB.out | apply below_alloc | apply pw_below_drewN | apply below_drew1) | exact HB.out)⟩⟩
                        · rw [if_neg c12] at H
                          have c12b0 : decide (x4_1 < 0) = false := decide_eq_false c12
                          clear c12
                          by_cases c13 : 0 ≤ x4_1
                          · rw [if_pos c13] at H
                            have c13b0 : decide (0 ≤ x4_1) = true := decide_eq_true c13
                            clear c13
                            by_cases c14 : x4_1 < 58
                            · rw [if_pos c14] at H
                              have c14b0 : decide (x4_1 < 58) = true := decide_eq_true c14
                              clear c14
                              by_cases c15 : x8_2 > ((rdOf ByteArray.empty tabG0 x4_1).size : Int)
                              · rw [if_pos c15] at H
                                have c15b0 : decide (((rdOf ByteArray.empty tabG0 x4_1).size : Int) < x8_2) = true := decide_eq_true c15
                                clear c15
                                have H' := Aside0.mk H
                                clear H
                                have p7 : 0 ≤ (x8_2 : Int) := of_decide_eq_true (by first | (with_reducible assumption) | assumption)
                                have q7 : x8_2 < (a0.size : Int) := of_decide_eq_true (by first | (with_reducible assumption) | assumption)
                                have hx7 := bt_at a0 x8_2
                                replace p7 := eq_true p7
                                replace q7 := eq_true q7
                                have p8 : 0 ≤ (x8_2 : Int) := of_decide_eq_true (by first | (with_reducible assumption) | assumption)
                                have q8 : x8_2 < ((rdOf ByteArray.empty tabG0 x10_1).size : Int) := of_decide_eq_true (by first | (with_reducible assumption) | assumption)
                                have hx8 := bt_at (rdOf ByteArray.empty tabG0 x10_1) x8_2
                                replace p8 := eq_true p8
                                replace q8 := eq_true q8
                                have p103 : 0 ≤ (x4_1 : Int) := of_decide_eq_true (by first | (with_reducible assumption) | assumption)
                                have q103 : x4_1 < (58 : Int) := of_decide_eq_true (by first | (with_reducible assumption) | assumption)
                                obtain ⟨ad103, e103, hx103_0⟩ := Kd.at_string HRG0.out x4_1 p103 q103
                                obtain rfl : (⟨0, 0, none⟩ : Addr) = ad103 := (by injection e103)
                                (first | simp only [add_plain] at hx103_0 | simp only [add_at] at hx103_0 | simp only [Addr.add, Nat.zero_add] at hx103_0 | skip)
                                replace hx103_0 := (HB.out.cell (World.block_lt_of_cell? w _ hx103_0)).trans hx103_0
                                replace p103 := eq_true p103
                                replace q103 := eq_true q103
                                go_wp2
                                repeat (go_quiet (fail); try go_wp2)
                                go_roundg k2
                                case measure => have := HK1.out; have := HK2.out; omega
                                case rel => exact ⟨(x10_1), (ji10), (wrap64 (x10_1 + 1)), (by first | rfl | (simp; done) | (simp [*]; done)), (by first | rfl | (simp; done) | (simp only [← hji10] <;> (first | rfl | simp)) | (simp [*]; done)), (by first | rfl | (simp; done) | (simp [*]; done)), H', ⟨by have := HK1.out; have := HK2.out; omega⟩, ⟨by repeat (first | (with_reducible first | exact HB.out | apply below_alloc | apply pw_below_drewN | apply below_drew1) | exact HB.out)⟩⟩
                              · rw [if_neg c15] at H
                                have c15b0 : decide (((rdOf ByteArray.empty tabG0 x4_1).size : Int) < x8_2) = false := decide_eq_false c15
                                clear c15
                                have H' := Aside0.mk H
                                clear H
                                have p7 : 0 ≤ (x8_2 : Int) := of_decide_eq_true (by first | (with_reducible assumption) | assumption)
                                have q7 : x8_2 < (a0.size : Int) := of_decide_eq_true (by first | (with_reducible assumption) | assumption)
                                have hx7 := bt_at a0 x8_2
                                replace p7 := eq_true p7
                                replace q7 := eq_true q7
                                have p8 : 0 ≤ (x8_2 : Int) := of_decide_eq_true (by first | (with_reducible assumption) | assumption)
                                have q8 : x8_2 < ((rdOf ByteArray.empty tabG0 x10_1).size : Int) := of_decide_eq_true (by first | (with_reducible assumption) | assumption)
                                have hx8 := bt_at (rdOf ByteArray.empty tabG0 x10_1) x8_2
                                replace p8 := eq_true p8
                                replace q8 := eq_true q8
                                have p103 : 0 ≤ (x4_1 : Int) := of_decide_eq_true (by first | (with_reducible assumption) | assumption)
                                have q103 : x4_1 < (58 : Int) := of_decide_eq_true (by first | (with_reducible assumption) | assumption)
                                obtain ⟨ad103, e103, hx103_0⟩ := Kd.at_string HRG0.out x4_1 p103 q103
                                obtain rfl : (⟨0, 0, none⟩ : Addr) = ad103 := (by injection e103)
                                (first | simp only [add_plain] at hx103_0 | simp only [add_at] at hx103_0 | simp only [Addr.add, Nat.zero_add] at hx103_0 | skip)
                                replace hx103_0 := (HB.out.cell (World.block_lt_of_cell? w _ hx103_0)).trans hx103_0
                                replace p103 := eq_true p103
                                replace q103 := eq_true q103
                                go_wp2
                                repeat (go_quiet (fail); try go_wp2)
                                go_roundg k2
                                case measure => have := HK1.out; have := HK2.out; omega
                                case rel => exact ⟨(x4_1), (ji10), (wrap64 (x10_1 + 1)), (by first | rfl | (simp; done) | (simp [*]; done)), (by first | rfl | (simp; done) | (simp only [← hji10] <;> (first | rfl | simp)) | (simp [*]; done)), (by first | rfl | (simp; done) | (simp [*]; done)), H', ⟨by have := HK1.out; have := HK2.out; omega⟩, ⟨by repeat (first | (with_reducible first | exact HB.out | apply below_alloc | apply pw_below_drewN | apply below_drew1) | exact HB.out)⟩⟩
                            · rw [if_neg c14] at H
                              exact absurd H (by simp)
                          · rw [if_neg c13] at H
                            exact absurd H (by simp)
                      · rw [if_neg c11] at H
                        have c11b0 : (x8_2 == ((rdOf ByteArray.empty tabG0 x10_1).size : Int)) = false := beq_eq_false_iff_ne.mpr c11
                        have c11b1 : (x8_2 != ((rdOf ByteArray.empty tabG0 x10_1).size : Int)) = true := bne_iff_ne.mpr c11
                        have H' := Aside0.mk H
                        clear H
                        have p7 : 0 ≤ (x8_2 : Int) := of_decide_eq_true (by first | (with_reducible assumption) | assumption)
                        have q7 : x8_2 < (a0.size : Int) := of_decide_eq_true (by first | (with_reducible assumption) | assumption)
                        have hx7 := bt_at a0 x8_2
                        replace p7 := eq_true p7
                        replace q7 := eq_true q7
                        have p8 : 0 ≤ (x8_2 : Int) := of_decide_eq_true (by first | (with_reducible assumption) | assumption)
                        have q8 : x8_2 < ((rdOf ByteArray.empty tabG0 x10_1).size : Int) := of_decide_eq_true (by first | (with_reducible assumption) | assumption)
                        have hx8 := bt_at (rdOf ByteArray.empty tabG0 x10_1) x8_2
                        replace p8 := eq_true p8
                        replace q8 := eq_true q8
                        go_wp2
                        repeat (go_quiet (fail); try go_wp2)
                        go_roundg k2
                        case measure => have := HK1.out; have := HK2.out; omega
                        case rel => exact ⟨(x4_1), (ji10), (wrap64 (x10_1 + 1)), (by first | rfl | (simp; done) | (simp [*]; done)), (by first | rfl | (simp; done) | (simp only [← hji10] <;> (first | rfl | simp)) | (simp [*]; done)), (by first | rfl | (simp; done) | (simp [*]; done)), H', ⟨by have := HK1.out; have := HK2.out; omega⟩, ⟨by repeat (first | (with_reducible first | exact HB.out | apply below_alloc | apply pw_below_drewN | apply below_drew1) | exact HB.out)⟩⟩
                  · rw [if_neg c6] at H
                    exact absurd H (by simp)
                · rw [if_neg c5] at H
                  have c5b0 : decide (x8_2 < ((rdOf ByteArray.empty tabG0 x10_1).size : Int)) = false := decide_eq_false c5
                  clear c5
                  obtain ⟨ji16, hji16⟩ : ∃ j_ : Int, (mx x5_1 x8_2) = j_ := ⟨_, rfl⟩
                  replace H : (if x8_2 = ((rdOf ByteArray.empty tabG0 x10_1).size : Int) then (if x4_1 < 0 then (tree_longest.l0 k2 a0 x10_1 ji16 (wrap64 (x10_1 + 1))) else (if 0 ≤ x4_1 then (if x4_1 < 58 then (if x8_2 > ((rdOf ByteArray.empty tabG0 x4_1).size : Int) then (tree_longest.l0 k2 a0 x10_1 ji16 (wrap64 (x10_1 + 1))) else (tree_longest.l0 k2 a0 x4_1 ji16 (wrap64 (x10_1 + 1)))) else (none)) else (none))) else (tree_longest.l0 k2 a0 x4_1 ji16 (wrap64 (x10_1 + 1)))) = some (r1, r2) := by first | (rw [hji16] at H; exact H) | (simp only [hji16] at H ⊢; exact H)
                  have hji16_ : (if x5_1 < x8_2 then x8_2 else x5_1) = ji16 := hji16
                  by_cases c17 : x8_2 = ((rdOf ByteArray.empty tabG0 x10_1).size : Int)
                  · rw [if_pos c17] at H
                    have c17b0 : (x8_2 == ((rdOf ByteArray.empty tabG0 x10_1).size : Int)) = true := beq_iff_eq.mpr c17
                    have c17b1 : (x8_2 != ((rdOf ByteArray.empty tabG0 x10_1).size : Int)) = false := bne_eq_false_iff_eq.mpr c17
                    clear c17
                    by_cases c18 : x4_1 < 0
                    · rw [if_pos c18] at H
                      have c18b0 : decide (x4_1 < 0) = true := decide_eq_true c18
                      clear c18
                      have H' := Aside0.mk H
                      clear H
                      go_wp2
                      repeat (go_quiet (fail); try go_wp2)
                      go_roundg k2
                      case measure => have := HK1.out; have := HK2.out; omega
                      case rel => exact ⟨(x10_1), (ji16), (wrap64 (x10_1 + 1)), (by first | rfl | (simp; done) | (simp [*]; done)), (by first | rfl | (simp; done) | (simp only [← hji16] <;> (first | rfl | simp)) | (simp [*]; done)), (by first | rfl | (simp; done) | (simp [*]; done)), H', ⟨by have := HK1.out; have := HK2.out; omega⟩, ⟨by repeat (first | (with_reducible first | exact HB.out | apply below_alloc | apply pw_below_drewN | apply below_drew1) | exact HB.out)⟩⟩
                    · rw [if_neg c18] at H
                      have c18b0 : decide (x4_1 < 0) = false := decide_eq_false c18
                      clear c18
                      by_cases c19 : 0 ≤ x4_1
                      · rw [if_pos c19] at H
                        have c19b0 : decide (0 ≤ x4_1) = true := decide_eq_true c19
                        clear c19
                        by_cases c20 : x4_1 < 58
                        · rw [if_pos c20] at H
                          have c20b0 : decide (x4_1 < 58) = true := decide_eq_true c20
                          clear c20
                          by_cases c21 : x8_2 > ((rdOf ByteArray.empty tabG0 x4_1).size : Int)
                          · rw [if_pos c21] at H
                            have c21b0 : decide (((rdOf ByteArray.empty tabG0 x4_1).size : Int) < x8_2) = true := decide_eq_true c21
                            clear c21
                            have H' := Aside0.mk H
                            clear H
                            have p104 : 0 ≤ (x4_1 : Int) := of_decide_eq_true (by first | (with_reducible assumption) | assumption)
                            have q104 : x4_1 < (58 : Int) := of_decide_eq_true (by first | (with_reducible assumption) | assumption)
                            obtain ⟨ad104, e104, hx104_0⟩ := Kd.at_string HRG0.out x4_1 p104 q104
                            obtain rfl : (⟨0, 0, none⟩ : Addr) = ad104 := (by injection e104)
                            (first | simp only [add_plain] at hx104_0 | simp only [add_at] at hx104_0 | simp only [Addr.add, Nat.zero_add] at hx104_0 | skip)
                            replace hx104_0 := (HB.out.cell (World.block_lt_of_cell? w _ hx104_0)).trans hx104_0
                            replace p104 := eq_true p104
                            replace q104 := eq_true q104
                            go_wp2
                            repeat (go_quiet (fail); try go_wp2)
                            go_roundg k2
                            case measure => have := HK1.out; have := HK2.out; omega
                            case rel => exact ⟨(x10_1), (ji16), (wrap64 (x10_1 + 1)), (by first | rfl | (simp; done) | (simp [*]; done)), (by first | rfl | (simp; done) | (simp only [← hji16] <;> (first | rfl | simp)) | (simp [*]; done)), (by first | rfl | (simp; done) | (simp [*]; done)), H', ⟨by have := HK1.out; have := HK2.out; omega⟩, ⟨by repeat (first | (with_reducible first | exact HB.out | apply below_alloc | apply pw_below_drewN | apply below_drew1) | exact HB.out)⟩⟩
                          · rw [if_neg c21] at H
                            have c21b0 : decide (((rdOf ByteArray.empty tabG0 x4_1).size : Int) < x8_2) = false := decide_eq_false c21
                            clear c21
                            have H' := Aside0.mk H
                            clear H
                            have p104 : 0 ≤ (x4_1 : Int) := of_decide_eq_true (by first | (with_reducible assumption) | assumption)
                            have q104 : x4_1 < (58 : Int) := of_decide_eq_true (by first | (with_reducible assumption) | assumption)
                            obtain ⟨ad104, e104, hx104_0⟩ := Kd.at_string HRG0.out x4_1 p104 q104
                            obtain rfl : (⟨0, 0, none⟩ : Addr) = ad104 := (by injection e104)
                            (first | simp only [add_plain] at hx104_0 | simp only [add_at] at hx104_0 | simp only [Addr.add, Nat.zero_add] at hx104_0 | skip)
                            replace hx104_0 := (HB.out.cell (World.block_lt_of_cell? w _ hx104_0)).trans hx104_0
                            replace p104 := eq_true p104
                            replace q104 := eq_true q104
                            go_wp2
                            repeat (go_quiet (fail); try go_wp2)
                            go_roundg k2
                            case measure => have := HK1.out; have := HK2.out; omega
                            case rel => exact ⟨(x4_1), (ji16), (wrap64 (x10_1 + 1)), (by first | rfl | (simp; done) | (simp [*]; done)), (by first | rfl | (simp; done) | (simp only [← hji16] <;> (first | rfl | simp)) | (simp [*]; done)), (by first | rfl | (simp; done) | (simp [*]; done)), H', ⟨by have := HK1.out; have := HK2.out; omega⟩, ⟨by repeat (first | (with_reducible first | exact HB.out | apply below_alloc | apply pw_below_drewN | apply below_drew1) | exact HB.out)⟩⟩
                        · rw [if_neg c20] at H
                          exact absurd H (by simp)
                      · rw [if_neg c19] at H
                        exact absurd H (by simp)
                  · rw [if_neg c17] at H
                    have c17b0 : (x8_2 == ((rdOf ByteArray.empty tabG0 x10_1).size : Int)) = false := beq_eq_false_iff_ne.mpr c17
                    have c17b1 : (x8_2 != ((rdOf ByteArray.empty tabG0 x10_1).size : Int)) = true := bne_iff_ne.mpr c17
                    have H' := Aside0.mk H
                    clear H
                    go_wp2
                    repeat (go_quiet (fail); try go_wp2)
                    go_roundg k2
                    case measure => have := HK1.out; have := HK2.out; omega
                    case rel => exact ⟨(x4_1), (ji16), (wrap64 (x10_1 + 1)), (by first | rfl | (simp; done) | (simp [*]; done)), (by first | rfl | (simp; done) | (simp only [← hji16] <;> (first | rfl | simp)) | (simp [*]; done)), (by first | rfl | (simp; done) | (simp [*]; done)), H', ⟨by have := HK1.out; have := HK2.out; omega⟩, ⟨by repeat (first | (with_reducible first | exact HB.out | apply below_alloc | apply pw_below_drewN | apply below_drew1) | exact HB.out)⟩⟩
              · rw [if_neg c4] at H
                have c4b0 : decide (x8_2 < (a0.size : Int)) = false := decide_eq_false c4
                clear c4
                obtain ⟨ji22, hji22⟩ : ∃ j_ : Int, (mx x5_1 x8_2) = j_ := ⟨_, rfl⟩
                replace H : (if x8_2 = ((rdOf ByteArray.empty tabG0 x10_1).size : Int) then (if x4_1 < 0 then (tree_longest.l0 k2 a0 x10_1 ji22 (wrap64 (x10_1 + 1))) else (if 0 ≤ x4_1 then (if x4_1 < 58 then (if x8_2 > ((rdOf ByteArray.empty tabG0 x4_1).size : Int) then (tree_longest.l0 k2 a0 x10_1 ji22 (wrap64 (x10_1 + 1))) else (tree_longest.l0 k2 a0 x4_1 ji22 (wrap64 (x10_1 + 1)))) else (none)) else (none))) else (tree_longest.l0 k2 a0 x4_1 ji22 (wrap64 (x10_1 + 1)))) = some (r1, r2) := by first | (rw [hji22] at H; exact H) | (simp only [hji22] at H ⊢; exact H)
                have hji22_ : (if x5_1 < x8_2 then x8_2 else x5_1) = ji22 := hji22
                by_cases c23 : x8_2 = ((rdOf ByteArray.empty tabG0 x10_1).size : Int)
                · rw [if_pos c23] at H
                  have c23b0 : (x8_2 == ((rdOf ByteArray.empty tabG0 x10_1).size : Int)) = true := beq_iff_eq.mpr c23
                  have c23b1 : (x8_2 != ((rdOf ByteArray.empty tabG0 x10_1).size : Int)) = false := bne_eq_false_iff_eq.mpr c23
                  clear c23
                  by_cases c24 : x4_1 < 0
                  · rw [if_pos c24] at H
                    have c24b0 : decide (x4_1 < 0) = true := decide_eq_true c24
                    clear c24
                    have H' := Aside0.mk H
                    clear H
                    go_wp2
                    repeat (go_quiet (fail); try go_wp2)
                    go_roundg k2
                    case measure => have := HK1.out; have := HK2.out; omega
                    case rel => exact ⟨(x10_1), (ji22), (wrap64 (x10_1 + 1)), (by first | rfl | (simp; done) | (simp [*]; done)), (by first | rfl | (simp; done) | (simp only [← hji22] <;> (first | rfl | simp)) | (simp [*]; done)), (by first | rfl | (simp; done) | (simp [*]; done)), H', ⟨by have := HK1.out; have := HK2.out; omega⟩, ⟨by repeat (first | (with_reducible first | exact HB.out | apply below_alloc | apply pw_below_drewN | apply below_drew1) | exact HB.out)⟩⟩
                  · rw [if_neg c24] at H
                    have c24b0 : decide (x4_1 < 0) = false := decide_eq_false c24
                    clear c24
                    by_cases c25 : 0 ≤ x4_1
                    · rw [if_pos c25] at H
                      have c25b0 : decide (0 ≤ x4_1) = true := decide_eq_true c25
                      clear c25
                      by_cases c26 : x4_1 < 58
                      · rw [if_pos c26] at H
                        have c26b0 : decide (x4_1 < 58) = true := decide_eq_true c26
                        clear c26
                        by_cases c27 : x8_2 > ((rdOf ByteArray.empty tabG0 x4_1).size : Int)
                        · rw [if_pos c27] at H
                          have c27b0 : decide (((rdOf ByteArray.empty tabG0 x4_1).size : Int) < x8_2) = true := decide_eq_true c27
                          clear c27
                          have H' := Aside0.mk H
                          clear H
                          have p105 : 0 ≤ (x4_1 : Int) := of_decide_eq_true (by first | (with_reducible assumption) | assumption)
                          have q105 : x4_1 < (58 : Int) := of_decide_eq_true (by first | (with_reducible assumption) | assumption)
                          obtain ⟨ad105, e105, hx105_0⟩ := Kd.at_string HRG0.out x4_1 p105 q105
                          obtain rfl : (⟨0, 0, none⟩ : Addr) = ad105 := (by injection e105)
                          (first | simp only [add_plain] at hx105_0 | simp only [add_at] at hx105_0 | simp only [Addr.add, Nat.zero_add] at hx105_0 | skip)
                          replace hx105_0 := (HB.out.cell (World.block_lt_of_cell? w _ hx105_0)).trans hx105_0
                          replace p105 := eq_true p105
                          replace q105 := eq_true q105
                          go_wp2
                          repeat (go_quiet (fail); try go_wp2)
                          go_roundg k2
                          case measure => have := HK1.out; have := HK2.out; omega
                          case rel => exact ⟨(x10_1), (ji22), (wrap64 (x10_1 + 1)), (by first | rfl | (simp; done) | (simp [*]; done)), (by first | rfl | (simp; done) | (simp only [← hji22] <;> (first | rfl | simp)) | (simp [*]; done)), (by first | rfl | (simp; done) | (simp [*]; done)), H', ⟨by have := HK1.out; have := HK2.out; omega⟩, ⟨by repeat (first | (with_reducible first | exact HB.out | apply below_alloc | apply pw_below_drewN | apply below_drew1) | exact HB.out)⟩⟩
                        · rw [if_neg c27] at H
                          have c27b0 : decide (((rdOf ByteArray.empty tabG0 x4_1).size : Int) < x8_2) = false := decide_eq_false c27
                          clear c27
                          have H' := Aside0.mk H
                          clear H
                          have p105 : 0 ≤ (x4_1 : Int) := of_decide_eq_true (by first | (with_reducible assumption) | assumption)
                          have q105 : x4_1 < (58 : Int) := of_decide_eq_true (by first | (with_reducible assumption) | assumption)
                          obtain ⟨ad105, e105, hx105_0⟩ := Kd.at_string HRG0.out x4_1 p105 q105
                          obtain rfl : (⟨0, 0, none⟩ : Addr) = ad105 := (by injection e105)
                          (first | simp only [add_plain] at hx105_0 | simp only [add_at] at hx105_0 | simp only [Addr.add, Nat.zero_add] at hx105_0 | skip)
                          replace hx105_0 := (HB.out.cell (World.block_lt_of_cell? w _ hx105_0)).trans hx105_0
                          replace p105 := eq_true p105
                          replace q105 := eq_true q105
                          go_wp2
                          repeat (go_quiet (fail); try go_wp2)
                          go_roundg k2
                          case measure => have := HK1.out; have := HK2.out; omega
                          case rel => exact ⟨(x4_1), (ji22), (wrap64 (x10_1 + 1)), (by first | rfl | (simp; done) | (simp [*]; done)), (by first | rfl | (simp; done) | (simp only [← hji22] <;> (first | rfl | simp)) | (simp [*]; done)), (by first | rfl | (simp; done) | (simp [*]; done)), H', ⟨by have := HK1.out; have := HK2.out; omega⟩, ⟨by repeat (first | (with_reducible first | exact HB.out | apply below_alloc | apply pw_below_drewN | apply below_drew1) | exact HB.out)⟩⟩
                      · rw [if_neg c26] at H
                        exact absurd H (by simp)
                    · rw [if_neg c25] at H
                      exact absurd H (by simp)
                · rw [if_neg c23] at H
                  have c23b0 : (x8_2 == ((rdOf ByteArray.empty tabG0 x10_1).size : Int)) = false := beq_eq_false_iff_ne.mpr c23
                  have c23b1 : (x8_2 != ((rdOf ByteArray.empty tabG0 x10_1).size : Int)) = true := bne_iff_ne.mpr c23
                  have H' := Aside0.mk H
                  clear H
                  go_wp2
                  repeat (go_quiet (fail); try go_wp2)
                  go_roundg k2
                  case measure => have := HK1.out; have := HK2.out; omega
                  case rel => exact ⟨(x4_1), (ji22), (wrap64 (x10_1 + 1)), (by first | rfl | (simp; done) | (simp [*]; done)), (by first | rfl | (simp; done) | (simp only [← hji22] <;> (first | rfl | simp)) | (simp [*]; done)), (by first | rfl | (simp; done) | (simp [*]; done)), H', ⟨by have := HK1.out; have := HK2.out; omega⟩, ⟨by repeat (first | (with_reducible first | exact HB.out | apply below_alloc | apply pw_below_drewN | apply below_drew1) | exact HB.out)⟩⟩
        · rw [if_neg c3] at H
          exact absurd H (by simp)
      · rw [if_neg c2] at H
        have c2b0 : decide (x10_1 < 58) = false := decide_eq_false c2
        clear c2
        by_cases c28 : x4_1 ≥ 0
        · rw [if_pos c28] at H
          have c28b0 : decide (0 ≤ x4_1) = true := decide_eq_true c28
          clear c28
          by_cases c29 : 0 ≤ x4_1
          · rw [if_pos c29] at H
            have c29b0 : decide (0 ≤ x4_1) = true := decide_eq_true c29
            clear c29
            by_cases c30 : x4_1 < 58
            · rw [if_pos c30] at H
              have c30b0 : decide (x4_1 < 58) = true := decide_eq_true c30
              clear c30
              by_cases c31 : ((rdOf ByteArray.empty tabG0 x4_1).size : Int) < x5_1
              · rw [if_pos c31] at H
                have c31b0 : decide (((rdOf ByteArray.empty tabG0 x4_1).size : Int) < x5_1) = true := decide_eq_true c31
                clear c31
                simp only [Option.some.injEq, Prod.mk.injEq] at H
                obtain ⟨rfl, rfl⟩ := H
                have p101 : 0 ≤ (x4_1 : Int) := of_decide_eq_true (by first | (with_reducible assumption) | assumption)
                have q101 : x4_1 < (58 : Int) := of_decide_eq_true (by first | (with_reducible assumption) | assumption)
                obtain ⟨ad101, e101, hx101_0⟩ := Kd.at_string HRG0.out x4_1 p101 q101
                obtain rfl : (⟨0, 0, none⟩ : Addr) = ad101 := (by injection e101)
                (first | simp only [add_plain] at hx101_0 | simp only [add_at] at hx101_0 | simp only [Addr.add, Nat.zero_add] at hx101_0 | skip)
                replace hx101_0 := (HB.out.cell (World.block_lt_of_cell? w _ hx101_0)).trans hx101_0
                replace p101 := eq_true p101
                replace q101 := eq_true q101
                go_wp2
                repeat (go_quiet (fail); try go_wp2)
                go_ret2
                exact ⟨by first | rfl | (simp [errW_none, errW_some] <;> rfl) | (simp [*, errW_none, errW_some] <;> rfl), by repeat (first | (with_reducible first | exact HB.out | apply below_alloc | apply pw_below_drewN | apply below_drew1) | exact HB.out)⟩
              · rw [if_neg c31] at H
                have c31b0 : decide (((rdOf ByteArray.empty tabG0 x4_1).size : Int) < x5_1) = false := decide_eq_false c31
                clear c31
                simp only [Option.some.injEq, Prod.mk.injEq] at H
                obtain ⟨rfl, rfl⟩ := H
                have p101 : 0 ≤ (x4_1 : Int) := of_decide_eq_true (by first | (with_reducible assumption) | assumption)
                have q101 : x4_1 < (58 : Int) := of_decide_eq_true (by first | (with_reducible assumption) | assumption)
                obtain ⟨ad101, e101, hx101_0⟩ := Kd.at_string HRG0.out x4_1 p101 q101
                obtain rfl : (⟨0, 0, none⟩ : Addr) = ad101 := (by injection e101)
                (first | simp only [add_plain] at hx101_0 | simp only [add_at] at hx101_0 | simp only [Addr.add, Nat.zero_add] at hx101_0 | skip)
                replace hx101_0 := (HB.out.cell (World.block_lt_of_cell? w _ hx101_0)).trans hx101_0
                replace p101 := eq_true p101
                replace q101 := eq_true q101
                go_wp2
                repeat (go_quiet (fail); try go_wp2)
                go_ret2
                exact ⟨by first | rfl | (simp [errW_none, errW_some] <;> rfl) | (simp [*, errW_none, errW_some] <;> rfl), by repeat (first | (with_reducible first | exact HB.out | apply below_alloc | apply pw_below_drewN | apply below_drew1) | exact HB.out)⟩
            · rw [if_neg c30] at H
              exact absurd H (by simp)
          · rw [if_neg c29] at H
            exact absurd H (by simp)
        · rw [if_neg c28] at H
          have c28b0 : decide (0 ≤ x4_1) = false := decide_eq_false c28
          clear c28
          simp only [Option.some.injEq, Prod.mk.injEq] at H
          obtain ⟨rfl, rfl⟩ := H
          go_wp2
          repeat (go_quiet (fail); try go_wp2)
          go_ret2
          exact ⟨by first | rfl | (simp [errW_none, errW_some] <;> rfl) | (simp [*, errW_none, errW_some] <;> rfl), by repeat (first | (with_reducible first | exact HB.out | apply below_alloc | apply pw_below_drewN | apply below_drew1) | exact HB.out)⟩

set_option maxHeartbeats 8000000 in
set_option maxRecDepth 100000 in
theorem tree_Draw.calls0 (k : Nat) (a0 : ByteArray) (r1 : List (S43)) (r2 : Int) (r3 : Int) (w : World) (h : tree_Draw.f k a0 = some (r1, r2, r3)) (hs_ : SG0 w) :
    Calls Tryd.prog 7 #[.string a0] w fun e w' => ∃ v0_ : Value, e = .returned (.tuple #[.agg #[v0_], .int .i64 r2, .int .i64 r3]) ∧ Kd.R k43 43 w' w.heap.size (fun _ => True) v0_ r1 ∧ Below w.heap.size w w' := by
  have hu24 := Tryd.underlying24
  have hu43 := Tryd.underlying43
  have HRG0 := Aside0.mk hs_.g0
  have HSG := Aside0.mk hs_
  clear hs_
  have HB := Aside0.mk (Below.refl w.heap.size w)
  have H : (tree_Draw.l0 k a0 ([] : List Int) ([] : List (S43)) 0) = some (r1, r2, r3) := h
  clear h
  have H' := Aside0.mk H
  clear H
  go_enter Tryd.func7, Tryd.ntmps7
  go_wp2_with (first | ((with_reducible refine gate_dst (N := 2) rfl ?_); (try (refine gate_guard (by rfl) ?_; dsimp only)); refine box_event ?hg (N := 2) ?hd (cs := #[.slice none 0 0]) (t := 24) ?hr ?_; (case hd => rfl); (case hg => rfl); (case hr => first | (go_simp; done) | (go_simp; rfl)); intro gb107 hg w2 hbox hb; have n0_ := Aside0.mk (below_step (by repeat (first | (with_reducible first | exact HB.out | apply below_alloc | apply pw_below_drewN | apply below_drew1) | exact HB.out)) hb); have n1_ := Aside0.mk (hbox); have n2_ := Aside0.mk ((by rw [hg]; exact (below_size (by repeat (first | (with_reducible first | exact HB.out | apply below_alloc | apply pw_below_drewN | apply below_drew1) | exact HB.out))) : w.heap.size ≤ gb107)); have n3_ := Aside0.mk ((by rw [hg]; exact (below_size (by repeat (first | (with_reducible first | exact HB.out | apply below_alloc | apply pw_below_drewN | apply below_drew1) | exact HB.out))) : w.heap.size ≤ gb107)); clear HB; have HB := n0_; have BK107 := n1_; have GW107 := n2_; have GE107 := n3_; clear n0_ n1_ n2_ n3_; clear hb hbox hg) | ((with_reducible refine gate_dst (N := 5) rfl ?_); (try (refine gate_guard (by rfl) ?_; dsimp only)); refine box_event ?hg (N := 5) ?hd (cs := #[.slice none 0 0]) (t := 24) ?hr ?_; (case hd => rfl); (case hg => rfl); (case hr => first | (go_simp; done) | (go_simp; rfl)); intro gb108 hg w3 hbox hb; have n0_ := Aside0.mk (blk_below (g := gb107) (o := .cells #[.slice none 0 0] 24 (0, 0)) (by (with_reducible repeat (first | refine blk_drewN ?_ _ | refine blk_drew ?_ | refine blk_alloc ?_ _)); exact BK107.out) hb); have n1_ := Aside0.mk (below_step (by repeat (first | (with_reducible first | exact HB.out | apply below_alloc | apply pw_below_drewN | apply below_drew1 | refine below_set ?_ GE107.out) | exact HB.out)) hb); have n2_ := Aside0.mk (hbox); have n3_ := Aside0.mk ((by rw [hg]; exact (below_size (by repeat (first | (with_reducible first | exact HB.out | apply below_alloc | apply pw_below_drewN | apply below_drew1 | refine below_set ?_ GE107.out) | exact HB.out))) : w.heap.size ≤ gb108)); have n4_ := Aside0.mk ((by rw [hg]; exact (below_size (by repeat (first | (with_reducible first | exact HB.out | apply below_alloc | apply pw_below_drewN | apply below_drew1 | refine below_set ?_ GE107.out) | exact HB.out))) : w.heap.size ≤ gb108)); have n5_ := Aside0.mk ((by rw [hg]; exact Nat.ne_of_lt (blk_lt (g := gb107) (o := .cells #[.slice none 0 0] 24 (0, 0)) (by (with_reducible repeat (first | refine blk_drewN ?_ _ | refine blk_drew ?_ | refine blk_alloc ?_ _)); exact BK107.out)) : gb107 ≠ gb108)); have n6_ := Aside0.mk ((by rw [hg]; exact Nat.ne_of_gt (blk_lt (g := gb107) (o := .cells #[.slice none 0 0] 24 (0, 0)) (by (with_reducible repeat (first | refine blk_drewN ?_ _ | refine blk_drew ?_ | refine blk_alloc ?_ _)); exact BK107.out)) : gb108 ≠ gb107)); clear BK107; clear HB; have BK107 := n0_; have HB := n1_; have BK108 := n2_; have GW108 := n3_; have GE108 := n4_; have NB107_108 := n5_; have NB108_107 := n6_; clear n0_ n1_ n2_ n3_ n4_ n5_ n6_; clear hb hbox hg) | ((with_reducible refine gate_dst (N := 7) rfl ?_); (try (refine gate_guard (by rfl) ?_; dsimp only)); refine box_event ?hg (N := 7) ?hd (cs := #[.int .i64 0]) (t := 3) ?hr ?_; (case hd => rfl); (case hg => rfl); (case hr => first | (go_simp; done) | (go_simp; rfl)); intro gb109 hg w4 hbox hb; have n0_ := Aside0.mk (blk_below (g := gb107) (o := .cells #[.slice none 0 0] 24 (0, 0)) (by (with_reducible repeat (first | refine blk_drewN ?_ _ | refine blk_drew ?_ | refine blk_alloc ?_ _)); exact BK107.out) hb); have n1_ := Aside0.mk (blk_below (g := gb108) (o := .cells #[.slice none 0 0] 24 (0, 0)) (by (with_reducible repeat (first | refine blk_drewN ?_ _ | refine blk_drew ?_ | refine blk_alloc ?_ _)); exact BK108.out) hb); have n2_ := Aside0.mk (below_step (by repeat (first | (with_reducible first | exact HB.out | apply below_alloc | apply pw_below_drewN | apply below_drew1 | refine below_set ?_ GE107.out | refine below_set ?_ GE108.out) | exact HB.out)) hb); have n3_ := Aside0.mk (hbox); have n4_ := Aside0.mk ((by rw [hg]; exact (below_size (by repeat (first | (with_reducible first | exact HB.out | apply below_alloc | apply pw_below_drewN | apply below_drew1 | refine below_set ?_ GE107.out | refine below_set ?_ GE108.out) | exact HB.out))) : w.heap.size ≤ gb109)); have n5_ := Aside0.mk ((by rw [hg]; exact (below_size (by repeat (first | (with_reducible first | exact HB.out | apply below_alloc | apply pw_below_drewN | apply below_drew1 | refine below_set ?_ GE107.out | refine below_set ?_ GE108.out) | exact HB.out))) : w.heap.size ≤ gb109)); have n6_ := Aside0.mk ((by rw [hg]; exact Nat.ne_of_lt (blk_lt (g := gb107) (o := .cells #[.slice none 0 0] 24 (0, 0)) (by (with_reducible repeat (first | refine blk_drewN ?_ _ | refine blk_drew ?_ | refine blk_alloc ?_ _)); exact BK107.out)) : gb107 ≠ gb109)); have n7_ := Aside0.mk ((by rw [hg]; exact Nat.ne_of_gt (blk_lt (g := gb107) (o := .cells #[.slice none 0 0] 24 (0, 0)) (by (with_reducible repeat (first | refine blk_drewN ?_ _ | refine blk_drew ?_ | refine blk_alloc ?_ _)); exact BK107.out)) : gb109 ≠ gb107)); have n8_ := Aside0.mk ((by rw [hg]; exact Nat.ne_of_lt (blk_lt (g := gb108) (o := .cells #[.slice none 0 0] 24 (0, 0)) (by (with_reducible repeat (first | refine blk_drewN ?_ _ | refine blk_drew ?_ | refine blk_alloc ?_ _)); exact BK108.out)) : gb108 ≠ gb109)); have n9_ := Aside0.mk ((by rw [hg]; exact Nat.ne_of_gt (blk_lt (g := gb108) (o := .cells #[.slice none 0 0] 24 (0, 0)) (by (with_reducible repeat (first | refine blk_drewN ?_ _ | refine blk_drew ?_ | refine blk_alloc ?_ _)); exact BK108.out)) : gb109 ≠ gb108)); clear BK107; clear BK108; clear HB; have BK107 := n0_; have BK108 := n1_; have HB := n2_; have BK109 := n3_; have GW109 := n4_; have GE109 := n5_; have NB107_109 := n6_; have NB109_107 := n7_; have NB108_109 := n8_; have NB109_108 := n9_; clear n0_ n1_ n2_ n3_ n4_ n5_ n6_ n7_ n8_ n9_; clear hb hbox hg; have hnb5 := NB109_107.out; have hnc5 := NB107_109.out; have hnb6 := NB109_108.out; have hnc6 := NB108_109.out; have hcz7_0 : w4.cell? ⟨gb109, 0, none⟩ = some (.int .i64 0) := (blk_cell BK109.out 0).trans rfl; have hfz7_0 := blk_frozen BK109.out 0))
  go_loopg [6] k (fun kq v6 w' => ∃ (x6_1 : List Int) (x109000_1 : List (S43)) (x110000_1 : Int) (u109000 : Value), Aside0 (tree_Draw.l0 kq a0 x6_1 x109000_1 x110000_1 = some (r1, r2, r3)) ∧ Aside0 (kq ≤ k) ∧ Aside0 (Kd.R (Kd.int .i64) 3 w' w.heap.size (fun k_ => k_ ≠ gb109) v6 x6_1) ∧ Aside0 (Kd.R k43 43 w' w.heap.size (fun _ => True) u109000 x109000_1) ∧ Aside0 (w'.heap[gb107]? = some (.cells #[(.slice none 0 0)] 24 (0, 0))) ∧ Aside0 (w'.heap[gb108]? = some (.cells #[u109000] 24 (0, 0))) ∧ Aside0 (w'.heap[gb109]? = some (.cells #[.int .i64 x110000_1] 3 (0, 0))) ∧ Aside0 (Below w.heap.size w w'))
  case atStart => exact ⟨(([] : List Int)), (([] : List (S43))), (0), (.slice none 0 0), H', ⟨Nat.le_refl _⟩, ⟨by first | exact Kd.R_nil _ _ _ _ _ | exact Kd.N_nil _ _ _ _ _ | exact Kd.V_nil _ _ _ _ _ | exact Kd.Q_nil _ _ _ _ _ | exact Kd.S_nil _ _ _ _ _⟩, ⟨by first | exact Kd.R_nil _ _ _ _ _ | exact Kd.N_nil _ _ _ _ _ | exact Kd.V_nil _ _ _ _ _ | exact Kd.Q_nil _ _ _ _ _ | exact Kd.S_nil _ _ _ _ _⟩, ⟨by (with_reducible repeat (first | refine blk_drewN ?_ _ | refine blk_drew ?_ | refine blk_alloc ?_ _)); refine blk_far ?_ NB107_109.out _; (with_reducible repeat (first | refine blk_drewN ?_ _ | refine blk_drew ?_ | refine blk_alloc ?_ _)); exact BK107.out⟩, ⟨by (with_reducible repeat (first | refine blk_drewN ?_ _ | refine blk_drew ?_ | refine blk_alloc ?_ _)); refine blk_far ?_ NB108_109.out _; (with_reducible repeat (first | refine blk_drewN ?_ _ | refine blk_drew ?_ | refine blk_alloc ?_ _)); exact BK108.out⟩, ⟨by (with_reducible repeat (first | refine blk_drewN ?_ _ | refine blk_drew ?_ | refine blk_alloc ?_ _)); refine blk_put (cs := #[.int .i64 0]) ?_ 0 _ rfl; (with_reducible repeat (first | refine blk_drewN ?_ _ | refine blk_drew ?_ | refine blk_alloc ?_ _)); exact BK109.out⟩, ⟨by repeat (first | (with_reducible first | exact HB.out | apply below_alloc | apply pw_below_drewN | apply below_drew1 | refine below_set ?_ GE107.out | refine below_set ?_ GE108.out | refine below_set ?_ GE109.out) | exact HB.out)⟩⟩
  case round =>
    clear H'
    try clear p2
    try clear c5
    try clear c6
    try clear c7
    try clear hcz7_0
    try clear hfz7_0
    obtain ⟨x6_1, x109000_1, x110000_1, u109000, HA, HK1, HO_6, HO_109000, BK107, BK108, BK109, HB⟩ := hrel
    cases gk with
    | zero => exact absurd HA.out (by simp [tree_Draw.l0])
    | succ k1 =>
      have H := HA.out
      clear HA
      simp only [tree_Draw.l0] at H
      by_cases c8 : 0 ≤ x110000_1
      · rw [if_pos c8] at H
        have c8b0 := eq_true c8
        have c8b1 : decide (0 ≤ x110000_1) = true := decide_eq_true c8
        clear c8
        by_cases c9 : x110000_1 ≤ (a0.size : Int)
        · rw [if_pos c9] at H
          have c9b0 := eq_true c9
          have c9b1 : decide (x110000_1 ≤ (a0.size : Int)) = true := decide_eq_true c9
          clear c9
          replace H := Option.bind_eq_some_iff.mp H
          obtain ⟨⟨t110, t111⟩, A100, H⟩ := H
          replace H : (if t110 < 0 then ((tree_fault.f k1 (wrap64 (x110000_1 + t111))).bind fun bt112 => (some (bt112.1, bt112.2.1, bt112.2.2))) else (if x109000_1.length < 4398046511104 then ((some (x109000_1 ++ [(⟨(t110) % 256, 0, 0, 1⟩ : S43)] : List (S43))).bind fun y117 => (if 0 ≤ (wrap64 (x110000_1 + t111)) then (if (wrap64 (x110000_1 + t111)) ≤ (a0.size : Int) then ((strings_HasPrefix.f (a0.extract ((wrap64 (x110000_1 + t111)) : Int).toNat a0.size) (⟨#[40]⟩ : ByteArray)).bind fun t120 => (if t120 = true then (if x6_1.length < 17592186044416 then (tree_Draw.l0 k1 a0 (x6_1 ++ [wrap64 ((y117.length : Int) - 1)]) y117 (wrap64 ((wrap64 (x110000_1 + t111)) + 1))) else (none)) else (tree_Draw.l1 k1 a0 x6_1 y117 (wrap64 (x110000_1 + t111))))) else (none)) else (none))) else (none))) = some (r1, r2, r3) := H
          have A10 := Aside0.mk A100
          clear A100
          by_cases c11 : t110 < 0
          · rw [if_pos c11] at H
            have c11b0 : decide (t110 < 0) = true := decide_eq_true c11
            clear c11
            replace H := Option.bind_eq_some_iff.mp H
            obtain ⟨⟨t112, t115, t116⟩, A120, H⟩ := H
            replace H : (some (t112, t115, t116)) = some (r1, r2, r3) := H
            have A12 := Aside0.mk A120
            clear A120
            simp only [Option.some.injEq, Prod.mk.injEq] at H
            obtain ⟨rfl, rfl, rfl⟩ := H
            have hnb13 := NB109_107.out
            have hnc13 := NB107_109.out
            have hnb14 := NB109_108.out
            have hnc14 := NB108_109.out
            have hcz15_0 : wr.cell? ⟨gb109, 0, none⟩ = some (.int .i64 x110000_1) := (blk_cell BK109.out 0).trans rfl
            have hfz15_0 := blk_frozen BK109.out 0
            have EG : ∀ args W, (callFunc 34 args).run Tryd.prog W = .ok (.enter 34 args) W := fun args W => enters_ Tryd.func34 (by kernel_rfl) rfl args W
            go_wp2_with (first | ((with_reducible refine gate_callee (f := 35) rfl ?_); refine goesL_ (some 17) rfl rfl Tryd.func35 (by kernel_rfl) rfl #[.string (a0.extract (x110000_1 : Int).toNat a0.size)] rfl (by (try simp only [List.map_toArray, List.map_cons, List.map_nil]); first | done | rfl | (simp only [List.length_drop, List.length_take]; rfl)) ?_; (with_reducible refine (tree_longest.calls0 k1 (a0.extract (x110000_1 : Int).toNat a0.size) t110 t111 _ A10.out (SG0.below HSG.out (by repeat (first | (with_reducible first | exact HB.out | apply below_alloc | apply pw_below_drewN | apply below_drew1 | refine below_set ?_ GE107.out | refine below_set ?_ GE108.out | refine below_set ?_ GE109.out) | exact HB.out)))).mono ?_); rintro e w16 ⟨rfl, hb⟩; refine ⟨_, rfl, ?_⟩; have n0_ := Aside0.mk (Kd.R_below (by (with_reducible repeat (first | apply Kd.R_alloc | apply Kd.R_drewN | apply Kd.R_drew)); exact HO_6.out) hb); have n1_ := Aside0.mk (Kd.R_below (by (with_reducible repeat (first | apply Kd.R_alloc | apply Kd.R_drewN | apply Kd.R_drew)); exact HO_109000.out) hb); have n2_ := Aside0.mk (blk_below (g := gb107) (o := .cells #[.slice none 0 0] 24 (0, 0)) (by (with_reducible repeat (first | refine blk_drewN ?_ _ | refine blk_drew ?_ | refine blk_alloc ?_ _)); exact BK107.out) hb); have n3_ := Aside0.mk (blk_below (g := gb108) (o := .cells #[u109000] 24 (0, 0)) (by (with_reducible repeat (first | refine blk_drewN ?_ _ | refine blk_drew ?_ | refine blk_alloc ?_ _)); exact BK108.out) hb); have n4_ := Aside0.mk (blk_below (g := gb109) (o := .cells #[.int .i64 x110000_1] 3 (0, 0)) (by (with_reducible repeat (first | refine blk_drewN ?_ _ | refine blk_drew ?_ | refine blk_alloc ?_ _)); exact BK109.out) hb); have n5_ := Aside0.mk (below_step (by repeat (first | (with_reducible first | exact HB.out | apply below_alloc | apply pw_below_drewN | apply below_drew1 | refine below_set ?_ GE107.out | refine below_set ?_ GE108.out | refine below_set ?_ GE109.out) | exact HB.out)) hb); clear HO_6; clear HO_109000; clear BK107; clear BK108; clear BK109; clear HB; have HO_6 := n0_; have HO_109000 := n1_; have BK107 := n2_; have BK108 := n3_; have BK109 := n4_; have HB := n5_; clear n0_ n1_ n2_ n3_ n4_ n5_; (try clear hb); (try clear hb2); (try clear hk); (try clear hi); have hcz17_0 : w16.cell? ⟨gb109, 0, none⟩ = some (.int .i64 x110000_1) := (blk_cell BK109.out 0).trans rfl; have hfz17_0 := blk_frozen BK109.out 0))
            refine (tree_fault.calls k1 (wrap64 (x110000_1 + t111)) t112 t115 t116 _ A12.out gb109 (by (with_reducible repeat (first | refine blk_drewN ?_ _ | refine blk_drew ?_ | refine blk_alloc ?_ _)); refine blk_put (cs := #[.int .i64 x110000_1]) ?_ 0 _ rfl; (with_reducible repeat (first | refine blk_drewN ?_ _ | refine blk_drew ?_ | refine blk_alloc ?_ _)); exact BK109.out)).mono ?_
            rintro e w18 ⟨v113, rfl, ho0, hb⟩
            clear EG
            have n0_ := Aside0.mk (Kd.R_below (by (with_reducible repeat (first | apply Kd.R_alloc | apply Kd.R_drewN | apply Kd.R_drew)); exact (Kd.R_mono (Kd.R_far (p := ⟨gb109, 0, none⟩) (Kd.R_mono HO_6.out (fun k_ hk => (⟨hk, hk⟩ : _ ∧ k_ ≠ gb109))) (fun _ hk => hk.2) (.int .i64 (wrap64 (x110000_1 + t111)))) (fun _ h_ => h_.1))) hb)
            have n1_ := Aside0.mk (Kd.R_elder' (by (with_reducible repeat (first | apply Kd.R_alloc | apply Kd.R_drewN | apply Kd.R_drew)); exact (Kd.R_mono (Kd.R_far (p := ⟨gb109, 0, none⟩) (Kd.R_types HO_109000.out BK109.out (by decide)) (fun _ hk => hk.2) (.int .i64 (wrap64 (x110000_1 + t111)))) (fun _ h_ => h_.1))) (Kd.R_base ho0) hb)
            have n2_ := Aside0.mk (Kd.R_lower (Kd.R_new' ho0 (Kd.R_lt (by (with_reducible repeat (first | apply Kd.R_alloc | apply Kd.R_drewN | apply Kd.R_drew)); exact (Kd.R_mono (Kd.R_far (p := ⟨gb109, 0, none⟩) (Kd.R_types HO_109000.out BK109.out (by decide)) (fun _ hk => hk.2) (.int .i64 (wrap64 (x110000_1 + t111)))) (fun _ h_ => h_.1))))) (below_size (by repeat (first | (with_reducible first | exact HB.out | apply below_alloc | apply pw_below_drewN | apply below_drew1 | refine below_set ?_ GE107.out | refine below_set ?_ GE108.out | refine below_set ?_ GE109.out) | exact HB.out))))
            have n3_ := Aside0.mk (blk_below (g := gb107) (o := .cells #[.slice none 0 0] 24 (0, 0)) (by (with_reducible repeat (first | refine blk_drewN ?_ _ | refine blk_drew ?_ | refine blk_alloc ?_ _)); refine blk_far ?_ NB107_109.out _; (with_reducible repeat (first | refine blk_drewN ?_ _ | refine blk_drew ?_ | refine blk_alloc ?_ _)); exact BK107.out) hb)
            have n4_ := Aside0.mk (blk_below (g := gb108) (o := .cells #[u109000] 24 (0, 0)) (by (with_reducible repeat (first | refine blk_drewN ?_ _ | refine blk_drew ?_ | refine blk_alloc ?_ _)); refine blk_far ?_ NB108_109.out _; (with_reducible repeat (first | refine blk_drewN ?_ _ | refine blk_drew ?_ | refine blk_alloc ?_ _)); exact BK108.out) hb)
            have n5_ := Aside0.mk (blk_below (g := gb109) (o := .cells #[.int .i64 (wrap64 (x110000_1 + t111))] 3 (0, 0)) (by (with_reducible repeat (first | refine blk_drewN ?_ _ | refine blk_drew ?_ | refine blk_alloc ?_ _)); refine blk_put (cs := #[.int .i64 x110000_1]) ?_ 0 _ rfl; (with_reducible repeat (first | refine blk_drewN ?_ _ | refine blk_drew ?_ | refine blk_alloc ?_ _)); exact BK109.out) hb)
            have n6_ := Aside0.mk (below_step (by repeat (first | (with_reducible first | exact HB.out | apply below_alloc | apply pw_below_drewN | apply below_drew1 | refine below_set ?_ GE107.out | refine below_set ?_ GE108.out | refine below_set ?_ GE109.out) | exact HB.out)) hb)
            clear HO_6
            clear HO_109000
            clear BK107
            clear BK108
            clear BK109
            clear HB
            have HO_6 := n0_
            have HO_109000 := n1_
            have HO114 := n2_
            have BK107 := n3_
            have BK108 := n4_
            have BK109 := n5_
            have HB := n6_
            clear n0_ n1_ n2_ n3_ n4_ n5_ n6_
            (try clear hb)
            (try clear hb2)
            (try clear hk)
            (try clear hi)
            (try clear ho0)
            obtain ⟨Ao19, co19, eo19⟩ := Kd.R_slice HO114.out
            subst eo19
            have hnb20 := NB107_108.out
            have hnc20 := NB108_107.out
            have hcz21_0 : w18.cell? ⟨gb107, 0, none⟩ = some (.slice none 0 0) := (blk_cell BK107.out 0).trans rfl
            have hfz21_0 := blk_frozen BK107.out 0
            go_wp2
            refine bodyPost_ret (results_ctt rfl _ _ gb107 24 #[.slice Ao19 t112.length co19] (0, 0) _ rfl (by (with_reducible repeat (first | refine blk_drewN ?_ _ | refine blk_drew ?_ | refine blk_alloc ?_ _)); refine blk_put (cs := #[.slice none 0 0]) ?_ 0 _ rfl; (with_reducible repeat (first | refine blk_drewN ?_ _ | refine blk_drew ?_ | refine blk_alloc ?_ _)); exact BK107.out) Tryd.underlying24 rfl (by kernel_rfl)) rfl ?_
            exact ⟨_, by first | rfl | (simp [errW_none, errW_some] <;> rfl) | (simp [*, errW_none, errW_some] <;> rfl), by (with_reducible repeat (first | apply Kd.R_alloc | apply Kd.R_drewN | apply Kd.R_drew)); exact Kd.R_mono (Kd.R_far (p := ⟨gb107, 0, none⟩) (Kd.R_types HO114.out BK107.out (by decide)) (fun _ hk => hk.2) (.slice Ao19 t112.length co19)) (fun _ hk => trivial), by repeat (first | (with_reducible first | exact HB.out | apply below_alloc | apply pw_below_drewN | apply below_drew1 | refine below_set ?_ GE107.out | refine below_set ?_ GE108.out | refine below_set ?_ GE109.out) | exact HB.out)⟩
          · rw [if_neg c11] at H
            have c11b0 : decide (t110 < 0) = false := decide_eq_false c11
            clear c11
            by_cases c22 : x109000_1.length < 4398046511104
            · rw [if_pos c22] at H
              have LMc22 := Aside0.mk c22
              clear c22
              obtain ⟨y117, hy117⟩ : ∃ y_ : List (S43), y_ = (x109000_1 ++ [(⟨(t110) % 256, 0, 0, 1⟩ : S43)]) := ⟨_, rfl⟩
              replace H : (if 0 ≤ (wrap64 (x110000_1 + t111)) then (if (wrap64 (x110000_1 + t111)) ≤ (a0.size : Int) then ((strings_HasPrefix.f (a0.extract ((wrap64 (x110000_1 + t111)) : Int).toNat a0.size) (⟨#[40]⟩ : ByteArray)).bind fun t120 => (if t120 = true then (if x6_1.length < 17592186044416 then (tree_Draw.l0 k1 a0 (x6_1 ++ [wrap64 ((y117.length : Int) - 1)]) y117 (wrap64 ((wrap64 (x110000_1 + t111)) + 1))) else (none)) else (tree_Draw.l1 k1 a0 x6_1 y117 (wrap64 (x110000_1 + t111))))) else (none)) else (none)) = some (r1, r2, r3) := by first | (rw [hy117]; with_reducible exact H) | (have H2_ := (Option.bind_some _ _).symm.trans H; rw [hy117]; with_reducible exact H2_) | (have H2_ := (Option.bind_some _ _).symm.trans H; with_reducible exact H2_) | with_reducible exact H | (rw [hy117]; exact H) | exact H
              have Ny117 := Aside0.mk hy117
              clear hy117
              obtain ⟨ji23, hji23⟩ : ∃ j_ : Int, (wrap64 (x110000_1 + t111)) = j_ := ⟨_, rfl⟩
              replace H : (if 0 ≤ (ji23) then (if (ji23) ≤ (a0.size : Int) then ((strings_HasPrefix.f (a0.extract ((ji23) : Int).toNat a0.size) (⟨#[40]⟩ : ByteArray)).bind fun t120 => (if t120 = true then (if x6_1.length < 17592186044416 then (tree_Draw.l0 k1 a0 (x6_1 ++ [wrap64 ((y117.length : Int) - 1)]) y117 (wrap64 ((ji23) + 1))) else (none)) else (tree_Draw.l1 k1 a0 x6_1 y117 ji23))) else (none)) else (none)) = some (r1, r2, r3) := by first | (rw [hji23] at H; exact H) | (simp only [hji23] at H ⊢; exact H)
              (try rw [hji23] at A10)
              have hji23w : (IntKind.i64.wrap (x110000_1 + t111)) = ji23 := (i64_w _).trans hji23
              by_cases c24 : 0 ≤ (ji23)
              · rw [if_pos c24] at H
                have c24b0 := eq_true c24
                have c24b1 : decide (0 ≤ (ji23)) = true := decide_eq_true c24
                clear c24
                by_cases c25 : (ji23) ≤ (a0.size : Int)
                · rw [if_pos c25] at H
                  have c25b0 := eq_true c25
                  have c25b1 : decide ((ji23) ≤ (a0.size : Int)) = true := decide_eq_true c25
                  clear c25
                  replace H := Option.bind_eq_some_iff.mp H
                  obtain ⟨t120, A260, H⟩ := H
                  replace H : (if t120 = true then (if x6_1.length < 17592186044416 then (tree_Draw.l0 k1 a0 (x6_1 ++ [wrap64 ((y117.length : Int) - 1)]) y117 (wrap64 ((ji23) + 1))) else (none)) else (tree_Draw.l1 k1 a0 x6_1 y117 ji23)) = some (r1, r2, r3) := H
                  have A26 := Aside0.mk A260
                  clear A260
                  by_cases c27 : t120 = true
                  · subst c27
                    have H1 : (if x6_1.length < 17592186044416 then (tree_Draw.l0 k1 a0 (x6_1 ++ [wrap64 ((y117.length : Int) - 1)]) y117 (wrap64 ((ji23) + 1))) else (none)) = some (r1, r2, r3) := by rw [if_pos rfl] at H; exact H
                    clear H
                    have H := H1
                    clear H1
                    by_cases c28 : x6_1.length < 17592186044416
                    · rw [if_pos c28] at H
                      have LMc28 := Aside0.mk c28
                      clear c28
                      obtain ⟨y121, hy121⟩ : ∃ y_ : List Int, y_ = (x6_1 ++ [wrap64 ((y117.length : Int) - 1)]) := ⟨_, rfl⟩
                      replace H : (tree_Draw.l0 k1 a0 y121 y117 (wrap64 ((ji23) + 1))) = some (r1, r2, r3) := by first | (rw [hy121]; with_reducible exact H) | (have H2_ := (Option.bind_some _ _).symm.trans H; rw [hy121]; with_reducible exact H2_) | (have H2_ := (Option.bind_some _ _).symm.trans H; with_reducible exact H2_) | with_reducible exact H | (rw [hy121]; exact H) | exact H
                      have Ny121 := Aside0.mk hy121
                      clear hy121
                      have H' := Aside0.mk H
                      clear H
                      have hnb29 := NB109_107.out
                      have hnc29 := NB107_109.out
                      have hnb30 := NB109_108.out
                      have hnc30 := NB108_109.out
                      have hcz31_0 : wr.cell? ⟨gb109, 0, none⟩ = some (.int .i64 x110000_1) := (blk_cell BK109.out 0).trans rfl
                      have hfz31_0 := blk_frozen BK109.out 0
                      go_wp2_with (first | ((with_reducible refine gate_callee (f := 35) rfl ?_); refine goesL_ (some 17) rfl rfl Tryd.func35 (by kernel_rfl) rfl #[.string (a0.extract (x110000_1 : Int).toNat a0.size)] rfl (by (try simp only [List.map_toArray, List.map_cons, List.map_nil]); first | done | rfl | (simp only [List.length_drop, List.length_take]; rfl)) ?_; (with_reducible refine (tree_longest.calls0 k1 (a0.extract (x110000_1 : Int).toNat a0.size) t110 t111 _ A10.out (SG0.below HSG.out (by repeat (first | (with_reducible first | exact HB.out | apply below_alloc | apply pw_below_drewN | apply below_drew1 | refine below_set ?_ GE107.out | refine below_set ?_ GE108.out | refine below_set ?_ GE109.out) | exact HB.out)))).mono ?_); rintro e w32 ⟨rfl, hb⟩; refine ⟨_, rfl, ?_⟩; have n0_ := Aside0.mk (Kd.R_below (by (with_reducible repeat (first | apply Kd.R_alloc | apply Kd.R_drewN | apply Kd.R_drew)); exact HO_6.out) hb); have n1_ := Aside0.mk (Kd.R_below (by (with_reducible repeat (first | apply Kd.R_alloc | apply Kd.R_drewN | apply Kd.R_drew)); exact HO_109000.out) hb); have n2_ := Aside0.mk (blk_below (g := gb107) (o := .cells #[.slice none 0 0] 24 (0, 0)) (by (with_reducible repeat (first | refine blk_drewN ?_ _ | refine blk_drew ?_ | refine blk_alloc ?_ _)); exact BK107.out) hb); have n3_ := Aside0.mk (blk_below (g := gb108) (o := .cells #[u109000] 24 (0, 0)) (by (with_reducible repeat (first | refine blk_drewN ?_ _ | refine blk_drew ?_ | refine blk_alloc ?_ _)); exact BK108.out) hb); have n4_ := Aside0.mk (blk_below (g := gb109) (o := .cells #[.int .i64 x110000_1] 3 (0, 0)) (by (with_reducible repeat (first | refine blk_drewN ?_ _ | refine blk_drew ?_ | refine blk_alloc ?_ _)); exact BK109.out) hb); have n5_ := Aside0.mk (below_step (by repeat (first | (with_reducible first | exact HB.out | apply below_alloc | apply pw_below_drewN | apply below_drew1 | refine below_set ?_ GE107.out | refine below_set ?_ GE108.out | refine below_set ?_ GE109.out) | exact HB.out)) hb); clear HO_6; clear HO_109000; clear BK107; clear BK108; clear BK109; clear HB; have HO_6 := n0_; have HO_109000 := n1_; have BK107 := n2_; have BK108 := n3_; have BK109 := n4_; have HB := n5_; clear n0_ n1_ n2_ n3_ n4_ n5_; (try clear hb); (try clear hb2); (try clear hk); (try clear hi); have hcz33_0 : w32.cell? ⟨gb109, 0, none⟩ = some (.int .i64 x110000_1) := (blk_cell BK109.out 0).trans rfl; have hfz33_0 := blk_frozen BK109.out 0; have hnb34 := NB108_107.out; have hnc34 := NB107_108.out; have hcz35_0 : w32.cell? ⟨gb108, 0, none⟩ = some (u109000) := (blk_cell BK108.out 0).trans rfl; have hfz35_0 := blk_frozen BK108.out 0) | ((with_reducible refine gate_builtin (b := .append) (xs := #[.tmp 31, .tmp 35]) rfl ?_); (try (refine gate_guard (by rfl) ?_; dsimp only)); at_builtin; refine Kd.R_append k43 (w0 := w) w.heap.size rfl (.tmp 31) (.tmp 35) 22 43 (.agg #[(.int .u8 0), (.int .i64 0), (.int .i64 0), (.int .i64 0)]) 32 rfl Tryd.underlying22 info43 rfl (by decide) (by omega) u109000 x109000_1 (⟨(t110) % 256, 0, 0, 1⟩ : S43) [.int .u8 ((t110) % 256), .int .i64 0, .int .i64 0, .int .i64 1] (fun _ => True) (fun _ => False) rfl (by first | (go_simp; done) | (go_simp; rfl)) ?aP (fun _ hk => hk.elim) ?aF ?aO ?aB ?aS ?aL ?_; (case aP => exact k43_mkM _ _ _ (⟨(t110) % 256, 0, 0, 1⟩ : S43)); (case aB => exact (by repeat (first | (with_reducible first | exact HB.out | apply below_alloc | apply pw_below_drewN | apply below_drew1 | refine below_set ?_ GE107.out | refine below_set ?_ GE108.out | refine below_set ?_ GE109.out) | exact HB.out))); (case aF => exact (fun _ _ => trivial)); (case aO => exact (by (with_reducible repeat (first | apply Kd.R_alloc | apply Kd.R_drewN | apply Kd.R_drew)); exact Kd.R_mono (Kd.R_far (p := ⟨gb109, 0, none⟩) (Kd.R_types HO_109000.out BK109.out (by decide)) (fun _ hk => hk.2) (.int .i64 ji23)) (fun _ hk => trivial))); (case aS => exact (below_size (by repeat (first | (with_reducible first | exact HB.out | apply below_alloc | apply pw_below_drewN | apply below_drew1 | refine below_set ?_ GE107.out | refine below_set ?_ GE108.out | refine below_set ?_ GE109.out) | exact HB.out)))); (case aL => have := LMc22.out; omega); intro v118 w36 ho hb hg hat; rw [← Ny117.out] at ho; have n0_ := Aside0.mk (Kd.R_over' (by (with_reducible repeat (first | apply Kd.R_alloc | apply Kd.R_drewN | apply Kd.R_drew)); exact (Kd.R_mono (Kd.R_far (p := ⟨gb109, 0, none⟩) (Kd.R_mono HO_6.out (fun k_ hk => (⟨hk, hk⟩ : _ ∧ k_ ≠ gb109))) (fun _ hk => hk.2) (.int .i64 ji23)) (fun _ h_ => h_.1))) (Kd.R_typed (by (with_reducible repeat (first | apply Kd.R_alloc | apply Kd.R_drewN | apply Kd.R_drew)); exact (Kd.R_mono (Kd.R_far (p := ⟨gb109, 0, none⟩) (Kd.R_types HO_109000.out BK109.out (by decide)) (fun _ hk => hk.2) (.int .i64 ji23)) (fun _ h_ => h_.1)))) (by decide) hg); have n1_ := Aside0.mk (blk_grown (g := gb107) (o := .cells #[.slice none 0 0] 24 (0, 0)) (by (with_reducible repeat (first | refine blk_drewN ?_ _ | refine blk_drew ?_ | refine blk_alloc ?_ _)); refine blk_far ?_ NB107_109.out _; (with_reducible repeat (first | refine blk_drewN ?_ _ | refine blk_drew ?_ | refine blk_alloc ?_ _)); exact BK107.out) hg (Kd.R_ne HO_109000.out BK107.out (by decide))); have n2_ := Aside0.mk (blk_grown (g := gb108) (o := .cells #[u109000] 24 (0, 0)) (by (with_reducible repeat (first | refine blk_drewN ?_ _ | refine blk_drew ?_ | refine blk_alloc ?_ _)); refine blk_far ?_ NB108_109.out _; (with_reducible repeat (first | refine blk_drewN ?_ _ | refine blk_drew ?_ | refine blk_alloc ?_ _)); exact BK108.out) hg (Kd.R_ne HO_109000.out BK108.out (by decide))); have n3_ := Aside0.mk (blk_grown (g := gb109) (o := .cells #[.int .i64 ji23] 3 (0, 0)) (by (with_reducible repeat (first | refine blk_drewN ?_ _ | refine blk_drew ?_ | refine blk_alloc ?_ _)); refine blk_put (cs := #[.int .i64 x110000_1]) ?_ 0 _ rfl; (with_reducible repeat (first | refine blk_drewN ?_ _ | refine blk_drew ?_ | refine blk_alloc ?_ _)); exact BK109.out) hg (Kd.R_ne HO_109000.out BK109.out (by decide))); have n4_ := Aside0.mk (hb); have n5_ := Aside0.mk (ho); clear HO_6; clear BK107; clear BK108; clear BK109; clear HB; clear HO_109000; have HO_6 := n0_; have BK107 := n1_; have BK108 := n2_; have BK109 := n3_; have HB := n4_; have HO119 := n5_; clear n0_ n1_ n2_ n3_ n4_ n5_; clear ho hb hg hat; obtain ⟨Ao37, co37, eo37⟩ := Kd.R_slice HO119.out; subst eo37; have hcz38_0 : w36.cell? ⟨gb108, 0, none⟩ = some (u109000) := (blk_cell BK108.out 0).trans rfl; have hfz38_0 := blk_frozen BK108.out 0; have hcz39_0 : w36.cell? ⟨gb109, 0, none⟩ = some (.int .i64 ji23) := (blk_cell BK109.out 0).trans rfl; have hfz39_0 := blk_frozen BK109.out 0) | ((with_reducible refine gate_callee (f := 36) rfl ?_); refine goesL_ (some 41) rfl rfl Tryd.func36 (by kernel_rfl) rfl #[.string (a0.extract ((ji23) : Int).toNat a0.size), .string (⟨#[40]⟩ : ByteArray)] rfl (by (try simp only [List.map_toArray, List.map_cons, List.map_nil]); first | done | (simp only [hji23]; rfl) | rfl | (simp only [List.length_drop, List.length_take]; rfl)) ?_; (with_reducible refine (strings_HasPrefix.calls (a0.extract ((ji23) : Int).toNat a0.size) (⟨#[40]⟩ : ByteArray) true _ A26.out).mono ?_); rintro e w' ⟨rfl, ⟨nd, rfl⟩⟩; refine ⟨_, rfl, ?_⟩) | ((with_reducible refine gate_builtin (b := .append) (xs := #[.tmp 42, .tmp 47]) rfl ?_); (try (refine gate_guard (by rfl) ?_; dsimp only)); at_builtin; refine Kd.R_append (Kd.int .i64) (w0 := w) w.heap.size rfl (.tmp 42) (.tmp 47) 55 3 (.int .i64 0) 8 rfl Tryd.underlying55 info3 rfl (by decide) (by omega) u6 x6_1 (wrap64 ((y117.length : Int) - 1)) [.int .i64 (wrap64 ((y117.length : Int) - 1))] (fun k_ => k_ ≠ gb109) (fun _ => False) rfl (by first | (go_simp; done) | (go_simp; rfl)) ?aP (fun _ hk => hk.elim) ?aF ?aO ?aB ?aS ?aL ?_; (case aP => exact rfl); (case aB => exact (by repeat (first | (with_reducible first | exact HB.out | apply below_alloc | apply pw_below_drewN | apply below_drew1 | refine below_set ?_ GE107.out | refine below_set ?_ GE108.out | refine below_set ?_ GE109.out) | exact HB.out))); (case aF => exact (fun k_ hk => Kd.freshB (g := gb109) (o := .cells #[.int .i64 ji23] 3 (0, 0)) (by (with_reducible repeat (first | refine blk_drewN ?_ _ | refine blk_drew ?_ | refine blk_alloc ?_ _)); refine blk_far ?_ NB109_108.out _; (with_reducible repeat (first | refine blk_drewN ?_ _ | refine blk_drew ?_ | refine blk_alloc ?_ _)); exact BK109.out) k_ hk)); (case aO => exact (by (with_reducible repeat (first | apply Kd.R_alloc | apply Kd.R_drewN | apply Kd.R_drew)); exact Kd.R_mono (Kd.R_far (p := ⟨gb108, 0, none⟩) (Kd.R_types HO_6.out BK108.out (by decide)) (fun _ hk => hk.2) (.slice Ao37 y117.length co37)) (fun _ hk => hk.1))); (case aS => exact (below_size (by repeat (first | (with_reducible first | exact HB.out | apply below_alloc | apply pw_below_drewN | apply below_drew1 | refine below_set ?_ GE107.out | refine below_set ?_ GE108.out | refine below_set ?_ GE109.out) | exact HB.out)))); (case aL => have := LMc28.out; omega); intro v122 w40 ho hb hg hat; rw [← Ny121.out] at ho; have n0_ := Aside0.mk (blk_grown (g := gb107) (o := .cells #[.slice none 0 0] 24 (0, 0)) (by (with_reducible repeat (first | refine blk_drewN ?_ _ | refine blk_drew ?_ | refine blk_alloc ?_ _)); refine blk_far ?_ NB107_108.out _; (with_reducible repeat (first | refine blk_drewN ?_ _ | refine blk_drew ?_ | refine blk_alloc ?_ _)); exact BK107.out) hg (Kd.R_ne HO_6.out BK107.out (by decide))); have n1_ := Aside0.mk (blk_grown (g := gb108) (o := .cells #[.slice Ao37 y117.length co37] 24 (0, 0)) (by (with_reducible repeat (first | refine blk_drewN ?_ _ | refine blk_drew ?_ | refine blk_alloc ?_ _)); refine blk_put (cs := #[u109000]) ?_ 0 _ rfl; (with_reducible repeat (first | refine blk_drewN ?_ _ | refine blk_drew ?_ | refine blk_alloc ?_ _)); exact BK108.out) hg (Kd.R_ne HO_6.out BK108.out (by decide))); have n2_ := Aside0.mk (blk_grown (g := gb109) (o := .cells #[.int .i64 ji23] 3 (0, 0)) (by (with_reducible repeat (first | refine blk_drewN ?_ _ | refine blk_drew ?_ | refine blk_alloc ?_ _)); refine blk_far ?_ NB109_108.out _; (with_reducible repeat (first | refine blk_drewN ?_ _ | refine blk_drew ?_ | refine blk_alloc ?_ _)); exact BK109.out) hg (Kd.R_away HO_6.out (fun _ hk => hk))); have n3_ := Aside0.mk (Kd.R_over' (by (with_reducible repeat (first | apply Kd.R_alloc | apply Kd.R_drewN | apply Kd.R_drew)); exact (Kd.R_mono (Kd.R_far (p := ⟨gb108, 0, none⟩) (Kd.R_types HO119.out BK108.out (by decide)) (fun _ hk => hk.2) (.slice Ao37 y117.length co37)) (fun _ h_ => h_.1))) (Kd.R_typed (by (with_reducible repeat (first | apply Kd.R_alloc | apply Kd.R_drewN | apply Kd.R_drew)); exact (Kd.R_mono (Kd.R_far (p := ⟨gb108, 0, none⟩) (Kd.R_types HO_6.out BK108.out (by decide)) (fun _ hk => hk.2) (.slice Ao37 y117.length co37)) (fun _ h_ => h_.1)))) (by decide) hg); have n4_ := Aside0.mk (hb); have n5_ := Aside0.mk (ho); clear BK107; clear BK108; clear BK109; clear HO119; clear HB; clear HO_6; have BK107 := n0_; have BK108 := n1_; have BK109 := n2_; have HO119 := n3_; have HB := n4_; have HO123 := n5_; clear n0_ n1_ n2_ n3_ n4_ n5_; clear ho hb hg hat; have hcz41_0 : w40.cell? ⟨gb109, 0, none⟩ = some (.int .i64 ji23) := (blk_cell BK109.out 0).trans rfl; have hfz41_0 := blk_frozen BK109.out 0))
                      go_roundg k1
                      case measure => have := HK1.out; omega
                      case rel => exact ⟨(y121), (y117), (wrap64 ((ji23) + 1)), (.slice Ao37 y117.length co37), H', ⟨by have := HK1.out; omega⟩, ⟨by (with_reducible repeat (first | apply Kd.R_alloc | apply Kd.R_drewN | apply Kd.R_drew)); exact Kd.R_mono (Kd.R_far (p := ⟨gb109, 0, none⟩) (Kd.R_mono HO123.out (fun k_ hk => (⟨hk, hk⟩ : _ ∧ k_ ≠ gb109))) (fun _ hk => hk.2) (.int .i64 (wrap64 ((ji23) + 1)))) (fun _ hk => hk.1)⟩, ⟨by (with_reducible repeat (first | apply Kd.R_alloc | apply Kd.R_drewN | apply Kd.R_drew)); exact Kd.R_mono (Kd.R_far (p := ⟨gb109, 0, none⟩) (Kd.R_types HO119.out BK109.out (by decide)) (fun _ hk => hk.2) (.int .i64 (wrap64 ((ji23) + 1)))) (fun _ hk => trivial)⟩, ⟨by (with_reducible repeat (first | refine blk_drewN ?_ _ | refine blk_drew ?_ | refine blk_alloc ?_ _)); refine blk_far ?_ NB107_109.out _; (with_reducible repeat (first | refine blk_drewN ?_ _ | refine blk_drew ?_ | refine blk_alloc ?_ _)); exact BK107.out⟩, ⟨by (with_reducible repeat (first | refine blk_drewN ?_ _ | refine blk_drew ?_ | refine blk_alloc ?_ _)); refine blk_far ?_ NB108_109.out _; (with_reducible repeat (first | refine blk_drewN ?_ _ | refine blk_drew ?_ | refine blk_alloc ?_ _)); exact BK108.out⟩, ⟨by (with_reducible repeat (first | refine blk_drewN ?_ _ | refine blk_drew ?_ | refine blk_alloc ?_ _)); refine blk_put (cs := #[.int .i64 ji23]) ?_ 0 _ rfl; (with_reducible repeat (first | refine blk_drewN ?_ _ | refine blk_drew ?_ | refine blk_alloc ?_ _)); exact BK109.out⟩, ⟨by repeat (first | (with_reducible first | exact HB.out | apply below_alloc | apply pw_below_drewN | apply below_drew1 | refine below_set ?_ GE107.out | refine below_set ?_ GE108.out | refine below_set ?_ GE109.out) | exact HB.out)⟩⟩
                    · rw [if_neg c28] at H
                      exact absurd H (by simp)
                  · replace c27 := Bool.eq_false_iff.mpr c27
                    subst c27
                    have H1 : (tree_Draw.l1 k1 a0 x6_1 y117 ji23) = some (r1, r2, r3) := by rw [if_neg (show ¬ (false = true) by decide)] at H; exact H
                    clear H
                    have H := H1
                    clear H1
                    have HC42 := Aside0.mk H
                    clear H
                    have hnb43 := NB109_107.out
                    have hnc43 := NB107_109.out
                    have hnb44 := NB109_108.out
                    have hnc44 := NB108_109.out
                    have hcz45_0 : wr.cell? ⟨gb109, 0, none⟩ = some (.int .i64 x110000_1) := (blk_cell BK109.out 0).trans rfl
                    have hfz45_0 := blk_frozen BK109.out 0
                    go_upto_block 2 with (first | ((with_reducible refine gate_callee (f := 35) rfl ?_); refine goesL_ (some 17) rfl rfl Tryd.func35 (by kernel_rfl) rfl #[.string (a0.extract (x110000_1 : Int).toNat a0.size)] rfl (by (try simp only [List.map_toArray, List.map_cons, List.map_nil]); first | done | rfl | (simp only [List.length_drop, List.length_take]; rfl)) ?_; (with_reducible refine (tree_longest.calls0 k1 (a0.extract (x110000_1 : Int).toNat a0.size) t110 t111 _ A10.out (SG0.below HSG.out (by repeat (first | (with_reducible first | exact HB.out | apply below_alloc | apply pw_below_drewN | apply below_drew1 | refine below_set ?_ GE107.out | refine below_set ?_ GE108.out | refine below_set ?_ GE109.out) | exact HB.out)))).mono ?_); rintro e w46 ⟨rfl, hb⟩; refine ⟨_, rfl, ?_⟩; have n0_ := Aside0.mk (Kd.R_below (by (with_reducible repeat (first | apply Kd.R_alloc | apply Kd.R_drewN | apply Kd.R_drew)); exact HO_6.out) hb); have n1_ := Aside0.mk (Kd.R_below (by (with_reducible repeat (first | apply Kd.R_alloc | apply Kd.R_drewN | apply Kd.R_drew)); exact HO_109000.out) hb); have n2_ := Aside0.mk (blk_below (g := gb107) (o := .cells #[.slice none 0 0] 24 (0, 0)) (by (with_reducible repeat (first | refine blk_drewN ?_ _ | refine blk_drew ?_ | refine blk_alloc ?_ _)); exact BK107.out) hb); have n3_ := Aside0.mk (blk_below (g := gb108) (o := .cells #[u109000] 24 (0, 0)) (by (with_reducible repeat (first | refine blk_drewN ?_ _ | refine blk_drew ?_ | refine blk_alloc ?_ _)); exact BK108.out) hb); have n4_ := Aside0.mk (blk_below (g := gb109) (o := .cells #[.int .i64 x110000_1] 3 (0, 0)) (by (with_reducible repeat (first | refine blk_drewN ?_ _ | refine blk_drew ?_ | refine blk_alloc ?_ _)); exact BK109.out) hb); have n5_ := Aside0.mk (below_step (by repeat (first | (with_reducible first | exact HB.out | apply below_alloc | apply pw_below_drewN | apply below_drew1 | refine below_set ?_ GE107.out | refine below_set ?_ GE108.out | refine below_set ?_ GE109.out) | exact HB.out)) hb); clear HO_6; clear HO_109000; clear BK107; clear BK108; clear BK109; clear HB; have HO_6 := n0_; have HO_109000 := n1_; have BK107 := n2_; have BK108 := n3_; have BK109 := n4_; have HB := n5_; clear n0_ n1_ n2_ n3_ n4_ n5_; (try clear hb); (try clear hb2); (try clear hk); (try clear hi); have hcz47_0 : w46.cell? ⟨gb109, 0, none⟩ = some (.int .i64 x110000_1) := (blk_cell BK109.out 0).trans rfl; have hfz47_0 := blk_frozen BK109.out 0; have hnb48 := NB108_107.out; have hnc48 := NB107_108.out; have hcz49_0 : w46.cell? ⟨gb108, 0, none⟩ = some (u109000) := (blk_cell BK108.out 0).trans rfl; have hfz49_0 := blk_frozen BK108.out 0) | ((with_reducible refine gate_builtin (b := .append) (xs := #[.tmp 31, .tmp 35]) rfl ?_); (try (refine gate_guard (by rfl) ?_; dsimp only)); at_builtin; refine Kd.R_append k43 (w0 := w) w.heap.size rfl (.tmp 31) (.tmp 35) 22 43 (.agg #[(.int .u8 0), (.int .i64 0), (.int .i64 0), (.int .i64 0)]) 32 rfl Tryd.underlying22 info43 rfl (by decide) (by omega) u109000 x109000_1 (⟨(t110) % 256, 0, 0, 1⟩ : S43) [.int .u8 ((t110) % 256), .int .i64 0, .int .i64 0, .int .i64 1] (fun _ => True) (fun _ => False) rfl (by first | (go_simp; done) | (go_simp; rfl)) ?aP (fun _ hk => hk.elim) ?aF ?aO ?aB ?aS ?aL ?_; (case aP => exact k43_mkM _ _ _ (⟨(t110) % 256, 0, 0, 1⟩ : S43)); (case aB => exact (by repeat (first | (with_reducible first | exact HB.out | apply below_alloc | apply pw_below_drewN | apply below_drew1 | refine below_set ?_ GE107.out | refine below_set ?_ GE108.out | refine below_set ?_ GE109.out) | exact HB.out))); (case aF => exact (fun _ _ => trivial)); (case aO => exact (by (with_reducible repeat (first | apply Kd.R_alloc | apply Kd.R_drewN | apply Kd.R_drew)); exact Kd.R_mono (Kd.R_far (p := ⟨gb109, 0, none⟩) (Kd.R_types HO_109000.out BK109.out (by decide)) (fun _ hk => hk.2) (.int .i64 ji23)) (fun _ hk => trivial))); (case aS => exact (below_size (by repeat (first | (with_reducible first | exact HB.out | apply below_alloc | apply pw_below_drewN | apply below_drew1 | refine below_set ?_ GE107.out | refine below_set ?_ GE108.out | refine below_set ?_ GE109.out) | exact HB.out)))); (case aL => have := LMc22.out; omega); intro v118 w50 ho hb hg hat; rw [← Ny117.out] at ho; have n0_ := Aside0.mk (Kd.R_over' (by (with_reducible repeat (first | apply Kd.R_alloc | apply Kd.R_drewN | apply Kd.R_drew)); exact (Kd.R_mono (Kd.R_far (p := ⟨gb109, 0, none⟩) (Kd.R_mono HO_6.out (fun k_ hk => (⟨hk, hk⟩ : _ ∧ k_ ≠ gb109))) (fun _ hk => hk.2) (.int .i64 ji23)) (fun _ h_ => h_.1))) (Kd.R_typed (by (with_reducible repeat (first | apply Kd.R_alloc | apply Kd.R_drewN | apply Kd.R_drew)); exact (Kd.R_mono (Kd.R_far (p := ⟨gb109, 0, none⟩) (Kd.R_types HO_109000.out BK109.out (by decide)) (fun _ hk => hk.2) (.int .i64 ji23)) (fun _ h_ => h_.1)))) (by decide) hg); have n1_ := Aside0.mk (blk_grown (g := gb107) (o := .cells #[.slice none 0 0] 24 (0, 0)) (by (with_reducible repeat (first | refine blk_drewN ?_ _ | refine blk_drew ?_ | refine blk_alloc ?_ _)); refine blk_far ?_ NB107_109.out _; (with_reducible repeat (first | refine blk_drewN ?_ _ | refine blk_drew ?_ | refine blk_alloc ?_ _)); exact BK107.out) hg (Kd.R_ne HO_109000.out BK107.out (by decide))); have n2_ := Aside0.mk (blk_grown (g := gb108) (o := .cells #[u109000] 24 (0, 0)) (by (with_reducible repeat (first | refine blk_drewN ?_ _ | refine blk_drew ?_ | refine blk_alloc ?_ _)); refine blk_far ?_ NB108_109.out _; (with_reducible repeat (first | refine blk_drewN ?_ _ | refine blk_drew ?_ | refine blk_alloc ?_ _)); exact BK108.out) hg (Kd.R_ne HO_109000.out BK108.out (by decide))); have n3_ := Aside0.mk (blk_grown (g := gb109) (o := .cells #[.int .i64 ji23] 3 (0, 0)) (by (with_reducible repeat (first | refine blk_drewN ?_ _ | refine blk_drew ?_ | refine blk_alloc ?_ _)); refine blk_put (cs := #[.int .i64 x110000_1]) ?_ 0 _ rfl; (with_reducible repeat (first | refine blk_drewN ?_ _ | refine blk_drew ?_ | refine blk_alloc ?_ _)); exact BK109.out) hg (Kd.R_ne HO_109000.out BK109.out (by decide))); have n4_ := Aside0.mk (hb); have n5_ := Aside0.mk (ho); clear HO_6; clear BK107; clear BK108; clear BK109; clear HB; clear HO_109000; have HO_6 := n0_; have BK107 := n1_; have BK108 := n2_; have BK109 := n3_; have HB := n4_; have HO119 := n5_; clear n0_ n1_ n2_ n3_ n4_ n5_; clear ho hb hg hat; obtain ⟨Ao51, co51, eo51⟩ := Kd.R_slice HO119.out; subst eo51; have hcz52_0 : w50.cell? ⟨gb108, 0, none⟩ = some (u109000) := (blk_cell BK108.out 0).trans rfl; have hfz52_0 := blk_frozen BK108.out 0; have hcz53_0 : w50.cell? ⟨gb109, 0, none⟩ = some (.int .i64 ji23) := (blk_cell BK109.out 0).trans rfl; have hfz53_0 := blk_frozen BK109.out 0) | ((with_reducible refine gate_callee (f := 36) rfl ?_); refine goesL_ (some 41) rfl rfl Tryd.func36 (by kernel_rfl) rfl #[.string (a0.extract ((ji23) : Int).toNat a0.size), .string (⟨#[40]⟩ : ByteArray)] rfl (by (try simp only [List.map_toArray, List.map_cons, List.map_nil]); first | done | (simp only [hji23]; rfl) | rfl | (simp only [List.length_drop, List.length_take]; rfl)) ?_; (with_reducible refine (strings_HasPrefix.calls (a0.extract ((ji23) : Int).toNat a0.size) (⟨#[40]⟩ : ByteArray) false _ A26.out).mono ?_); rintro e w' ⟨rfl, ⟨nd, rfl⟩⟩; refine ⟨_, rfl, ?_⟩))
                    (try simp only [Act.put, List.setIfInBounds_toArray, List.set_cons_zero, List.set_cons_succ])
                    go_cut [6] (fun v6 wc => ∃ (kq : Nat) (x6_41 : List Int) (x109000_41 : List (S43)) (x110000_41 : Int) (u109000 : Value), Aside0 (tree_Draw.j2 kq a0 x6_41 x109000_41 x110000_41 = some (r1, r2, r3)) ∧ Aside0 (kq ≤ k1) ∧ Aside0 (Kd.R (Kd.int .i64) 3 wc w.heap.size (fun k_ => k_ ≠ gb109) v6 x6_41) ∧ Aside0 (Kd.R k43 43 wc w.heap.size (fun _ => True) u109000 x109000_41) ∧ Aside0 (wc.heap[gb107]? = some (.cells #[(.slice none 0 0)] 24 (0, 0))) ∧ Aside0 (wc.heap[gb108]? = some (.cells #[u109000] 24 (0, 0))) ∧ Aside0 (wc.heap[gb109]? = some (.cells #[.int .i64 x110000_41] 3 (0, 0))) ∧ Aside0 (Below w.heap.size w wc))
                    case first =>
                      have H := HC42.out
                      clear HC42
                      have H' := Aside0.mk H
                      clear H
                      go_wp2
                      go_loopg [6] k1 (fun kq v6 w' => ∃ (x6_2 : List Int) (x109000_2 : List (S43)) (x110000_2 : Int) (u109000 : Value), Aside0 (tree_Draw.l1 kq a0 x6_2 x109000_2 x110000_2 = some (r1, r2, r3)) ∧ Aside0 (kq ≤ k1) ∧ Aside0 (Kd.R (Kd.int .i64) 3 w' w.heap.size (fun k_ => k_ ≠ gb109) v6 x6_2) ∧ Aside0 (Kd.R k43 43 w' w.heap.size (fun _ => True) u109000 x109000_2) ∧ Aside0 (w'.heap[gb107]? = some (.cells #[(.slice none 0 0)] 24 (0, 0))) ∧ Aside0 (w'.heap[gb108]? = some (.cells #[u109000] 24 (0, 0))) ∧ Aside0 (w'.heap[gb109]? = some (.cells #[.int .i64 x110000_2] 3 (0, 0))) ∧ Aside0 (Below w.heap.size w w'))
                      case atStart => exact ⟨(x6_1), (y117), (ji23), (.slice Ao51 y117.length co51), H', ⟨Nat.le_refl _⟩, ⟨by (with_reducible repeat (first | apply Kd.R_alloc | apply Kd.R_drewN | apply Kd.R_drew)); exact Kd.R_mono (Kd.R_far (p := ⟨gb108, 0, none⟩) (Kd.R_types HO_6.out BK108.out (by decide)) (fun _ hk => hk.2) (.slice Ao51 y117.length co51)) (fun _ hk => hk.1)⟩, ⟨by (with_reducible repeat (first | apply Kd.R_alloc | apply Kd.R_drewN | apply Kd.R_drew)); exact Kd.R_mono (Kd.R_far (p := ⟨gb108, 0, none⟩) (Kd.R_types HO119.out BK108.out (by decide)) (fun _ hk => hk.2) (.slice Ao51 y117.length co51)) (fun _ hk => trivial)⟩, ⟨by (with_reducible repeat (first | refine blk_drewN ?_ _ | refine blk_drew ?_ | refine blk_alloc ?_ _)); refine blk_far ?_ NB107_108.out _; (with_reducible repeat (first | refine blk_drewN ?_ _ | refine blk_drew ?_ | refine blk_alloc ?_ _)); exact BK107.out⟩, ⟨by (with_reducible repeat (first | refine blk_drewN ?_ _ | refine blk_drew ?_ | refine blk_alloc ?_ _)); refine blk_put (cs := #[u109000]) ?_ 0 _ rfl; (with_reducible repeat (first | refine blk_drewN ?_ _ | refine blk_drew ?_ | refine blk_alloc ?_ _)); exact BK108.out⟩, ⟨by (with_reducible repeat (first | refine blk_drewN ?_ _ | refine blk_drew ?_ | refine blk_alloc ?_ _)); refine blk_far ?_ NB109_108.out _; (with_reducible repeat (first | refine blk_drewN ?_ _ | refine blk_drew ?_ | refine blk_alloc ?_ _)); exact BK109.out⟩, ⟨by repeat (first | (with_reducible first | exact HB.out | apply below_alloc | apply pw_below_drewN | apply below_drew1 | refine below_set ?_ GE107.out | refine below_set ?_ GE108.out | refine below_set ?_ GE109.out) | exact HB.out)⟩⟩
                      case round =>
                        clear H'
                        try clear c1
                        try clear c2
                        try clear p2
                        try clear c3
                        try clear c4
                        try clear c5
                        try clear c6
                        try clear p6
                        try clear c7
                        try clear c8
                        try clear c8b0
                        try clear c8b1
                        try clear c9
                        try clear c9b0
                        try clear c9b1
                        try clear c11
                        try clear c11b0
                        try clear c13
                        try clear c14
                        try clear c20
                        try clear c22
                        try clear c24
                        try clear c24b0
                        try clear c24b1
                        try clear c25
                        try clear c25b0
                        try clear c25b1
                        try clear c27
                        try clear c28
                        try clear c29
                        try clear c30
                        try clear c34
                        try clear c35
                        try clear c36
                        try clear c43
                        try clear c44
                        try clear c48
                        try clear hcz15_0
                        try clear hcz17_0
                        try clear hcz21_0
                        try clear hcz31_0
                        try clear hcz33_0
                        try clear hcz35_0
                        try clear hcz38_0
                        try clear hcz39_0
                        try clear hcz41_0
                        try clear hcz45_0
                        try clear hcz47_0
                        try clear hcz49_0
                        try clear hcz52_0
                        try clear hcz53_0
                        try clear hcz7_0
                        try clear hfz15_0
                        try clear hfz17_0
                        try clear hfz21_0
                        try clear hfz31_0
                        try clear hfz33_0
                        try clear hfz35_0
                        try clear hfz38_0
                        try clear hfz39_0
                        try clear hfz41_0
                        try clear hfz45_0
                        try clear hfz47_0
                        try clear hfz49_0
                        try clear hfz52_0
                        try clear hfz53_0
                        try clear hfz7_0
                        try clear p2
                        obtain ⟨x6_2, x109000_2, x110000_2, u109000, HA, HK2, HO_6, HO_109000, BK107, BK108, BK109, HB⟩ := hrel
                        cases gk with
                        | zero => exact absurd HA.out (by simp [tree_Draw.l1])
                        | succ k2 =>
                          have H := HA.out
                          clear HA
                          simp only [tree_Draw.l1] at H
                          by_cases c54 : (x6_2.length : Int) > 0
                          · rw [if_pos c54] at H
                            have c54b0 : decide (0 < (x6_2.length : Int)) = true := decide_eq_true c54
                            have c54b1 : decide (0 < x6_2.length) = true := decide_eq_true (by omega)
                            clear c54
                            (first | rw [c54b0] | (simp only [i64_w, i32_w]; rw [c54b0]) | skip)
                            by_cases c55 : 0 ≤ x110000_2
                            · rw [if_pos c55] at H
                              have c55b0 := eq_true c55
                              have c55b1 : decide (0 ≤ x110000_2) = true := decide_eq_true c55
                              clear c55
                              by_cases c56 : x110000_2 ≤ (a0.size : Int)
                              · rw [if_pos c56] at H
                                have c56b0 := eq_true c56
                                have c56b1 : decide (x110000_2 ≤ (a0.size : Int)) = true := decide_eq_true c56
                                clear c56
                                replace H := Option.bind_eq_some_iff.mp H
                                obtain ⟨t124, A570, H⟩ := H
                                replace H : (if t124 = true then (if 0 ≤ (wrap64 ((x6_2.length : Int) - 1)) then (if (wrap64 ((x6_2.length : Int) - 1)) < (x6_2.length : Int) then (if 0 ≤ (rd x6_2 (wrap64 ((x6_2.length : Int) - 1))) then (if (rd x6_2 (wrap64 ((x6_2.length : Int) - 1))) < (x109000_2.length : Int) then (if (wrap64 ((x6_2.length : Int) - 1)) ≤ (x6_2.length : Int) then (tree_Draw.l1 k2 a0 (x6_2.take ((wrap64 ((x6_2.length : Int) - 1)) : Int).toNat) (x109000_2.set ((rd x6_2 (wrap64 ((x6_2.length : Int) - 1))) : Int).toNat (⟨(rd_T43 x109000_2 (rd x6_2 (wrap64 ((x6_2.length : Int) - 1)))).f0, (rd_T43 x109000_2 (rd x6_2 (wrap64 ((x6_2.length : Int) - 1)))).f1, (rd_T43 x109000_2 (rd x6_2 (wrap64 ((x6_2.length : Int) - 1)))).f2, wrap64 ((x109000_2.length : Int) - (rd x6_2 (wrap64 ((x6_2.length : Int) - 1))))⟩ : S43)) (wrap64 (x110000_2 + 1))) else (none)) else (none)) else (none)) else (none)) else (none)) else (tree_Draw.j2 k2 a0 x6_2 x109000_2 x110000_2)) = some (r1, r2, r3) := H
                                have A57 := Aside0.mk A570
                                clear A570
                                by_cases c58 : t124 = true
                                · subst c58
                                  have H1 : (if 0 ≤ (wrap64 ((x6_2.length : Int) - 1)) then (if (wrap64 ((x6_2.length : Int) - 1)) < (x6_2.length : Int) then (if 0 ≤ (rd x6_2 (wrap64 ((x6_2.length : Int) - 1))) then (if (rd x6_2 (wrap64 ((x6_2.length : Int) - 1))) < (x109000_2.length : Int) then (if (wrap64 ((x6_2.length : Int) - 1)) ≤ (x6_2.length : Int) then (tree_Draw.l1 k2 a0 (x6_2.take ((wrap64 ((x6_2.length : Int) - 1)) : Int).toNat) (x109000_2.set ((rd x6_2 (wrap64 ((x6_2.length : Int) - 1))) : Int).toNat (⟨(rd_T43 x109000_2 (rd x6_2 (wrap64 ((x6_2.length : Int) - 1)))).f0, (rd_T43 x109000_2 (rd x6_2 (wrap64 ((x6_2.length : Int) - 1)))).f1, (rd_T43 x109000_2 (rd x6_2 (wrap64 ((x6_2.length : Int) - 1)))).f2, wrap64 ((x109000_2.length : Int) - (rd x6_2 (wrap64 ((x6_2.length : Int) - 1))))⟩ : S43)) (wrap64 (x110000_2 + 1))) else (none)) else (none)) else (none)) else (none)) else (none)) = some (r1, r2, r3) := by rw [if_pos rfl] at H; exact H
                                  clear H
                                  have H := H1
                                  clear H1
                                  obtain ⟨ji59, hji59⟩ : ∃ j_ : Int, (wrap64 ((x6_2.length : Int) - 1)) = j_ := ⟨_, rfl⟩
                                  replace H : (if 0 ≤ (ji59) then (if (ji59) < (x6_2.length : Int) then (if 0 ≤ (rd x6_2 (ji59)) then (if (rd x6_2 (ji59)) < (x109000_2.length : Int) then (if (ji59) ≤ (x6_2.length : Int) then (tree_Draw.l1 k2 a0 (x6_2.take ((ji59) : Int).toNat) (x109000_2.set ((rd x6_2 (ji59)) : Int).toNat (⟨(rd_T43 x109000_2 (rd x6_2 (ji59))).f0, (rd_T43 x109000_2 (rd x6_2 (ji59))).f1, (rd_T43 x109000_2 (rd x6_2 (ji59))).f2, wrap64 ((x109000_2.length : Int) - (rd x6_2 (ji59)))⟩ : S43)) (wrap64 (x110000_2 + 1))) else (none)) else (none)) else (none)) else (none)) else (none)) = some (r1, r2, r3) := by first | (rw [hji59] at H; exact H) | (simp only [hji59] at H ⊢; exact H)
                                  (try rw [hji59] at A57)
                                  have hji59w : (IntKind.i64.wrap ((x6_2.length : Int) - 1)) = ji59 := (i64_w _).trans hji59
                                  by_cases c60 : 0 ≤ (ji59)
                                  · rw [if_pos c60] at H
                                    have c60b0 : decide (0 ≤ (ji59)) = true := decide_eq_true c60
                                    clear c60
                                    by_cases c61 : (ji59) < (x6_2.length : Int)
                                    · rw [if_pos c61] at H
                                      have c61b0 : decide ((ji59) < (x6_2.length : Int)) = true := decide_eq_true c61
                                      clear c61
                                      by_cases c62 : 0 ≤ (rd x6_2 (ji59))
                                      · rw [if_pos c62] at H
                                        have c62b0 : decide (0 ≤ (rd x6_2 (ji59))) = true := decide_eq_true c62
                                        clear c62
                                        by_cases c63 : (rd x6_2 (ji59)) < (x109000_2.length : Int)
                                        · rw [if_pos c63] at H
                                          have c63b0 : decide ((rd x6_2 (ji59)) < (x109000_2.length : Int)) = true := decide_eq_true c63
                                          clear c63
                                          obtain ⟨y126, hy126⟩ : ∃ y_ : List (S43), y_ = (x109000_2.set ((rd x6_2 (ji59)) : Int).toNat (⟨(rd_T43 x109000_2 (rd x6_2 (ji59))).f0, (rd_T43 x109000_2 (rd x6_2 (ji59))).f1, (rd_T43 x109000_2 (rd x6_2 (ji59))).f2, wrap64 ((x109000_2.length : Int) - (rd x6_2 (ji59)))⟩ : S43)) := ⟨_, rfl⟩
                                          replace H : (if (ji59) ≤ (x6_2.length : Int) then (tree_Draw.l1 k2 a0 (x6_2.take ((ji59) : Int).toNat) y126 (wrap64 (x110000_2 + 1))) else (none)) = some (r1, r2, r3) := by first | (rw [hy126]; with_reducible exact H) | (have H2_ := (Option.bind_some _ _).symm.trans H; rw [hy126]; with_reducible exact H2_) | (have H2_ := (Option.bind_some _ _).symm.trans H; with_reducible exact H2_) | with_reducible exact H | (rw [hy126]; exact H) | exact H
                                          have Ny126 := Aside0.mk hy126
                                          clear hy126
                                          by_cases c65 : (ji59) ≤ (x6_2.length : Int)
                                          · rw [if_pos c65] at H
                                            have c65b0 := eq_true c65
                                            have c65b1 : decide ((ji59) ≤ (x6_2.length : Int)) = true := decide_eq_true c65
                                            clear c65
                                            obtain ⟨y127, hy127⟩ : ∃ y_ : List Int, y_ = (x6_2.take ((ji59) : Int).toNat) := ⟨_, rfl⟩
                                            replace H : (tree_Draw.l1 k2 a0 y127 y126 (wrap64 (x110000_2 + 1))) = some (r1, r2, r3) := by first | (rw [hy127]; with_reducible exact H) | (have H2_ := (Option.bind_some _ _).symm.trans H; rw [hy127]; with_reducible exact H2_) | (have H2_ := (Option.bind_some _ _).symm.trans H; with_reducible exact H2_) | with_reducible exact H | (rw [hy127]; exact H) | exact H
                                            have Ny127 := Aside0.mk hy127
                                            clear hy127
                                            have H' := Aside0.mk H
                                            clear H
                                            obtain ⟨Ao66, co66, eo66⟩ := Kd.R_slice HO_6.out
                                            subst eo66
                                            have hnb67 := NB109_107.out
                                            have hnc67 := NB107_109.out
                                            have hnb68 := NB109_108.out
                                            have hnc68 := NB108_109.out
                                            have hcz69_0 : wr.cell? ⟨gb109, 0, none⟩ = some (.int .i64 x110000_2) := (blk_cell BK109.out 0).trans rfl
                                            have hfz69_0 := blk_frozen BK109.out 0
                                            go_wp2_with (first | (go_at_call 36; (with_reducible refine (strings_HasPrefix.calls (a0.extract (x110000_2 : Int).toNat a0.size) (⟨#[41]⟩ : ByteArray) true _ A57.out).mono ?_); rintro e w' ⟨rfl, ⟨nd, rfl⟩⟩; (try (rw [drewN_self wr]; generalize hq_ : World.drewN wr _ = wr; have n0_ : Aside0 (Kd.R k43 43 wr w.heap.size (fun _ => True) u109000 x109000_2) := ⟨by rw [← hq_]; exact (by (with_reducible repeat (first | apply Kd.R_alloc | apply Kd.R_drewN | apply Kd.R_drew)); exact HO_109000.out)⟩; have n1_ : Aside0 (Kd.R (Kd.int .i64) 3 wr w.heap.size (fun k_ => k_ ≠ gb109) (.slice Ao66 x6_2.length co66) x6_2) := ⟨by rw [← hq_]; exact (by (with_reducible repeat (first | apply Kd.R_alloc | apply Kd.R_drewN | apply Kd.R_drew)); exact HO_6.out)⟩; have n2_ : Aside0 (wr.heap[gb107]? = some (.cells #[.slice none 0 0] 24 (0, 0))) := ⟨by rw [← hq_]; exact (by (with_reducible repeat (first | refine blk_drewN ?_ _ | refine blk_drew ?_ | refine blk_alloc ?_ _)); exact BK107.out)⟩; have n3_ : Aside0 (wr.heap[gb108]? = some (.cells #[u109000] 24 (0, 0))) := ⟨by rw [← hq_]; exact (by (with_reducible repeat (first | refine blk_drewN ?_ _ | refine blk_drew ?_ | refine blk_alloc ?_ _)); exact BK108.out)⟩; have n4_ : Aside0 (wr.heap[gb109]? = some (.cells #[.int .i64 x110000_2] 3 (0, 0))) := ⟨by rw [← hq_]; exact (by (with_reducible repeat (first | refine blk_drewN ?_ _ | refine blk_drew ?_ | refine blk_alloc ?_ _)); exact BK109.out)⟩; have n5_ : Aside0 (Below w.heap.size w wr) := ⟨by rw [← hq_]; exact (by repeat (first | (with_reducible first | exact HB.out | apply below_alloc | apply pw_below_drewN | apply below_drew1 | refine below_set ?_ GE107.out | refine below_set ?_ GE108.out | refine below_set ?_ GE109.out) | exact HB.out))⟩; clear HO_109000 HO_6 BK107 BK108 BK109 HB hq_; have HO_109000 := n0_; have HO_6 := n1_; have BK107 := n2_; have BK108 := n3_; have BK109 := n4_; have HB := n5_; clear n0_ n1_ n2_ n3_ n4_ n5_)); have p125 : 0 ≤ ((ji59) : Int) := of_decide_eq_true (by first | (with_reducible assumption) | assumption); have q125 : (ji59) < (x6_2.length : Int) := of_decide_eq_true (by first | (with_reducible assumption) | assumption); obtain ⟨ad125, e125, hx125_0⟩ := Kd.at_int (Kd.R_reads' HO_6.out).2.2 (ji59) p125 q125; cases e125; replace p125 := eq_true p125; replace q125 := eq_true q125; have hnb70 := NB108_107.out; have hnc70 := NB107_108.out; have hcz71_0 : wr.cell? ⟨gb108, 0, none⟩ = some (u109000) := (blk_cell BK108.out 0).trans rfl; have hfz71_0 := blk_frozen BK108.out 0; obtain ⟨Ao72, co72, eo72⟩ := Kd.R_slice HO_109000.out; subst eo72; have p64 : 0 ≤ ((rd x6_2 (ji59)) : Int) := of_decide_eq_true (by first | (with_reducible assumption) | assumption); have q64 : ((rd x6_2 (ji59)) : Int) < ((x109000_2.length : Int) : Int) := of_decide_eq_true (by first | (with_reducible assumption) | assumption); obtain ⟨go64, co64, eo64, gb64, gl64, cl64, HG64⟩ := Kd.R_form HO_109000.out (by omega); (first | cases eo64 | (injection eo64 with ea_ en_ ec_; (first | subst ea_ | (injection ea_ with ea_; subst ea_)); subst ec_; clear en_)); have GB64 := Aside0.mk gb64; have GG64 := Aside0.mk HG64; clear gb64 gl64 HG64; obtain ⟨ce64, hcl64, hM64, hcc64, hfr64⟩ := Kd.R_elem HO_109000.out z43 ((rd x6_2 (ji59)) : Int) p64 q64; obtain rfl := k43_openM hM64; have hx64_0 : wr.cell? ⟨go64, ((rd x6_2 (ji59)) : Int).toNat * 4, none⟩ = some (.int .u8 ((rd_T43 x109000_2 (rd x6_2 (ji59))).f0)) := hcc64 0 _ rfl; have hx64_1 : wr.cell? ⟨go64, ((rd x6_2 (ji59)) : Int).toNat * 4 + 1, none⟩ = some (.int .i64 ((rd_T43 x109000_2 (rd x6_2 (ji59))).f1)) := hcc64 1 _ rfl; have hx64_2 : wr.cell? ⟨go64, ((rd x6_2 (ji59)) : Int).toNat * 4 + 2, none⟩ = some (.int .i64 ((rd_T43 x109000_2 (rd x6_2 (ji59))).f2)) := hcc64 2 _ rfl; have hx64_3 : wr.cell? ⟨go64, ((rd x6_2 (ji59)) : Int).toNat * 4 + 3, none⟩ = some (.int .i64 ((rd_T43 x109000_2 (rd x6_2 (ji59))).f3)) := hcc64 3 _ rfl; have hf64_0 : wr.frozen? ⟨go64, ((rd x6_2 (ji59)) : Int).toNat * 4, none⟩ = false := hfr64 0; have hf64_1 : wr.frozen? ⟨go64, ((rd x6_2 (ji59)) : Int).toNat * 4 + 1, none⟩ = false := hfr64 1; have hf64_2 : wr.frozen? ⟨go64, ((rd x6_2 (ji59)) : Int).toNat * 4 + 2, none⟩ = false := hfr64 2; have hf64_3 : wr.frozen? ⟨go64, ((rd x6_2 (ji59)) : Int).toNat * 4 + 3, none⟩ = false := hfr64 3; clear hcl64 hcc64 hfr64 hM64; replace p64 := eq_true p64; replace q64 := eq_true q64; have HX73 := Aside0.mk (show Kd.R k43 43 wr w.heap.size (fun _ => True) (.slice (some ⟨go64, 0, none⟩) x109000_2.length co72) x109000_2 from (by (with_reducible repeat (first | apply Kd.R_alloc | apply Kd.R_drewN | apply Kd.R_drew)); exact HO_109000.out)); obtain ⟨ce73, hcl73, hM73, hcc73, hfr73⟩ := Kd.R_elem HX73.out z43 ((rd x6_2 (ji59)) : Int) (of_decide_eq_true (by first | (with_reducible assumption) | assumption)) (by have h_ : ((rd x6_2 (ji59)) : Int) < ((x109000_2.length : Int) : Int) := of_decide_eq_true (by first | (with_reducible assumption) | assumption); first | exact h_ | (have e_ := (Kd.R_reads' HO_109000.out).1; omega) | simpa using h_); obtain rfl := k43_openM hM73; have HP73 := Kd.R_seg HX73.out ((rd x6_2 (ji59)) : Int) (of_decide_eq_true (by first | (with_reducible assumption) | assumption)) (by have h_ : ((rd x6_2 (ji59)) : Int) < ((x109000_2.length : Int) : Int) := of_decide_eq_true (by first | (with_reducible assumption) | assumption); first | exact h_ | (have e_ := (Kd.R_reads' HO_109000.out).1; omega) | simpa using h_) (seg := [.int .i64 (wrap64 ((x109000_2.length : Int) - (rd x6_2 (ji59))))]) (j := 3) hcl73 hcc73 (show 4 ≤ 4 from by decide) (x' := (⟨(rd_T43 x109000_2 (rd x6_2 (ji59))).f0, (rd_T43 x109000_2 (rd x6_2 (ji59))).f1, (rd_T43 x109000_2 (rd x6_2 (ji59))).f2, wrap64 ((x109000_2.length : Int) - (rd x6_2 (ji59)))⟩ : S43)) (k43_mkM _ _ _ (⟨(rd_T43 x109000_2 (rd x6_2 (ji59))).f0, (rd_T43 x109000_2 (rd x6_2 (ji59))).f1, (rd_T43 x109000_2 (rd x6_2 (ji59))).f2, wrap64 ((x109000_2.length : Int) - (rd x6_2 (ji59)))⟩ : S43) ) (fun _ hk => hk); have hx73_3 := hcc73 3 _ rfl; (try simp only [show (k43).sz = 4 from rfl, Nat.mul_one, Nat.add_zero] at hx73_3); have hf73_3 := hfr73 3; (try simp only [show (k43).sz = 4 from rfl, Nat.mul_one, Nat.add_zero] at hf73_3); clear hcl73 hcc73 hfr73 hM73) | ((with_reducible refine gate_store (t := 3) (p := 75) rfl ?_); refine store_event (t := 3) (p := 75) (v := ?vo_w74) (w1 := (wr.setCell ⟨go64, ((rd x6_2 (ji59)) : Int).toNat * 4 + 3, none⟩ (.int .i64 (wrap64 ((x109000_2.length : Int) - (rd x6_2 (ji59))))))) ?hg ?ho ?hn ?hr ?_; (case ho => rfl); (case hg => rfl); (case hn => rfl); (case hr => first | (go_simp; done) | (go_simp; rfl)); intro w74 hw; have hg : wr.grownBy w74 (some go64) := (by rw [hw]; exact HP73.2); have hp_ : Kd.R k43 43 w74 w.heap.size (fun _ => True) (.slice (some ⟨go64, 0, none⟩) x109000_2.length co72) y126 := (by rw [hw, Ny126.out]; exact HP73.1); clear HP73; have n0_ := Aside0.mk (Kd.R_over' (v := (.slice (some ⟨go64, 0, none⟩) x109000_2.length co72)) (by (with_reducible repeat (first | apply Kd.R_alloc | apply Kd.R_drewN | apply Kd.R_drew)); exact HO_6.out) (Kd.R_typed HO_109000.out) (by decide) hg); have n1_ := Aside0.mk (hp_); have n2_ := Aside0.mk (blk_grown (g := gb107) (o := .cells #[.slice none 0 0] 24 (0, 0)) (by (with_reducible repeat (first | refine blk_drewN ?_ _ | refine blk_drew ?_ | refine blk_alloc ?_ _)); exact BK107.out) hg (Kd.R_ne HO_109000.out BK107.out (by decide))); have n3_ := Aside0.mk (blk_grown (g := gb108) (o := .cells #[.slice (some ⟨go64, 0, none⟩) x109000_2.length co72] 24 (0, 0)) (by (with_reducible repeat (first | refine blk_drewN ?_ _ | refine blk_drew ?_ | refine blk_alloc ?_ _)); exact BK108.out) hg (Kd.R_ne HO_109000.out BK108.out (by decide))); have n4_ := Aside0.mk (blk_grown (g := gb109) (o := .cells #[.int .i64 x110000_2] 3 (0, 0)) (by (with_reducible repeat (first | refine blk_drewN ?_ _ | refine blk_drew ?_ | refine blk_alloc ?_ _)); exact BK109.out) hg (Kd.R_ne HO_109000.out BK109.out (by decide))); have n5_ := Aside0.mk ((by rw [hw]; exact below_set (HB.out) GB64.out : Below w.heap.size w w74)); clear HO_6; clear HO_109000; clear BK107; clear BK108; clear BK109; clear HB; have HO_6 := n0_; have HO_109000 := n1_; have BK107 := n2_; have BK108 := n3_; have BK109 := n4_; have HB := n5_; clear n0_ n1_ n2_ n3_ n4_ n5_; clear hg hw hp_; have q75 : ((ji59) : Int) ≤ ((x6_2.length : Int) : Int) := of_decide_eq_true (by first | (with_reducible assumption) | assumption); obtain ⟨i075, hi075, _, hsz75, _⟩ := info_parts info3; have hcut75 := cut_to (P := Tryd.prog) 55 3 .i64 Tryd.underlying55 hi075 (some ad125) x6_2.length co66 (ji59) (of_decide_eq_true (by first | (with_reducible assumption) | assumption)) q75 (Kd.R_reads' HO_6.out).2.1; have hr75 := Kd.R_take (m := ((ji59) : Int).toNat) HO_6.out (by omega); have hy75 : y127.length = ((ji59) : Int).toNat := (by rw [Ny127.out, List.length_take]; omega); rw [← Ny127.out] at hr75; rw [← hy75] at hr75 hcut75; clear hy75 hi075 hsz75 HO_6; have HO129 := Aside0.mk hr75; clear hr75; replace q75 := eq_true q75; have hcz76_0 : w74.cell? ⟨gb109, 0, none⟩ = some (.int .i64 x110000_2) := (blk_cell BK109.out 0).trans rfl; have hfz76_0 := blk_frozen BK109.out 0))
                                            go_roundg k2
                                            case measure => have := HK1.out; have := HK2.out; omega
                                            case rel => exact ⟨(y127), (y126), (wrap64 (x110000_2 + 1)), (.slice (some ⟨go64, 0, none⟩) x109000_2.length co72), H', ⟨by have := HK1.out; have := HK2.out; omega⟩, ⟨by (with_reducible repeat (first | apply Kd.R_alloc | apply Kd.R_drewN | apply Kd.R_drew)); exact Kd.R_mono (Kd.R_far (p := ⟨gb109, 0, none⟩) (Kd.R_mono HO129.out (fun k_ hk => (⟨hk, hk⟩ : _ ∧ k_ ≠ gb109))) (fun _ hk => hk.2) (.int .i64 (wrap64 (x110000_2 + 1)))) (fun _ hk => hk.1)⟩, ⟨by (with_reducible repeat (first | apply Kd.R_alloc | apply Kd.R_drewN | apply Kd.R_drew)); exact Kd.R_mono (Kd.R_far (p := ⟨gb109, 0, none⟩) (Kd.R_types HO_109000.out BK109.out (by decide)) (fun _ hk => hk.2) (.int .i64 (wrap64 (x110000_2 + 1)))) (fun _ hk => trivial)⟩, ⟨by (with_reducible repeat (first | refine blk_drewN ?_ _ | refine blk_drew ?_ | refine blk_alloc ?_ _)); refine blk_far ?_ NB107_109.out _; (with_reducible repeat (first | refine blk_drewN ?_ _ | refine blk_drew ?_ | refine blk_alloc ?_ _)); exact BK107.out⟩, ⟨by (with_reducible repeat (first | refine blk_drewN ?_ _ | refine blk_drew ?_ | refine blk_alloc ?_ _)); refine blk_far ?_ NB108_109.out _; (with_reducible repeat (first | refine blk_drewN ?_ _ | refine blk_drew ?_ | refine blk_alloc ?_ _)); exact BK108.out⟩, ⟨by (with_reducible repeat (first | refine blk_drewN ?_ _ | refine blk_drew ?_ | refine blk_alloc ?_ _)); refine blk_put (cs := #[.int .i64 x110000_2]) ?_ 0 _ rfl; (with_reducible repeat (first | refine blk_drewN ?_ _ | refine blk_drew ?_ | refine blk_alloc ?_ _)); exact BK109.out⟩, ⟨by repeat (first | (with_reducible first | exact HB.out | apply below_alloc | apply pw_below_drewN | apply below_drew1 | refine below_set ?_ GE107.out | refine below_set ?_ GE108.out | refine below_set ?_ GE109.out) | exact HB.out)⟩⟩
                                          · rw [if_neg c65] at H
                                            exact absurd H (by simp)
                                        · rw [if_neg c63] at H
                                          exact absurd H (by simp)
                                      · rw [if_neg c62] at H
                                        exact absurd H (by simp)
                                    · rw [if_neg c61] at H
                                      exact absurd H (by simp)
                                  · rw [if_neg c60] at H
                                    exact absurd H (by simp)
                                · replace c58 := Bool.eq_false_iff.mpr c58
                                  subst c58
                                  have H1 : (tree_Draw.j2 k2 a0 x6_2 x109000_2 x110000_2) = some (r1, r2, r3) := by rw [if_neg (show ¬ (false = true) by decide)] at H; exact H
                                  clear H
                                  have H := H1
                                  clear H1
                                  have H' := Aside0.mk H
                                  clear H
                                  obtain ⟨Ao77, co77, eo77⟩ := Kd.R_slice HO_6.out
                                  subst eo77
                                  have hnb78 := NB109_107.out
                                  have hnc78 := NB107_109.out
                                  have hnb79 := NB109_108.out
                                  have hnc79 := NB108_109.out
                                  have hcz80_0 : wr.cell? ⟨gb109, 0, none⟩ = some (.int .i64 x110000_2) := (blk_cell BK109.out 0).trans rfl
                                  have hfz80_0 := blk_frozen BK109.out 0
                                  go_wp2_with (first | (go_at_call 36; (with_reducible refine (strings_HasPrefix.calls (a0.extract (x110000_2 : Int).toNat a0.size) (⟨#[41]⟩ : ByteArray) false _ A57.out).mono ?_); rintro e w' ⟨rfl, ⟨nd, rfl⟩⟩))
                                  go_meet
                                  case rel => exact ⟨_, (x6_2), (x109000_2), (x110000_2), (u109000), H', ⟨by have := HK1.out; have := HK2.out; first | omega | exact Nat.le_refl _⟩, ⟨by (with_reducible repeat (first | apply Kd.R_alloc | apply Kd.R_drewN | apply Kd.R_drew)); exact HO_6.out⟩, ⟨by (with_reducible repeat (first | apply Kd.R_alloc | apply Kd.R_drewN | apply Kd.R_drew)); exact HO_109000.out⟩, ⟨by (with_reducible repeat (first | refine blk_drewN ?_ _ | refine blk_drew ?_ | refine blk_alloc ?_ _)); exact BK107.out⟩, ⟨by (with_reducible repeat (first | refine blk_drewN ?_ _ | refine blk_drew ?_ | refine blk_alloc ?_ _)); exact BK108.out⟩, ⟨by (with_reducible repeat (first | refine blk_drewN ?_ _ | refine blk_drew ?_ | refine blk_alloc ?_ _)); exact BK109.out⟩, ⟨by repeat (first | (with_reducible first | exact HB.out | apply below_alloc | apply pw_below_drewN | apply below_drew1 | refine below_set ?_ GE107.out | refine below_set ?_ GE108.out | refine below_set ?_ GE109.out) | exact HB.out)⟩⟩
                              · rw [if_neg c56] at H
                                exact absurd H (by simp)
                            · rw [if_neg c55] at H
                              exact absurd H (by simp)
                          · rw [if_neg c54] at H
                            have c54b0 : decide (0 < (x6_2.length : Int)) = false := decide_eq_false c54
                            have c54b1 : decide (0 < x6_2.length) = false := decide_eq_false (by omega)
                            clear c54
                            (first | rw [c54b0] | (simp only [i64_w, i32_w]; rw [c54b0]) | skip)
                            have H' := Aside0.mk H
                            clear H
                            obtain ⟨Ao81, co81, eo81⟩ := Kd.R_slice HO_6.out
                            subst eo81
                            go_wp2
                            go_meet
                            case rel => exact ⟨_, (x6_2), (x109000_2), (x110000_2), (u109000), H', ⟨by have := HK1.out; have := HK2.out; first | omega | exact Nat.le_refl _⟩, ⟨by (with_reducible repeat (first | apply Kd.R_alloc | apply Kd.R_drewN | apply Kd.R_drew)); exact HO_6.out⟩, ⟨by (with_reducible repeat (first | apply Kd.R_alloc | apply Kd.R_drewN | apply Kd.R_drew)); exact HO_109000.out⟩, ⟨by (with_reducible repeat (first | refine blk_drewN ?_ _ | refine blk_drew ?_ | refine blk_alloc ?_ _)); exact BK107.out⟩, ⟨by (with_reducible repeat (first | refine blk_drewN ?_ _ | refine blk_drew ?_ | refine blk_alloc ?_ _)); exact BK108.out⟩, ⟨by (with_reducible repeat (first | refine blk_drewN ?_ _ | refine blk_drew ?_ | refine blk_alloc ?_ _)); exact BK109.out⟩, ⟨by repeat (first | (with_reducible first | exact HB.out | apply below_alloc | apply pw_below_drewN | apply below_drew1 | refine below_set ?_ GE107.out | refine below_set ?_ GE108.out | refine below_set ?_ GE109.out) | exact HB.out)⟩⟩
                    case rest =>
                      clear HC42
                      try clear c1
                      try clear p1
                      try clear q1
                      try clear hx1
                      try clear c2
                      try clear p2
                      try clear c3
                      try clear c4
                      try clear c5
                      try clear c6
                      try clear p6
                      try clear q6
                      try clear hx6
                      try clear hf6
                      try clear c7
                      try clear q7
                      try clear hx7
                      try clear hf7
                      try clear c8
                      try clear c8b0
                      try clear c8b1
                      try clear c9
                      try clear c9b0
                      try clear c9b1
                      try clear c11
                      try clear c11b0
                      try clear p12
                      try clear q12
                      try clear hx12
                      try clear c13
                      try clear c14
                      try clear c20
                      try clear c22
                      try clear c24
                      try clear c24b0
                      try clear c24b1
                      try clear c25
                      try clear c25b0
                      try clear c25b1
                      try clear c27
                      try clear c28
                      try clear c29
                      try clear c30
                      try clear c34
                      try clear c35
                      try clear c36
                      try clear c43
                      try clear c44
                      try clear c48
                      try clear c54
                      try clear c54b0
                      try clear c54b1
                      try clear c55
                      try clear c55b0
                      try clear c55b1
                      try clear c56
                      try clear c56b0
                      try clear c56b1
                      try clear c58
                      try clear c60
                      try clear c60b0
                      try clear c61
                      try clear c61b0
                      try clear c62
                      try clear c62b0
                      try clear c63
                      try clear c63b0
                      try clear c64
                      try clear p64
                      try clear q64
                      try clear hx64
                      try clear hf64
                      try clear c65
                      try clear c65b0
                      try clear c65b1
                      try clear c67
                      try clear c68
                      try clear c70
                      try clear c73
                      try clear hx73
                      try clear hf73
                      try clear q75
                      try clear c78
                      try clear c79
                      try clear hcz15_0
                      try clear hcz17_0
                      try clear hcz21_0
                      try clear hcz31_0
                      try clear hcz33_0
                      try clear hcz35_0
                      try clear hcz38_0
                      try clear hcz39_0
                      try clear hcz41_0
                      try clear hcz45_0
                      try clear hcz47_0
                      try clear hcz49_0
                      try clear hcz52_0
                      try clear hcz53_0
                      try clear hcz69_0
                      try clear hcz71_0
                      try clear hcz76_0
                      try clear hcz7_0
                      try clear hcz80_0
                      try clear hfz15_0
                      try clear hfz17_0
                      try clear hfz21_0
                      try clear hfz31_0
                      try clear hfz33_0
                      try clear hfz35_0
                      try clear hfz38_0
                      try clear hfz39_0
                      try clear hfz41_0
                      try clear hfz45_0
                      try clear hfz47_0
                      try clear hfz49_0
                      try clear hfz52_0
                      try clear hfz53_0
                      try clear hfz69_0
                      try clear hfz71_0
                      try clear hfz76_0
                      try clear hfz7_0
                      try clear hfz80_0
                      try clear hx125_0
                      try clear hx64_0
                      try clear hx64_1
                      try clear hx64_2
                      try clear hx64_3
                      try clear hx73_3
                      try clear p125
                      try clear p2
                      try clear p6
                      try clear p64
                      try clear q125
                      try clear q64
                      try clear q75
                      obtain ⟨kq, x6_41, x109000_41, x110000_41, u109000, HA, HJ41, HO_6, HO_109000, BK107, BK108, BK109, HB⟩ := hcut
                      cases kq with
                      | zero => exact absurd HA.out (by simp [tree_Draw.j2])
                      | succ kj41 =>
                        have H := HA.out
                        clear HA
                        simp only [tree_Draw.j2] at H
                        have HC82 := Aside0.mk H
                        clear H
                        go_upto_region 18 with (fail)
                        go_cut [83] (fun v83 wc => ∃ (kq : Nat) (x83_81 : Bool), v83 = .bool x83_81 ∧ Aside0 (tree_Draw.j3 kq a0 x6_41 x83_81 x109000_41 x110000_41 = some (r1, r2, r3)) ∧ Aside0 (kq ≤ kj41) ∧ Aside0 (Kd.R (Kd.int .i64) 3 wc w.heap.size (fun k_ => k_ ≠ gb109) u6 x6_41) ∧ Aside0 (Kd.R k43 43 wc w.heap.size (fun _ => True) u109000 x109000_41) ∧ Aside0 (wc.heap[gb107]? = some (.cells #[(.slice none 0 0)] 24 (0, 0))) ∧ Aside0 (wc.heap[gb108]? = some (.cells #[u109000] 24 (0, 0))) ∧ Aside0 (wc.heap[gb109]? = some (.cells #[.int .i64 x110000_41] 3 (0, 0))) ∧ Aside0 (Below w.heap.size w wc))
                        case first =>
                          have H := HC82.out
                          clear HC82
                          by_cases c83 : (x6_41.length : Int) = 0
                          · rw [if_pos c83] at H
                            have c83b0 : ((x6_41.length : Int) == 0) = true := beq_iff_eq.mpr c83
                            have c83b1 : ((x6_41.length : Int) != 0) = false := bne_eq_false_iff_eq.mpr c83
                            clear c83
                            (first | rw [c83b0] | (simp only [i64_w, i32_w]; rw [c83b0]) | skip)
                            have H' := Aside0.mk H
                            clear H
                            obtain ⟨Ao84, co84, eo84⟩ := Kd.R_slice HO_6.out
                            subst eo84
                            have hnb85 := NB109_107.out
                            have hnc85 := NB107_109.out
                            have hnb86 := NB109_108.out
                            have hnc86 := NB108_109.out
                            have hcz87_0 : wc.cell? ⟨gb109, 0, none⟩ = some (.int .i64 x110000_41) := (blk_cell BK109.out 0).trans rfl
                            have hfz87_0 := blk_frozen BK109.out 0
                            go_wp2
                            go_meet
                            case rel => exact ⟨_, ((x110000_41 == (a0.size : Int))), (by first | rfl | (simp; done) | (simp [*]; done)), H', ⟨by have := HK1.out; have := HJ41.out; first | omega | exact Nat.le_refl _⟩, ⟨by (with_reducible repeat (first | apply Kd.R_alloc | apply Kd.R_drewN | apply Kd.R_drew)); exact HO_6.out⟩, ⟨by (with_reducible repeat (first | apply Kd.R_alloc | apply Kd.R_drewN | apply Kd.R_drew)); exact HO_109000.out⟩, ⟨by (with_reducible repeat (first | refine blk_drewN ?_ _ | refine blk_drew ?_ | refine blk_alloc ?_ _)); exact BK107.out⟩, ⟨by (with_reducible repeat (first | refine blk_drewN ?_ _ | refine blk_drew ?_ | refine blk_alloc ?_ _)); exact BK108.out⟩, ⟨by (with_reducible repeat (first | refine blk_drewN ?_ _ | refine blk_drew ?_ | refine blk_alloc ?_ _)); exact BK109.out⟩, ⟨by repeat (first | (with_reducible first | exact HB.out | apply below_alloc | apply pw_below_drewN | apply below_drew1 | refine below_set ?_ GE107.out | refine below_set ?_ GE108.out | refine below_set ?_ GE109.out) | exact HB.out)⟩⟩
                          · rw [if_neg c83] at H
                            have c83b0 : ((x6_41.length : Int) == 0) = false := beq_eq_false_iff_ne.mpr c83
                            have c83b1 : ((x6_41.length : Int) != 0) = true := bne_iff_ne.mpr c83
                            have c83b2 : ¬ (x6_41 = []) := fun h_ => c83 (by rw [h_]; rfl)
                            (first | rw [c83b0] | (simp only [i64_w, i32_w]; rw [c83b0]) | skip)
                            have H' := Aside0.mk H
                            clear H
                            obtain ⟨Ao88, co88, eo88⟩ := Kd.R_slice HO_6.out
                            subst eo88
                            go_wp2
                            go_meet
                            case rel => exact ⟨_, (false), (by first | rfl | (simp; done) | (simp [*]; done)), H', ⟨by have := HK1.out; have := HJ41.out; first | omega | exact Nat.le_refl _⟩, ⟨by (with_reducible repeat (first | apply Kd.R_alloc | apply Kd.R_drewN | apply Kd.R_drew)); exact HO_6.out⟩, ⟨by (with_reducible repeat (first | apply Kd.R_alloc | apply Kd.R_drewN | apply Kd.R_drew)); exact HO_109000.out⟩, ⟨by (with_reducible repeat (first | refine blk_drewN ?_ _ | refine blk_drew ?_ | refine blk_alloc ?_ _)); exact BK107.out⟩, ⟨by (with_reducible repeat (first | refine blk_drewN ?_ _ | refine blk_drew ?_ | refine blk_alloc ?_ _)); exact BK108.out⟩, ⟨by (with_reducible repeat (first | refine blk_drewN ?_ _ | refine blk_drew ?_ | refine blk_alloc ?_ _)); exact BK109.out⟩, ⟨by repeat (first | (with_reducible first | exact HB.out | apply below_alloc | apply pw_below_drewN | apply below_drew1 | refine below_set ?_ GE107.out | refine below_set ?_ GE108.out | refine below_set ?_ GE109.out) | exact HB.out)⟩⟩
                        case rest =>
                          clear HC82
                          try clear c1
                          try clear p1
                          try clear q1
                          try clear hx1
                          try clear c2
                          try clear p2
                          try clear c3
                          try clear c4
                          try clear c5
                          try clear c6
                          try clear p6
                          try clear q6
                          try clear hx6
                          try clear hf6
                          try clear c7
                          try clear q7
                          try clear hx7
                          try clear hf7
                          try clear c8
                          try clear c8b0
                          try clear c8b1
                          try clear c9
                          try clear c9b0
                          try clear c9b1
                          try clear c11
                          try clear c11b0
                          try clear p12
                          try clear q12
                          try clear hx12
                          try clear c13
                          try clear c14
                          try clear c20
                          try clear c22
                          try clear c24
                          try clear c24b0
                          try clear c24b1
                          try clear c25
                          try clear c25b0
                          try clear c25b1
                          try clear c27
                          try clear c28
                          try clear c29
                          try clear c30
                          try clear c34
                          try clear c35
                          try clear c36
                          try clear c43
                          try clear c44
                          try clear c48
                          try clear c54
                          try clear c54b0
                          try clear c54b1
                          try clear c55
                          try clear c55b0
                          try clear c55b1
                          try clear c56
                          try clear c56b0
                          try clear c56b1
                          try clear c58
                          try clear c60
                          try clear c60b0
                          try clear c61
                          try clear c61b0
                          try clear c62
                          try clear c62b0
                          try clear c63
                          try clear c63b0
                          try clear c64
                          try clear p64
                          try clear q64
                          try clear hx64
                          try clear hf64
                          try clear c65
                          try clear c65b0
                          try clear c65b1
                          try clear c67
                          try clear c68
                          try clear c70
                          try clear c73
                          try clear hx73
                          try clear hf73
                          try clear q75
                          try clear c78
                          try clear c79
                          try clear c83
                          try clear c83b0
                          try clear c83b1
                          try clear c83b2
                          try clear c85
                          try clear c86
                          try clear hcz15_0
                          try clear hcz17_0
                          try clear hcz21_0
                          try clear hcz31_0
                          try clear hcz33_0
                          try clear hcz35_0
                          try clear hcz38_0
                          try clear hcz39_0
                          try clear hcz41_0
                          try clear hcz45_0
                          try clear hcz47_0
                          try clear hcz49_0
                          try clear hcz52_0
                          try clear hcz53_0
                          try clear hcz69_0
                          try clear hcz71_0
                          try clear hcz76_0
                          try clear hcz7_0
                          try clear hcz80_0
                          try clear hcz87_0
                          try clear hfz15_0
                          try clear hfz17_0
                          try clear hfz21_0
                          try clear hfz31_0
                          try clear hfz33_0
                          try clear hfz35_0
                          try clear hfz38_0
                          try clear hfz39_0
                          try clear hfz41_0
                          try clear hfz45_0
                          try clear hfz47_0
                          try clear hfz49_0
                          try clear hfz52_0
                          try clear hfz53_0
                          try clear hfz69_0
                          try clear hfz71_0
                          try clear hfz76_0
                          try clear hfz7_0
                          try clear hfz80_0
                          try clear hfz87_0
                          try clear hx125_0
                          try clear hx64_0
                          try clear hx64_1
                          try clear hx64_2
                          try clear hx64_3
                          try clear hx73_3
                          try clear p1
                          try clear p12
                          try clear p125
                          try clear p2
                          try clear p6
                          try clear p64
                          try clear q1
                          try clear q12
                          try clear q125
                          try clear q6
                          try clear q64
                          try clear q7
                          try clear q75
                          obtain ⟨kq, x83_81, rfl, HA, HJ81, HO_6, HO_109000, BK107, BK108, BK109, HB⟩ := hcut
                          cases kq with
                          | zero => exact absurd HA.out (by simp [tree_Draw.j3])
                          | succ kj81 =>
                            have H := HA.out
                            clear HA
                            simp only [tree_Draw.j3] at H
                            by_cases c89 : x83_81 = true
                            · subst c89
                              have H1 : (some (x109000_41, 0, 0)) = some (r1, r2, r3) := by rw [if_pos rfl] at H; exact H
                              clear H
                              have H := H1
                              clear H1
                              simp only [Option.some.injEq, Prod.mk.injEq] at H
                              obtain ⟨rfl, rfl, rfl⟩ := H
                              have hnb90 := NB108_107.out
                              have hnc90 := NB107_108.out
                              have hnb91 := NB108_109.out
                              have hnc91 := NB109_108.out
                              have hcz92_0 : wc.cell? ⟨gb108, 0, none⟩ = some (u109000) := (blk_cell BK108.out 0).trans rfl
                              have hfz92_0 := blk_frozen BK108.out 0
                              obtain ⟨Ao93, co93, eo93⟩ := Kd.R_slice HO_109000.out
                              subst eo93
                              have hnb94 := NB107_109.out
                              have hnc94 := NB109_107.out
                              have hcz95_0 : wc.cell? ⟨gb107, 0, none⟩ = some (.slice none 0 0) := (blk_cell BK107.out 0).trans rfl
                              have hfz95_0 := blk_frozen BK107.out 0
                              go_wp2
                              refine bodyPost_ret (results_ctt rfl _ _ gb107 24 #[.slice Ao93 x109000_41.length co93] (0, 0) _ rfl (by (with_reducible repeat (first | refine blk_drewN ?_ _ | refine blk_drew ?_ | refine blk_alloc ?_ _)); refine blk_put (cs := #[.slice none 0 0]) ?_ 0 _ rfl; (with_reducible repeat (first | refine blk_drewN ?_ _ | refine blk_drew ?_ | refine blk_alloc ?_ _)); exact BK107.out) Tryd.underlying24 rfl (by kernel_rfl)) rfl ?_
                              exact ⟨_, by first | rfl | (simp [errW_none, errW_some] <;> rfl) | (simp only [← hji23]; first | rfl | (simp [errW_none, errW_some] <;> rfl)) | (simp [*, errW_none, errW_some] <;> rfl), by (with_reducible repeat (first | apply Kd.R_alloc | apply Kd.R_drewN | apply Kd.R_drew)); exact Kd.R_mono (Kd.R_far (p := ⟨gb107, 0, none⟩) (Kd.R_types HO_109000.out BK107.out (by decide)) (fun _ hk => hk.2) (.slice Ao93 x109000_41.length co93)) (fun _ hk => trivial), by repeat (first | (with_reducible first | exact HB.out | apply below_alloc | apply pw_below_drewN | apply below_drew1 | refine below_set ?_ GE107.out | refine below_set ?_ GE108.out | refine below_set ?_ GE109.out) | exact HB.out)⟩
                            · replace c89 := Bool.eq_false_iff.mpr c89
                              subst c89
                              have H1 : (if (x6_41.length : Int) = 0 then ((tree_fault.f kj81 x110000_41).bind fun bt130 => (some (bt130.1, bt130.2.1, bt130.2.2))) else (if 0 ≤ x110000_41 then (if x110000_41 ≤ (a0.size : Int) then ((strings_HasPrefix.f (a0.extract (x110000_41 : Int).toNat a0.size) (⟨#[32]⟩ : ByteArray)).bind fun t135 => (if t135 = true then (tree_Draw.l0 kj81 a0 x6_41 x109000_41 (wrap64 (x110000_41 + 1))) else ((tree_fault.f kj81 x110000_41).bind fun bt136 => (some (bt136.1, bt136.2.1, bt136.2.2))))) else (none)) else (none))) = some (r1, r2, r3) := by rw [if_neg (show ¬ (false = true) by decide)] at H; exact H
                              clear H
                              have H := H1
                              clear H1
                              by_cases c96 : (x6_41.length : Int) = 0
                              · rw [if_pos c96] at H
                                have c96b0 : ((x6_41.length : Int) == 0) = true := beq_iff_eq.mpr c96
                                have c96b1 : ((x6_41.length : Int) != 0) = false := bne_eq_false_iff_eq.mpr c96
                                clear c96
                                replace H := Option.bind_eq_some_iff.mp H
                                obtain ⟨⟨t130, t133, t134⟩, A970, H⟩ := H
                                replace H : (some (t130, t133, t134)) = some (r1, r2, r3) := H
                                have A97 := Aside0.mk A970
                                clear A970
                                simp only [Option.some.injEq, Prod.mk.injEq] at H
                                obtain ⟨rfl, rfl, rfl⟩ := H
                                obtain ⟨Ao98, co98, eo98⟩ := Kd.R_slice HO_6.out
                                subst eo98
                                have hnb99 := NB109_107.out
                                have hnc99 := NB107_109.out
                                have hnb100 := NB109_108.out
                                have hnc100 := NB108_109.out
                                have hcz101_0 : wc.cell? ⟨gb109, 0, none⟩ = some (.int .i64 x110000_41) := (blk_cell BK109.out 0).trans rfl
                                have hfz101_0 := blk_frozen BK109.out 0
                                have EG : ∀ args W, (callFunc 34 args).run Tryd.prog W = .ok (.enter 34 args) W := fun args W => enters_ Tryd.func34 (by kernel_rfl) rfl args W
                                go_wp2_with (fail)
                                refine (tree_fault.calls kj81 x110000_41 t130 t133 t134 _ A97.out gb109 (by (with_reducible repeat (first | refine blk_drewN ?_ _ | refine blk_drew ?_ | refine blk_alloc ?_ _)); exact BK109.out)).mono ?_
                                rintro e w102 ⟨v131, rfl, ho0, hb⟩
                                clear EG
                                have n0_ := Aside0.mk (Kd.R_below (by (with_reducible repeat (first | apply Kd.R_alloc | apply Kd.R_drewN | apply Kd.R_drew)); exact HO_6.out) hb)
                                have n1_ := Aside0.mk (Kd.R_elder' (by (with_reducible repeat (first | apply Kd.R_alloc | apply Kd.R_drewN | apply Kd.R_drew)); exact HO_109000.out) (Kd.R_base ho0) hb)
                                have n2_ := Aside0.mk (Kd.R_lower (Kd.R_new' ho0 (Kd.R_lt (by (with_reducible repeat (first | apply Kd.R_alloc | apply Kd.R_drewN | apply Kd.R_drew)); exact HO_109000.out))) (below_size (by repeat (first | (with_reducible first | exact HB.out | apply below_alloc | apply pw_below_drewN | apply below_drew1 | refine below_set ?_ GE107.out | refine below_set ?_ GE108.out | refine below_set ?_ GE109.out) | exact HB.out))))
                                have n3_ := Aside0.mk (blk_below (g := gb107) (o := .cells #[.slice none 0 0] 24 (0, 0)) (by (with_reducible repeat (first | refine blk_drewN ?_ _ | refine blk_drew ?_ | refine blk_alloc ?_ _)); exact BK107.out) hb)
                                have n4_ := Aside0.mk (blk_below (g := gb108) (o := .cells #[u109000] 24 (0, 0)) (by (with_reducible repeat (first | refine blk_drewN ?_ _ | refine blk_drew ?_ | refine blk_alloc ?_ _)); exact BK108.out) hb)
                                have n5_ := Aside0.mk (blk_below (g := gb109) (o := .cells #[.int .i64 x110000_41] 3 (0, 0)) (by (with_reducible repeat (first | refine blk_drewN ?_ _ | refine blk_drew ?_ | refine blk_alloc ?_ _)); exact BK109.out) hb)
                                have n6_ := Aside0.mk (below_step (by repeat (first | (with_reducible first | exact HB.out | apply below_alloc | apply pw_below_drewN | apply below_drew1 | refine below_set ?_ GE107.out | refine below_set ?_ GE108.out | refine below_set ?_ GE109.out) | exact HB.out)) hb)
                                clear HO_6
                                clear HO_109000
                                clear BK107
                                clear BK108
                                clear BK109
                                clear HB
                                have HO_6 := n0_
                                have HO_109000 := n1_
                                have HO132 := n2_
                                have BK107 := n3_
                                have BK108 := n4_
                                have BK109 := n5_
                                have HB := n6_
                                clear n0_ n1_ n2_ n3_ n4_ n5_ n6_
                                (try clear hb)
                                (try clear hb2)
                                (try clear hk)
                                (try clear hi)
                                (try clear ho0)
                                obtain ⟨Ao103, co103, eo103⟩ := Kd.R_slice HO132.out
                                subst eo103
                                have hnb104 := NB107_108.out
                                have hnc104 := NB108_107.out
                                have hcz105_0 : w102.cell? ⟨gb107, 0, none⟩ = some (.slice none 0 0) := (blk_cell BK107.out 0).trans rfl
                                have hfz105_0 := blk_frozen BK107.out 0
                                go_wp2
                                refine bodyPost_ret (results_ctt rfl _ _ gb107 24 #[.slice Ao103 t130.length co103] (0, 0) _ rfl (by (with_reducible repeat (first | refine blk_drewN ?_ _ | refine blk_drew ?_ | refine blk_alloc ?_ _)); refine blk_put (cs := #[.slice none 0 0]) ?_ 0 _ rfl; (with_reducible repeat (first | refine blk_drewN ?_ _ | refine blk_drew ?_ | refine blk_alloc ?_ _)); exact BK107.out) Tryd.underlying24 rfl (by kernel_rfl)) rfl ?_
                                exact ⟨_, by first | rfl | (simp [errW_none, errW_some] <;> rfl) | (simp only [← hji23]; first | rfl | (simp [errW_none, errW_some] <;> rfl)) | (simp [*, errW_none, errW_some] <;> rfl), by (with_reducible repeat (first | apply Kd.R_alloc | apply Kd.R_drewN | apply Kd.R_drew)); exact Kd.R_mono (Kd.R_far (p := ⟨gb107, 0, none⟩) (Kd.R_types HO132.out BK107.out (by decide)) (fun _ hk => hk.2) (.slice Ao103 t130.length co103)) (fun _ hk => trivial), by repeat (first | (with_reducible first | exact HB.out | apply below_alloc | apply pw_below_drewN | apply below_drew1 | refine below_set ?_ GE107.out | refine below_set ?_ GE108.out | refine below_set ?_ GE109.out) | exact HB.out)⟩
                              · rw [if_neg c96] at H
                                have c96b0 : ((x6_41.length : Int) == 0) = false := beq_eq_false_iff_ne.mpr c96
                                have c96b1 : ((x6_41.length : Int) != 0) = true := bne_iff_ne.mpr c96
                                have c96b2 : ¬ (x6_41 = []) := fun h_ => c96 (by rw [h_]; rfl)
                                by_cases c106 : 0 ≤ x110000_41
                                · rw [if_pos c106] at H
                                  have c106b0 := eq_true c106
                                  have c106b1 : decide (0 ≤ x110000_41) = true := decide_eq_true c106
                                  clear c106
                                  by_cases c107 : x110000_41 ≤ (a0.size : Int)
                                  · rw [if_pos c107] at H
                                    have c107b0 := eq_true c107
                                    have c107b1 : decide (x110000_41 ≤ (a0.size : Int)) = true := decide_eq_true c107
                                    clear c107
                                    replace H := Option.bind_eq_some_iff.mp H
                                    obtain ⟨t135, A1080, H⟩ := H
                                    replace H : (if t135 = true then (tree_Draw.l0 kj81 a0 x6_41 x109000_41 (wrap64 (x110000_41 + 1))) else ((tree_fault.f kj81 x110000_41).bind fun bt136 => (some (bt136.1, bt136.2.1, bt136.2.2)))) = some (r1, r2, r3) := H
                                    have A108 := Aside0.mk A1080
                                    clear A1080
                                    by_cases c109 : t135 = true
                                    · subst c109
                                      have H1 : (tree_Draw.l0 kj81 a0 x6_41 x109000_41 (wrap64 (x110000_41 + 1))) = some (r1, r2, r3) := by rw [if_pos rfl] at H; exact H
                                      clear H
                                      have H := H1
                                      clear H1
                                      have H' := Aside0.mk H
                                      clear H
                                      obtain ⟨Ao110, co110, eo110⟩ := Kd.R_slice HO_6.out
                                      subst eo110
                                      have hnb111 := NB109_107.out
                                      have hnc111 := NB107_109.out
                                      have hnb112 := NB109_108.out
                                      have hnc112 := NB108_109.out
                                      have hcz113_0 : wc.cell? ⟨gb109, 0, none⟩ = some (.int .i64 x110000_41) := (blk_cell BK109.out 0).trans rfl
                                      have hfz113_0 := blk_frozen BK109.out 0
                                      go_wp2_with (first | (go_at_call 36; (with_reducible refine (strings_HasPrefix.calls (a0.extract (x110000_41 : Int).toNat a0.size) (⟨#[32]⟩ : ByteArray) true _ A108.out).mono ?_); rintro e w' ⟨rfl, ⟨nd, rfl⟩⟩; (try (rw [drewN_self wc]; generalize hq_ : World.drewN wc _ = wc; have n0_ : Aside0 (Kd.R k43 43 wc w.heap.size (fun _ => True) u109000 x109000_41) := ⟨by rw [← hq_]; exact (by (with_reducible repeat (first | apply Kd.R_alloc | apply Kd.R_drewN | apply Kd.R_drew)); exact HO_109000.out)⟩; have n1_ : Aside0 (Kd.R (Kd.int .i64) 3 wc w.heap.size (fun k_ => k_ ≠ gb109) (.slice Ao110 x6_41.length co110) x6_41) := ⟨by rw [← hq_]; exact (by (with_reducible repeat (first | apply Kd.R_alloc | apply Kd.R_drewN | apply Kd.R_drew)); exact HO_6.out)⟩; have n2_ : Aside0 (wc.heap[gb107]? = some (.cells #[.slice none 0 0] 24 (0, 0))) := ⟨by rw [← hq_]; exact (by (with_reducible repeat (first | refine blk_drewN ?_ _ | refine blk_drew ?_ | refine blk_alloc ?_ _)); exact BK107.out)⟩; have n3_ : Aside0 (wc.heap[gb108]? = some (.cells #[u109000] 24 (0, 0))) := ⟨by rw [← hq_]; exact (by (with_reducible repeat (first | refine blk_drewN ?_ _ | refine blk_drew ?_ | refine blk_alloc ?_ _)); exact BK108.out)⟩; have n4_ : Aside0 (wc.heap[gb109]? = some (.cells #[.int .i64 x110000_41] 3 (0, 0))) := ⟨by rw [← hq_]; exact (by (with_reducible repeat (first | refine blk_drewN ?_ _ | refine blk_drew ?_ | refine blk_alloc ?_ _)); exact BK109.out)⟩; have n5_ : Aside0 (Below w.heap.size w wc) := ⟨by rw [← hq_]; exact (by repeat (first | (with_reducible first | exact HB.out | apply below_alloc | apply pw_below_drewN | apply below_drew1 | refine below_set ?_ GE107.out | refine below_set ?_ GE108.out | refine below_set ?_ GE109.out) | exact HB.out))⟩; clear HO_109000 HO_6 BK107 BK108 BK109 HB hq_; have HO_109000 := n0_; have HO_6 := n1_; have BK107 := n2_; have BK108 := n3_; have BK109 := n4_; have HB := n5_; clear n0_ n1_ n2_ n3_ n4_ n5_; have hcz_9 : wc.cell? ⟨gb109, 0, none⟩ = some (.int .i64 x110000_41) := (blk_cell BK109.out 0).trans rfl; have hfz_9 := blk_frozen BK109.out 0))))
                                      go_roundg kj81
                                      case measure => have := HK1.out; have := HJ41.out; have := HJ81.out; omega
                                      case rel => exact ⟨(x6_41), (x109000_41), (wrap64 (x110000_41 + 1)), (u109000), H', ⟨by have := HK1.out; have := HJ41.out; have := HJ81.out; omega⟩, ⟨by (with_reducible repeat (first | apply Kd.R_alloc | apply Kd.R_drewN | apply Kd.R_drew)); exact Kd.R_mono (Kd.R_far (p := ⟨gb109, 0, none⟩) (Kd.R_mono HO_6.out (fun k_ hk => (⟨hk, hk⟩ : _ ∧ k_ ≠ gb109))) (fun _ hk => hk.2) (.int .i64 (wrap64 (x110000_41 + 1)))) (fun _ hk => hk.1)⟩, ⟨by (with_reducible repeat (first | apply Kd.R_alloc | apply Kd.R_drewN | apply Kd.R_drew)); exact Kd.R_mono (Kd.R_far (p := ⟨gb109, 0, none⟩) (Kd.R_types HO_109000.out BK109.out (by decide)) (fun _ hk => hk.2) (.int .i64 (wrap64 (x110000_41 + 1)))) (fun _ hk => trivial)⟩, ⟨by (with_reducible repeat (first | refine blk_drewN ?_ _ | refine blk_drew ?_ | refine blk_alloc ?_ _)); refine blk_far ?_ NB107_109.out _; (with_reducible repeat (first | refine blk_drewN ?_ _ | refine blk_drew ?_ | refine blk_alloc ?_ _)); exact BK107.out⟩, ⟨by (with_reducible repeat (first | refine blk_drewN ?_ _ | refine blk_drew ?_ | refine blk_alloc ?_ _)); refine blk_far ?_ NB108_109.out _; (with_reducible repeat (first | refine blk_drewN ?_ _ | refine blk_drew ?_ | refine blk_alloc ?_ _)); exact BK108.out⟩, ⟨by (with_reducible repeat (first | refine blk_drewN ?_ _ | refine blk_drew ?_ | refine blk_alloc ?_ _)); refine blk_put (cs := #[.int .i64 x110000_41]) ?_ 0 _ rfl; (with_reducible repeat (first | refine blk_drewN ?_ _ | refine blk_drew ?_ | refine blk_alloc ?_ _)); exact BK109.out⟩, ⟨by repeat (first | (with_reducible first | exact HB.out | apply below_alloc | apply pw_below_drewN | apply below_drew1 | refine below_set ?_ GE107.out | refine below_set ?_ GE108.out | refine below_set ?_ GE109.out) | exact HB.out)⟩⟩
                                    · replace c109 := Bool.eq_false_iff.mpr c109
                                      subst c109
                                      have H1 : ((tree_fault.f kj81 x110000_41).bind fun bt136 => (some (bt136.1, bt136.2.1, bt136.2.2))) = some (r1, r2, r3) := by rw [if_neg (show ¬ (false = true) by decide)] at H; exact H
                                      clear H
                                      have H := H1
                                      clear H1
                                      replace H := Option.bind_eq_some_iff.mp H
                                      obtain ⟨⟨t136, t139, t140⟩, A1140, H⟩ := H
                                      replace H : (some (t136, t139, t140)) = some (r1, r2, r3) := H
                                      have A114 := Aside0.mk A1140
                                      clear A1140
                                      simp only [Option.some.injEq, Prod.mk.injEq] at H
                                      obtain ⟨rfl, rfl, rfl⟩ := H
                                      obtain ⟨Ao115, co115, eo115⟩ := Kd.R_slice HO_6.out
                                      subst eo115
                                      have hnb116 := NB109_107.out
                                      have hnc116 := NB107_109.out
                                      have hnb117 := NB109_108.out
                                      have hnc117 := NB108_109.out
                                      have hcz118_0 : wc.cell? ⟨gb109, 0, none⟩ = some (.int .i64 x110000_41) := (blk_cell BK109.out 0).trans rfl
                                      have hfz118_0 := blk_frozen BK109.out 0
                                      have EG : ∀ args W, (callFunc 34 args).run Tryd.prog W = .ok (.enter 34 args) W := fun args W => enters_ Tryd.func34 (by kernel_rfl) rfl args W
                                      go_wp2_with (first | (go_at_call 36; (with_reducible refine (strings_HasPrefix.calls (a0.extract (x110000_41 : Int).toNat a0.size) (⟨#[32]⟩ : ByteArray) false _ A108.out).mono ?_); rintro e w' ⟨rfl, ⟨nd, rfl⟩⟩; (try (rw [drewN_self wc]; generalize hq_ : World.drewN wc _ = wc; have n0_ : Aside0 (Kd.R k43 43 wc w.heap.size (fun _ => True) u109000 x109000_41) := ⟨by rw [← hq_]; exact (by (with_reducible repeat (first | apply Kd.R_alloc | apply Kd.R_drewN | apply Kd.R_drew)); exact HO_109000.out)⟩; have n1_ : Aside0 (Kd.R (Kd.int .i64) 3 wc w.heap.size (fun k_ => k_ ≠ gb109) (.slice Ao115 x6_41.length co115) x6_41) := ⟨by rw [← hq_]; exact (by (with_reducible repeat (first | apply Kd.R_alloc | apply Kd.R_drewN | apply Kd.R_drew)); exact HO_6.out)⟩; have n2_ : Aside0 (wc.heap[gb107]? = some (.cells #[.slice none 0 0] 24 (0, 0))) := ⟨by rw [← hq_]; exact (by (with_reducible repeat (first | refine blk_drewN ?_ _ | refine blk_drew ?_ | refine blk_alloc ?_ _)); exact BK107.out)⟩; have n3_ : Aside0 (wc.heap[gb108]? = some (.cells #[u109000] 24 (0, 0))) := ⟨by rw [← hq_]; exact (by (with_reducible repeat (first | refine blk_drewN ?_ _ | refine blk_drew ?_ | refine blk_alloc ?_ _)); exact BK108.out)⟩; have n4_ : Aside0 (wc.heap[gb109]? = some (.cells #[.int .i64 x110000_41] 3 (0, 0))) := ⟨by rw [← hq_]; exact (by (with_reducible repeat (first | refine blk_drewN ?_ _ | refine blk_drew ?_ | refine blk_alloc ?_ _)); exact BK109.out)⟩; have n5_ : Aside0 (Below w.heap.size w wc) := ⟨by rw [← hq_]; exact (by repeat (first | (with_reducible first | exact HB.out | apply below_alloc | apply pw_below_drewN | apply below_drew1 | refine below_set ?_ GE107.out | refine below_set ?_ GE108.out | refine below_set ?_ GE109.out) | exact HB.out))⟩; clear HO_109000 HO_6 BK107 BK108 BK109 HB hq_; have HO_109000 := n0_; have HO_6 := n1_; have BK107 := n2_; have BK108 := n3_; have BK109 := n4_; have HB := n5_; clear n0_ n1_ n2_ n3_ n4_ n5_; have hcz_9 : wc.cell? ⟨gb109, 0, none⟩ = some (.int .i64 x110000_41) := (blk_cell BK109.out 0).trans rfl; have hfz_9 := blk_frozen BK109.out 0))))
                                      refine (tree_fault.calls kj81 x110000_41 t136 t139 t140 _ A114.out gb109 (by (with_reducible repeat (first | refine blk_drewN ?_ _ | refine blk_drew ?_ | refine blk_alloc ?_ _)); exact BK109.out)).mono ?_
                                      rintro e w119 ⟨v137, rfl, ho0, hb⟩
                                      clear EG
                                      have n0_ := Aside0.mk (Kd.R_below (by (with_reducible repeat (first | apply Kd.R_alloc | apply Kd.R_drewN | apply Kd.R_drew)); exact HO_6.out) hb)
                                      have n1_ := Aside0.mk (Kd.R_elder' (by (with_reducible repeat (first | apply Kd.R_alloc | apply Kd.R_drewN | apply Kd.R_drew)); exact HO_109000.out) (Kd.R_base ho0) hb)
                                      have n2_ := Aside0.mk (Kd.R_lower (Kd.R_new' ho0 (Kd.R_lt (by (with_reducible repeat (first | apply Kd.R_alloc | apply Kd.R_drewN | apply Kd.R_drew)); exact HO_109000.out))) (below_size (by repeat (first | (with_reducible first | exact HB.out | apply below_alloc | apply pw_below_drewN | apply below_drew1 | refine below_set ?_ GE107.out | refine below_set ?_ GE108.out | refine below_set ?_ GE109.out) | exact HB.out))))
                                      have n3_ := Aside0.mk (blk_below (g := gb107) (o := .cells #[.slice none 0 0] 24 (0, 0)) (by (with_reducible repeat (first | refine blk_drewN ?_ _ | refine blk_drew ?_ | refine blk_alloc ?_ _)); exact BK107.out) hb)
                                      have n4_ := Aside0.mk (blk_below (g := gb108) (o := .cells #[u109000] 24 (0, 0)) (by (with_reducible repeat (first | refine blk_drewN ?_ _ | refine blk_drew ?_ | refine blk_alloc ?_ _)); exact BK108.out) hb)
                                      have n5_ := Aside0.mk (blk_below (g := gb109) (o := .cells #[.int .i64 x110000_41] 3 (0, 0)) (by (with_reducible repeat (first | refine blk_drewN ?_ _ | refine blk_drew ?_ | refine blk_alloc ?_ _)); exact BK109.out) hb)
                                      have n6_ := Aside0.mk (below_step (by repeat (first | (with_reducible first | exact HB.out | apply below_alloc | apply pw_below_drewN | apply below_drew1 | refine below_set ?_ GE107.out | refine below_set ?_ GE108.out | refine below_set ?_ GE109.out) | exact HB.out)) hb)
                                      clear HO_6
                                      clear HO_109000
                                      clear BK107
                                      clear BK108
                                      clear BK109
                                      clear HB
                                      have HO_6 := n0_
                                      have HO_109000 := n1_
                                      have HO138 := n2_
                                      have BK107 := n3_
                                      have BK108 := n4_
                                      have BK109 := n5_
                                      have HB := n6_
                                      clear n0_ n1_ n2_ n3_ n4_ n5_ n6_
                                      (try clear hb)
                                      (try clear hb2)
                                      (try clear hk)
                                      (try clear hi)
                                      (try clear ho0)
                                      obtain ⟨Ao120, co120, eo120⟩ := Kd.R_slice HO138.out
                                      subst eo120
                                      have hnb121 := NB107_108.out
                                      have hnc121 := NB108_107.out
                                      have hcz122_0 : w119.cell? ⟨gb107, 0, none⟩ = some (.slice none 0 0) := (blk_cell BK107.out 0).trans rfl
                                      have hfz122_0 := blk_frozen BK107.out 0
                                      go_wp2
                                      refine bodyPost_ret (results_ctt rfl _ _ gb107 24 #[.slice Ao120 t136.length co120] (0, 0) _ rfl (by (with_reducible repeat (first | refine blk_drewN ?_ _ | refine blk_drew ?_ | refine blk_alloc ?_ _)); refine blk_put (cs := #[.slice none 0 0]) ?_ 0 _ rfl; (with_reducible repeat (first | refine blk_drewN ?_ _ | refine blk_drew ?_ | refine blk_alloc ?_ _)); exact BK107.out) Tryd.underlying24 rfl (by kernel_rfl)) rfl ?_
                                      exact ⟨_, by first | rfl | (simp [errW_none, errW_some] <;> rfl) | (simp only [← hji23]; first | rfl | (simp [errW_none, errW_some] <;> rfl)) | (simp [*, errW_none, errW_some] <;> rfl), by (with_reducible repeat (first | apply Kd.R_alloc | apply Kd.R_drewN | apply Kd.R_drew)); exact Kd.R_mono (Kd.R_far (p := ⟨gb107, 0, none⟩) (Kd.R_types HO138.out BK107.out (by decide)) (fun _ hk => hk.2) (.slice Ao120 t136.length co120)) (fun _ hk => trivial), by repeat (first | (with_reducible first | exact HB.out | apply below_alloc | apply pw_below_drewN | apply below_drew1 | refine below_set ?_ GE107.out | refine below_set ?_ GE108.out | refine below_set ?_ GE109.out) | exact HB.out)⟩
                                  · rw [if_neg c107] at H
                                    exact absurd H (by simp)
                                · rw [if_neg c106] at H
                                  exact absurd H (by simp)
                · rw [if_neg c25] at H
                  exact absurd H (by simp)
              · rw [if_neg c24] at H
                exact absurd H (by simp)
            · rw [if_neg c22] at H
              exact absurd H (by simp)
        · rw [if_neg c9] at H
          exact absurd H (by simp)
      · rw [if_neg c8] at H
        exact absurd H (by simp)

set_option maxHeartbeats 8000000 in
set_option maxRecDepth 100000 in
theorem tree_Sketch.calls0 (k : Nat) (A : Option Addr) (c : Nat) (ns : List S43) (r : ByteArray) (w : World) (hr : Kd.C k43 w A ns.length ns) (hc : ns.length ≤ c) (h : tree_Sketch.f k ns = some r) (hs_ : SG0 w) :
    Calls Tryd.prog 11 #[.agg #[.slice A ns.length c]] w fun e w' => e = .returned (.string r) ∧ Below w.heap.size w w' := by
  have hu24 := Tryd.underlying24
  have hu43 := Tryd.underlying43
  have hu81 := Tryd.underlying81
  obtain ⟨s, hs, H⟩ := Option.bind_eq_some_iff.1 h
  have E39 : ∀ args w, (callFunc 39 args).run Tryd.prog w = .ok (.enter 39 args) w := enters_of Tryd.func39 (by kernel_rfl) rfl
  have E40 : ∀ args w, (callFunc 40 args).run Tryd.prog w = .ok (.enter 40 args) w := enters_of Tryd.func40 (by kernel_rfl) rfl
  have E41 : ∀ args w, (callFunc 41 args).run Tryd.prog w = .ok (.enter 41 args) w := enters_of Tryd.func41 (by kernel_rfl) rfl
  have E38 : ∀ args w, (callFunc 38 args).run Tryd.prog w = .ok (.enter 38 args) w := enters_of Tryd.func38 (by kernel_rfl) rfl
  have HR := Aside0.mk hr
  have HC := Aside0.mk hc
  have HSG := Aside0.mk hs_
  have HB := Aside0.mk (Below.refl w.heap.size w)
  have HS := Aside0.mk hs
  have H' := Aside0.mk H
  clear h hr hc hs_ hs H
  go_enter Tryd.func11, Tryd.ntmps11
  go_wp2_with (first
    | ((with_reducible refine gate_dst (N := 1) rfl ?_); refine box_event ?hg (N := 1) ?hd (cs := #[.slice A ns.length c]) (t := 24) ?hr ?_; (case hd => rfl); (case hg => rfl); (case hr => first | (go_simp; done) | (go_simp; rfl)); intro gt hge w1 hbox hb; have n0_ := Aside0.mk (below_step HB.out hb); have BT := Aside0.mk hbox; clear HB; have HB := n0_; clear n0_; clear hbox hge hb; have hx0 : w1.cell? ⟨gt, 0, none⟩ = some (.slice A ns.length c) := (blk_cell BT.out 0).trans rfl)
    | fail)
  refine (tree_shaped.calls k A c ns s _ (Kd.C_below HR.out HB.out) HC.out HS.out).mono ?_
  rintro e w2 ⟨rfl, hb⟩
  have n0_ := Aside0.mk (below_step HB.out hb)
  have n1_ := Aside0.mk (blk_below BT.out hb)
  clear HB BT hx0 hb
  have HB := n0_
  have BT := n1_
  clear n0_ n1_
  have hx0 : w2.cell? ⟨gt, 0, none⟩ = some (.slice A ns.length c) := (blk_cell BT.out 0).trans rfl
  cases s with
  | false =>
    have H := H'.out
    simp only [Bool.false_eq_true, if_false, Option.some.injEq] at H
    subst H
    go_wp2
    go_ret
    exact ⟨rfl, HB.out⟩
  | true =>
    have H := H'.out
    rw [if_pos rfl] at H
    obtain ⟨l, hl, hr2⟩ := Option.bind_eq_some_iff.1 H
    obtain rfl := (Option.some.inj hr2).symm
    have HL := Aside0.mk hl
    clear H H' hr2 hl
    go_wp2_with (first
      | ((with_reducible refine gate_dst (N := 3) rfl ?_); refine box_event ?hg (N := 3) ?hd (cs := #[.pointer none, .slice none 0 0]) (t := 81) ?hr ?_; (case hd => rfl); (case hg => rfl); (case hr => first | (go_simp; done) | (go_simp; rfl)); intro gb hge w3 hbox hb; have HI := Aside0.mk (show SkI ns A c w w3 gt gb (.slice none 0 0) [] [] from ⟨blk_below BT.out hb, .inl ⟨by rw [hge]; exact HB.out.size, _, hbox, World.ownsRowF_nil _ _ _ _, by simp [Value.ownBlock]⟩, Kd.R_nil _ _ _ _ _, below_step HB.out hb⟩); clear HB BT hx0; have hx0 : w3.cell? ⟨gt, 0, none⟩ = some (.slice A ns.length c) := (blk_cell HI.out.box 0).trans rfl; clear hbox hge hb)
      | fail)
    clear E38 HS
    go_loopg [4, 13] k (fun kq v4 v13 w' => ∃ (out : List UInt8) (o : List Int) (i : Int), v13 = .int .i64 i ∧ Aside0 (tree_Sketch.l0 kq ns out o i = some l) ∧ Aside0 (kq ≤ k) ∧ Aside0 (SkI ns A c w w' gt gb v4 out o))
    case atStart => exact ⟨[], [], 0, rfl, HL, ⟨Nat.le_refl _⟩, HI⟩
    case round =>
      clear HL HI hx0
      obtain ⟨out, o, i, rfl, HA, HK1, HI⟩ := hrel
      obtain ⟨Ao, co, eo⟩ := Kd.R_slice HI.out.opn
      subst eo
      cases gk with
      | zero => exact absurd HA.out (by simp [tree_Sketch.l0])
      | succ k1 =>
        have H := HA.out
        clear HA
        simp only [tree_Sketch.l0] at H
        by_cases c2 : i < (ns.length : Int)
        · rw [if_pos c2] at H
          have c2b0 : decide (i < (ns.length : Int)) = true := decide_eq_true c2
          by_cases c3 : 0 ≤ i
          · rw [if_pos c3] at H
            have H' := Aside0.mk H
            clear H
            obtain ⟨ad, ea, x0, x1, x2, x3⟩ := at_T43 (Kd.C_below HR.out HI.out.bel) i c3 c2
            cases ea
            have p1 := eq_true c3
            have q1 := eq_true c2
            clear c2 c3
            go_upto_block 2 with (first
              | ((with_reducible refine gate_dst (N := 6) rfl ?_); refine box_event ?hg (N := 6) ?hd (cs := #[.int .u8 0, .int .i64 0, .int .i64 0, .int .i64 0]) (t := 43) ?hr ?_; (case hd => rfl); (case hg => rfl); (case hr => first | (go_simp; done) | (go_simp; rfl)); intro g6 hge w6 hbox hb; have GE6 := Aside0.mk (show w.heap.size ≤ g6 by rw [hge]; exact HI.out.bel.size); have n0_ := Aside0.mk (HI.out.below hb); have BX := Aside0.mk hbox; clear HI; have HI := n0_; clear n0_ x0 x1 x2 x3; have hf0 := blk_frozen BX.out 0; have hf1 := blk_frozen BX.out 1; have hf2 := blk_frozen BX.out 2; have hf3 := blk_frozen BX.out 3; have hz0 : w6.cell? ⟨g6, 0, none⟩ = some (.int .u8 0) := (blk_cell BX.out 0).trans rfl; have hz1 : w6.cell? ⟨g6, 1, none⟩ = some (.int .i64 0) := (blk_cell BX.out 1).trans rfl; have hz2 : w6.cell? ⟨g6, 2, none⟩ = some (.int .i64 0) := (blk_cell BX.out 2).trans rfl; have hz3 : w6.cell? ⟨g6, 3, none⟩ = some (.int .i64 0) := (blk_cell BX.out 3).trans rfl; clear hbox hge hb)
              | fail)
            (try simp only [Act.put, List.setIfInBounds_toArray, List.set_cons_zero, List.set_cons_succ])
            clear hf0 hf1 hf2 hf3 hz0 hz1 hz2 hz3
            obtain ⟨hI, hX⟩ := HI.out.set4 BX.out GE6.out (.int .u8 (rd_T43 ns i).f0) (.int .i64 (rd_T43 ns i).f1) (.int .i64 (rd_T43 ns i).f2) (.int .i64 (rd_T43 ns i).f3)
            clear HI BX
            have HI := Aside0.mk hI
            have BX := Aside0.mk hX
            clear hI hX
            generalize ((((w6.setCell ⟨g6, 0, none⟩ (.int .u8 (rd_T43 ns i).f0)).setCell ⟨g6, 1, none⟩ (.int .i64 (rd_T43 ns i).f1)).setCell ⟨g6, 2, none⟩ (.int .i64 (rd_T43 ns i).f2)).setCell ⟨g6, 3, none⟩ (.int .i64 (rd_T43 ns i).f3)) = w7 at HI BX ⊢
            go_cut [4] (fun v4 wc => ∃ (kq : Nat) (out : List UInt8) (o : List Int), Aside0 (tree_Sketch.j2 kq ns out o i = some l) ∧ Aside0 (kq ≤ k1) ∧ Aside0 (SkI ns (some ad) c w wc gt gb v4 out o) ∧ Aside0 (wc.heap[g6]? = some (.cells #[.int .u8 (rd_T43 ns i).f0, .int .i64 (rd_T43 ns i).f1, .int .i64 (rd_T43 ns i).f2, .int .i64 (rd_T43 ns i).f3] 43 (0, 0))))
            case first =>
              go_wp2
              go_loopg [4] k1 (fun kq v4 w' => ∃ (out : List UInt8) (o : List Int), Aside0 (tree_Sketch.l1 kq ns out o i = some l) ∧ Aside0 (kq ≤ k1) ∧ Aside0 (SkI ns (some ad) c w w' gt gb v4 out o) ∧ Aside0 (w'.heap[g6]? = some (.cells #[.int .u8 (rd_T43 ns i).f0, .int .i64 (rd_T43 ns i).f1, .int .i64 (rd_T43 ns i).f2, .int .i64 (rd_T43 ns i).f3] 43 (0, 0))))
              case atStart => exact ⟨out, o, H', ⟨Nat.le_refl _⟩, HI, BX⟩
              case round =>
                clear H' HI BX
                obtain ⟨out2, o2, HA, HK2, HI, BX⟩ := hrel
                obtain ⟨Ap, cp, ep⟩ := Kd.R_slice HI.out.opn
                subst ep
                cases gk with
                | zero => exact absurd HA.out (by simp [tree_Sketch.l1])
                | succ k2 =>
                  have H := HA.out
                  clear HA
                  simp only [tree_Sketch.l1] at H
                  have hl2 := (Kd.R_reads' HI.out.opn).2.1
                  by_cases c17 : (o2.length : Int) > 0
                  · rw [if_pos c17] at H
                    have c17b0 : decide (0 < (o2.length : Int)) = true := decide_eq_true c17
                    have c17b1 : decide (0 < o2.length) = true := decide_eq_true (by omega)
                    clear c17
                    obtain ⟨ji, hji⟩ : ∃ j_ : Int, (wrap64 ((o2.length : Int) - 1)) = j_ := ⟨_, rfl⟩
                    rw [hji] at H
                    have hjiw : (IntKind.i64.wrap ((o2.length : Int) - 1)) = ji := (i64_w _).trans hji
                    by_cases c19 : 0 ≤ ji
                    · rw [if_pos c19] at H
                      have c19b0 : decide (0 ≤ ji) = true := decide_eq_true c19
                      by_cases c20 : ji < (o2.length : Int)
                      · rw [if_pos c20] at H
                        have c20b0 : decide (ji < (o2.length : Int)) = true := decide_eq_true c20
                        obtain ⟨ad2, e2, hx2⟩ := Kd.at_int (Kd.R_reads' HI.out.opn).2.2 ji c19 c20
                        cases e2
                        have p2 := eq_true c19
                        have q2 := eq_true c20
                        have q3 : (ji ≤ (o2.length : Int)) = True := eq_true (by omega)
                        by_cases c21 : rd o2 ji = i
                        · rw [if_pos c21] at H
                          have c21b0 : (rd o2 ji == i) = true := beq_iff_eq.mpr c21
                          by_cases c22 : out2.length < 140737488355328
                          · rw [if_pos c22] at H
                            have H' := Aside0.mk H
                            clear H
                            obtain ⟨i0, hi0, _, hsz, _⟩ := info_parts info3
                            have hcut := cut_to (P := Tryd.prog) 55 3 .i64 Tryd.underlying55 hi0 (some ad2) o2.length cp ji c19 (by omega) hl2
                            have hr24 := Kd.R_take (m := (ji : Int).toNat) HI.out.opn (by omega)
                            have hy : (o2.take (ji : Int).toNat).length = (ji : Int).toNat := by rw [List.length_take]; omega
                            have HR4 := Aside0.mk hr24
                            clear hr24 hy hi0 hsz hl2 c19 c20 c21
                            go_wp2_with (fail)
                            refine (WriteByte_k w.heap.size gb (Lib.byteCells out2) 41 _ HI.out.bld (by rw [Lib.byteCells_length]; omega) HI.out.bel.size).mono ?_
                            rintro e w8 ⟨rfl, hb8, hbel8, ho8⟩
                            have hI := HI.out.wrote hb8 hbel8 ho8 (cells_snoc out2 41)
                            have n0_ := Aside0.mk (show SkI ns (some ad) c w w8 gt gb (.slice (some ad2) ji.toNat cp) (out2 ++ [41]) (o2.take ji.toNat) from ⟨hI.box, hI.bld, oth_row ho8 HR4.out (row_bld HI.out.bld HR4.out), hI.bel⟩)
                            have n1_ := Aside0.mk (oth_blk ho8 BX.out (by decide) (ne_bld HI.out.bld BX.out (by decide)))
                            clear HI BX HR4 hI hb8 hbel8 ho8 hx2
                            have HI := n0_
                            have BX := n1_
                            clear n0_ n1_
                            go_wp2
                            go_roundg k2
                            case measure => have := HK2.out; omega
                            case rel => exact ⟨out2 ++ [41], o2.take ji.toNat, H', ⟨by have := HK2.out; omega⟩, HI, BX⟩
                          · rw [if_neg c22] at H
                            cases H
                        · rw [if_neg c21] at H
                          have c21b0 : (rd o2 ji == i) = false := beq_eq_false_iff_ne.mpr c21
                          have H' := Aside0.mk H
                          clear H c19 c20 c21
                          go_wp2
                          go_meet
                          case rel => exact ⟨_, out2, o2, H', ⟨by have := HK2.out; omega⟩, HI, BX⟩
                      · rw [if_neg c20] at H
                        cases H
                    · rw [if_neg c19] at H
                      cases H
                  · rw [if_neg c17] at H
                    have c17b0 : decide (0 < (o2.length : Int)) = false := decide_eq_false c17
                    have c17b1 : decide (0 < o2.length) = false := decide_eq_false (by omega)
                    have H' := Aside0.mk H
                    clear H c17
                    go_wp2
                    go_meet
                    case rel => exact ⟨_, out2, o2, H', ⟨by have := HK2.out; omega⟩, HI, BX⟩
            case rest =>
              clear H' HI BX
              obtain ⟨kq, out3, o3, HA, HK3, HI, BX⟩ := hcut
              obtain ⟨Aq, cq, eq_⟩ := Kd.R_slice HI.out.opn
              subst eq_
              cases kq with
              | zero => exact absurd HA.out (by simp [tree_Sketch.j2])
              | succ k3 =>
                have H := HA.out
                clear HA
                simp only [tree_Sketch.j2] at H
                by_cases c4 : out3.length < 140737488355300 ∧ o3.length < 17592186044415 ∧ 0 ≤ (rd_T43 ns i).f0 ∧ (rd_T43 ns i).f0 < 58
                · rw [if_pos c4] at H
                  have c4a := c4.1
                  have c4b := c4.2.1
                  have c4c := c4.2.2.1
                  have c4d := c4.2.2.2
                  clear c4
                  have hx0 : wc.cell? ⟨gt, 0, none⟩ = some (.slice (some ad) ns.length c) := (blk_cell HI.out.box 0).trans rfl
                  by_cases c5 : 0 < i
                  · rw [if_pos c5] at H
                    have c5b : decide (0 < i) = true := decide_eq_true c5
                    obtain ⟨ji, hji⟩ : ∃ j_ : Int, (wrap64 (i - 1)) = j_ := ⟨_, rfl⟩
                    rw [hji] at H
                    have hjiw : (IntKind.i64.wrap (i - 1)) = ji := (i64_w _).trans hji
                    by_cases c6 : 0 ≤ ji
                    · rw [if_pos c6] at H
                      by_cases c7 : ji < (ns.length : Int)
                      · rw [if_pos c7] at H
                        obtain ⟨ad3, e3, y0, y1, y2, y3⟩ := at_T43 (Kd.C_below HR.out HI.out.bel) ji c6 c7
                        obtain rfl : ad = ad3 := (by injection e3)
                        have p3 := eq_true c6
                        have q3 := eq_true c7
                        clear c5 c6 c7 y0 y1 y2
                        by_cases c8 : (rd_T43 ns ji).f3 = 1
                        · rw [if_pos c8] at H
                          have c8b : ((rd_T43 ns ji).f3 == 1) = true := beq_iff_eq.mpr c8
                          clear c8
                          go_wp2_with (fail)
                          refine (WriteByte_k w.heap.size gb (Lib.byteCells out3) 32 _ HI.out.bld (by rw [Lib.byteCells_length]; omega) HI.out.bel.size).mono ?_
                          rintro e w9 ⟨rfl, hb9, hbel9, ho9⟩
                          have n0_ := Aside0.mk (HI.out.wrote hb9 hbel9 ho9 (cells_snoc out3 32))
                          have n1_ := Aside0.mk (oth_blk ho9 BX.out (by decide) (ne_bld HI.out.bld BX.out (by decide)))
                          clear HI BX hb9 hbel9 ho9 y3 hx0
                          have HI := n0_
                          have BX := n1_
                          clear n0_ n1_
                          cases k3 with
                          | zero => exact absurd H (by simp [tree_Sketch.j3])
                          | succ k4 =>
                            simp only [tree_Sketch.j3] at H
                            have z0 : w9.cell? ⟨g6, 0, none⟩ = some (.int .u8 (rd_T43 ns i).f0) := (blk_cell BX.out 0).trans rfl
                            obtain ⟨at_, ea_, hxt⟩ := Kd.at_string (Kd.C_below HSG.out.g0 HI.out.bel) (rd_T43 ns i).f0 c4c c4d
                            obtain rfl : (⟨0, 0, none⟩ : Addr) = at_ := (by injection ea_)
                            (first | simp only [add_plain] at hxt | simp only [add_at] at hxt | simp only [Addr.add, Nat.zero_add] at hxt | skip)
                            have pt := eq_true c4c
                            have qt := eq_true c4d
                            have hsz := (tab_size c4c c4d)
                            have HZ := Aside0.mk hsz
                            clear hsz
                            go_wp2_with (fail)
                            refine (WriteString_k w.heap.size gb (Lib.byteCells (out3 ++ [32])) (nmL (rd_T43 ns i).f0) _ HI.out.bld (by rw [Lib.byteCells_length]; have := HZ.out; rw [List.length_append, List.length_singleton]; omega) HI.out.bel.size).mono ?_
                            rintro e w10 ⟨rfl, hb10, hbel10, ho10⟩
                            have n0_ := Aside0.mk (HI.out.wrote hb10 hbel10 ho10 (cells_str (out3 ++ [32]) (nmL (rd_T43 ns i).f0)))
                            have n1_ := Aside0.mk (oth_blk ho10 BX.out (by decide) (ne_bld HI.out.bld BX.out (by decide)))
                            clear HI BX hb10 hbel10 ho10 hxt z0
                            have HI := n0_
                            have BX := n1_
                            clear n0_ n1_
                            have z3 : w10.cell? ⟨g6, 3, none⟩ = some (.int .i64 (rd_T43 ns i).f3) := (blk_cell BX.out 3).trans rfl
                            by_cases c9 : (rd_T43 ns i).f3 > 1
                            · rw [if_pos c9] at H
                              have c9b : decide (1 < (rd_T43 ns i).f3) = true := decide_eq_true c9
                              have H' := Aside0.mk H
                              clear H c9
                              go_wp2_with (fail)
                              refine (WriteByte_k w.heap.size gb (Lib.byteCells ((out3 ++ [32]) ++ (nmL (rd_T43 ns i).f0).data.toList)) 40 _ HI.out.bld (by rw [Lib.byteCells_length]; simp only [List.length_append, List.length_singleton, Array.length_toList]; have := HZ.out; (have e_ : (nmL (rd_T43 ns i).f0).data.size = (nmL (rd_T43 ns i).f0).size := rfl); omega) HI.out.bel.size).mono ?_
                              rintro e w11 ⟨rfl, hb11, hbel11, ho11⟩
                              have n0_ := Aside0.mk (HI.out.wrote hb11 hbel11 ho11 (cells_snoc ((out3 ++ [32]) ++ (nmL (rd_T43 ns i).f0).data.toList) 40))
                              have n1_ := Aside0.mk (oth_blk ho11 BX.out (by decide) (ne_bld HI.out.bld BX.out (by decide)))
                              clear HI BX hb11 hbel11 ho11 z3
                              have HI := n0_
                              have BX := n1_
                              clear n0_ n1_
                              have z3 : w11.cell? ⟨g6, 3, none⟩ = some (.int .i64 (rd_T43 ns i).f3) := (blk_cell BX.out 3).trans rfl
                              go_wp2_with (first
                                | ((with_reducible refine gate_builtin (b := .append) (xs := #[.tmp 59, .tmp 64]) rfl ?_); at_builtin; refine Kd.R_append (Kd.int .i64) (w0 := w) w.heap.size rfl (.tmp 59) (.tmp 64) 55 3 (.int .i64 0) 8 rfl Tryd.underlying55 info3 rfl (by decide) (by omega) (.slice Aq o3.length cq) o3 (wrap64 (i + (rd_T43 ns i).f3)) [.int .i64 (wrap64 (i + (rd_T43 ns i).f3))] (fun _ => True) (fun _ => False) rfl (by first | (go_simp; done) | (go_simp; rfl)) ?aP (fun _ hk => hk.elim) ?aF ?aO ?aB ?aS ?aL ?_; (case aP => exact rfl); (case aF => exact fun _ _ => trivial); (case aO => exact HI.out.opn); (case aB => exact HI.out.bel); (case aS => exact HI.out.bel.size); (case aL => have := c4b; omega); intro v12 w12 ho12 hb12 hg12 hat12; have n0_ := Aside0.mk (show SkI ns (some ad) c w w12 gt gb v12 ((out3 ++ [32]) ++ (nmL (rd_T43 ns i).f0).data.toList ++ [40]) (o3 ++ [wrap64 (i + (rd_T43 ns i).f3)]) from ⟨blk_grown HI.out.box hg12 (Kd.R_ne HI.out.opn HI.out.box (by decide)), (BKeep.grown hg12 HI.out.opn (by decide) (row_bld HI.out.bld HI.out.opn)).bld HI.out.bld, ho12, hb12⟩); clear HI BX z3 ho12 hb12 hg12 hat12; have HI := n0_; clear n0_)
                                | fail)
                              go_roundg k4
                              case measure => have := HK1.out; have := HK3.out; omega
                              case rel => exact ⟨(out3 ++ [32]) ++ (nmL (rd_T43 ns i).f0).data.toList ++ [40], o3 ++ [wrap64 (i + (rd_T43 ns i).f3)], wrap64 (i + 1), by first | rfl | (simp; done) | (simp [*]; done), H', ⟨by have := HK1.out; have := HK3.out; omega⟩, HI⟩
                            · rw [if_neg c9] at H
                              have c9b : decide (1 < (rd_T43 ns i).f3) = false := decide_eq_false c9
                              have H' := Aside0.mk H
                              clear H c9
                              go_wp2
                              go_roundg k4
                              case measure => have := HK1.out; have := HK3.out; omega
                              case rel => exact ⟨(out3 ++ [32]) ++ (nmL (rd_T43 ns i).f0).data.toList, o3, wrap64 (i + 1), by first | rfl | (simp; done) | (simp [*]; done), H', ⟨by have := HK1.out; have := HK3.out; omega⟩, HI⟩
                        · rw [if_neg c8] at H
                          have c8b : ((rd_T43 ns ji).f3 == 1) = false := beq_eq_false_iff_ne.mpr c8
                          clear c8
                          obtain ⟨w9, hw9⟩ : ∃ w_, w_ = wc := ⟨_, rfl⟩
                          subst hw9
                          cases k3 with
                          | zero => exact absurd H (by simp [tree_Sketch.j3])
                          | succ k4 =>
                            simp only [tree_Sketch.j3] at H
                            have z0 : w9.cell? ⟨g6, 0, none⟩ = some (.int .u8 (rd_T43 ns i).f0) := (blk_cell BX.out 0).trans rfl
                            obtain ⟨at_, ea_, hxt⟩ := Kd.at_string (Kd.C_below HSG.out.g0 HI.out.bel) (rd_T43 ns i).f0 c4c c4d
                            obtain rfl : (⟨0, 0, none⟩ : Addr) = at_ := (by injection ea_)
                            (first | simp only [add_plain] at hxt | simp only [add_at] at hxt | simp only [Addr.add, Nat.zero_add] at hxt | skip)
                            have pt := eq_true c4c
                            have qt := eq_true c4d
                            have hsz := (tab_size c4c c4d)
                            have HZ := Aside0.mk hsz
                            clear hsz
                            go_wp2_with (fail)
                            refine (WriteString_k w.heap.size gb (Lib.byteCells out3) (nmL (rd_T43 ns i).f0) _ HI.out.bld (by rw [Lib.byteCells_length]; have := HZ.out; omega) HI.out.bel.size).mono ?_
                            rintro e w10 ⟨rfl, hb10, hbel10, ho10⟩
                            have n0_ := Aside0.mk (HI.out.wrote hb10 hbel10 ho10 (cells_str out3 (nmL (rd_T43 ns i).f0)))
                            have n1_ := Aside0.mk (oth_blk ho10 BX.out (by decide) (ne_bld HI.out.bld BX.out (by decide)))
                            clear HI BX hb10 hbel10 ho10 hxt z0
                            have HI := n0_
                            have BX := n1_
                            clear n0_ n1_
                            have z3 : w10.cell? ⟨g6, 3, none⟩ = some (.int .i64 (rd_T43 ns i).f3) := (blk_cell BX.out 3).trans rfl
                            by_cases c9 : (rd_T43 ns i).f3 > 1
                            · rw [if_pos c9] at H
                              have c9b : decide (1 < (rd_T43 ns i).f3) = true := decide_eq_true c9
                              have H' := Aside0.mk H
                              clear H c9
                              go_wp2_with (fail)
                              refine (WriteByte_k w.heap.size gb (Lib.byteCells (out3 ++ (nmL (rd_T43 ns i).f0).data.toList)) 40 _ HI.out.bld (by rw [Lib.byteCells_length]; simp only [List.length_append, List.length_singleton, Array.length_toList]; have := HZ.out; (have e_ : (nmL (rd_T43 ns i).f0).data.size = (nmL (rd_T43 ns i).f0).size := rfl); omega) HI.out.bel.size).mono ?_
                              rintro e w11 ⟨rfl, hb11, hbel11, ho11⟩
                              have n0_ := Aside0.mk (HI.out.wrote hb11 hbel11 ho11 (cells_snoc (out3 ++ (nmL (rd_T43 ns i).f0).data.toList) 40))
                              have n1_ := Aside0.mk (oth_blk ho11 BX.out (by decide) (ne_bld HI.out.bld BX.out (by decide)))
                              clear HI BX hb11 hbel11 ho11 z3
                              have HI := n0_
                              have BX := n1_
                              clear n0_ n1_
                              have z3 : w11.cell? ⟨g6, 3, none⟩ = some (.int .i64 (rd_T43 ns i).f3) := (blk_cell BX.out 3).trans rfl
                              go_wp2_with (first
                                | ((with_reducible refine gate_builtin (b := .append) (xs := #[.tmp 59, .tmp 64]) rfl ?_); at_builtin; refine Kd.R_append (Kd.int .i64) (w0 := w) w.heap.size rfl (.tmp 59) (.tmp 64) 55 3 (.int .i64 0) 8 rfl Tryd.underlying55 info3 rfl (by decide) (by omega) (.slice Aq o3.length cq) o3 (wrap64 (i + (rd_T43 ns i).f3)) [.int .i64 (wrap64 (i + (rd_T43 ns i).f3))] (fun _ => True) (fun _ => False) rfl (by first | (go_simp; done) | (go_simp; rfl)) ?aP (fun _ hk => hk.elim) ?aF ?aO ?aB ?aS ?aL ?_; (case aP => exact rfl); (case aF => exact fun _ _ => trivial); (case aO => exact HI.out.opn); (case aB => exact HI.out.bel); (case aS => exact HI.out.bel.size); (case aL => have := c4b; omega); intro v12 w12 ho12 hb12 hg12 hat12; have n0_ := Aside0.mk (show SkI ns (some ad) c w w12 gt gb v12 (out3 ++ (nmL (rd_T43 ns i).f0).data.toList ++ [40]) (o3 ++ [wrap64 (i + (rd_T43 ns i).f3)]) from ⟨blk_grown HI.out.box hg12 (Kd.R_ne HI.out.opn HI.out.box (by decide)), (BKeep.grown hg12 HI.out.opn (by decide) (row_bld HI.out.bld HI.out.opn)).bld HI.out.bld, ho12, hb12⟩); clear HI BX z3 ho12 hb12 hg12 hat12; have HI := n0_; clear n0_)
                                | fail)
                              go_roundg k4
                              case measure => have := HK1.out; have := HK3.out; omega
                              case rel => exact ⟨out3 ++ (nmL (rd_T43 ns i).f0).data.toList ++ [40], o3 ++ [wrap64 (i + (rd_T43 ns i).f3)], wrap64 (i + 1), by first | rfl | (simp; done) | (simp [*]; done), H', ⟨by have := HK1.out; have := HK3.out; omega⟩, HI⟩
                            · rw [if_neg c9] at H
                              have c9b : decide (1 < (rd_T43 ns i).f3) = false := decide_eq_false c9
                              have H' := Aside0.mk H
                              clear H c9
                              go_wp2
                              go_roundg k4
                              case measure => have := HK1.out; have := HK3.out; omega
                              case rel => exact ⟨out3 ++ (nmL (rd_T43 ns i).f0).data.toList, o3, wrap64 (i + 1), by first | rfl | (simp; done) | (simp [*]; done), H', ⟨by have := HK1.out; have := HK3.out; omega⟩, HI⟩
                      · rw [if_neg c7] at H
                        cases H
                    · rw [if_neg c6] at H
                      cases H
                  · rw [if_neg c5] at H
                    have c5b : decide (0 < i) = false := decide_eq_false c5
                    clear c5
                    obtain ⟨w9, hw9⟩ : ∃ w_, w_ = wc := ⟨_, rfl⟩
                    subst hw9
                    cases k3 with
                    | zero => exact absurd H (by simp [tree_Sketch.j3])
                    | succ k4 =>
                      simp only [tree_Sketch.j3] at H
                      have z0 : w9.cell? ⟨g6, 0, none⟩ = some (.int .u8 (rd_T43 ns i).f0) := (blk_cell BX.out 0).trans rfl
                      obtain ⟨at_, ea_, hxt⟩ := Kd.at_string (Kd.C_below HSG.out.g0 HI.out.bel) (rd_T43 ns i).f0 c4c c4d
                      obtain rfl : (⟨0, 0, none⟩ : Addr) = at_ := (by injection ea_)
                      (first | simp only [add_plain] at hxt | simp only [add_at] at hxt | simp only [Addr.add, Nat.zero_add] at hxt | skip)
                      have pt := eq_true c4c
                      have qt := eq_true c4d
                      have hsz := (tab_size c4c c4d)
                      have HZ := Aside0.mk hsz
                      clear hsz
                      go_wp2_with (fail)
                      refine (WriteString_k w.heap.size gb (Lib.byteCells out3) (nmL (rd_T43 ns i).f0) _ HI.out.bld (by rw [Lib.byteCells_length]; have := HZ.out; omega) HI.out.bel.size).mono ?_
                      rintro e w10 ⟨rfl, hb10, hbel10, ho10⟩
                      have n0_ := Aside0.mk (HI.out.wrote hb10 hbel10 ho10 (cells_str out3 (nmL (rd_T43 ns i).f0)))
                      have n1_ := Aside0.mk (oth_blk ho10 BX.out (by decide) (ne_bld HI.out.bld BX.out (by decide)))
                      clear HI BX hb10 hbel10 ho10 hxt z0
                      have HI := n0_
                      have BX := n1_
                      clear n0_ n1_
                      have z3 : w10.cell? ⟨g6, 3, none⟩ = some (.int .i64 (rd_T43 ns i).f3) := (blk_cell BX.out 3).trans rfl
                      by_cases c9 : (rd_T43 ns i).f3 > 1
                      · rw [if_pos c9] at H
                        have c9b : decide (1 < (rd_T43 ns i).f3) = true := decide_eq_true c9
                        have H' := Aside0.mk H
                        clear H c9
                        go_wp2_with (fail)
                        refine (WriteByte_k w.heap.size gb (Lib.byteCells (out3 ++ (nmL (rd_T43 ns i).f0).data.toList)) 40 _ HI.out.bld (by rw [Lib.byteCells_length]; simp only [List.length_append, List.length_singleton, Array.length_toList]; have := HZ.out; (have e_ : (nmL (rd_T43 ns i).f0).data.size = (nmL (rd_T43 ns i).f0).size := rfl); omega) HI.out.bel.size).mono ?_
                        rintro e w11 ⟨rfl, hb11, hbel11, ho11⟩
                        have n0_ := Aside0.mk (HI.out.wrote hb11 hbel11 ho11 (cells_snoc (out3 ++ (nmL (rd_T43 ns i).f0).data.toList) 40))
                        have n1_ := Aside0.mk (oth_blk ho11 BX.out (by decide) (ne_bld HI.out.bld BX.out (by decide)))
                        clear HI BX hb11 hbel11 ho11 z3
                        have HI := n0_
                        have BX := n1_
                        clear n0_ n1_
                        have z3 : w11.cell? ⟨g6, 3, none⟩ = some (.int .i64 (rd_T43 ns i).f3) := (blk_cell BX.out 3).trans rfl
                        go_wp2_with (first
                          | ((with_reducible refine gate_builtin (b := .append) (xs := #[.tmp 59, .tmp 64]) rfl ?_); at_builtin; refine Kd.R_append (Kd.int .i64) (w0 := w) w.heap.size rfl (.tmp 59) (.tmp 64) 55 3 (.int .i64 0) 8 rfl Tryd.underlying55 info3 rfl (by decide) (by omega) (.slice Aq o3.length cq) o3 (wrap64 (i + (rd_T43 ns i).f3)) [.int .i64 (wrap64 (i + (rd_T43 ns i).f3))] (fun _ => True) (fun _ => False) rfl (by first | (go_simp; done) | (go_simp; rfl)) ?aP (fun _ hk => hk.elim) ?aF ?aO ?aB ?aS ?aL ?_; (case aP => exact rfl); (case aF => exact fun _ _ => trivial); (case aO => exact HI.out.opn); (case aB => exact HI.out.bel); (case aS => exact HI.out.bel.size); (case aL => have := c4b; omega); intro v12 w12 ho12 hb12 hg12 hat12; have n0_ := Aside0.mk (show SkI ns (some ad) c w w12 gt gb v12 (out3 ++ (nmL (rd_T43 ns i).f0).data.toList ++ [40]) (o3 ++ [wrap64 (i + (rd_T43 ns i).f3)]) from ⟨blk_grown HI.out.box hg12 (Kd.R_ne HI.out.opn HI.out.box (by decide)), (BKeep.grown hg12 HI.out.opn (by decide) (row_bld HI.out.bld HI.out.opn)).bld HI.out.bld, ho12, hb12⟩); clear HI BX z3 ho12 hb12 hg12 hat12; have HI := n0_; clear n0_)
                          | fail)
                        go_roundg k4
                        case measure => have := HK1.out; have := HK3.out; omega
                        case rel => exact ⟨out3 ++ (nmL (rd_T43 ns i).f0).data.toList ++ [40], o3 ++ [wrap64 (i + (rd_T43 ns i).f3)], wrap64 (i + 1), by first | rfl | (simp; done) | (simp [*]; done), H', ⟨by have := HK1.out; have := HK3.out; omega⟩, HI⟩
                      · rw [if_neg c9] at H
                        have c9b : decide (1 < (rd_T43 ns i).f3) = false := decide_eq_false c9
                        have H' := Aside0.mk H
                        clear H c9
                        go_wp2
                        go_roundg k4
                        case measure => have := HK1.out; have := HK3.out; omega
                        case rel => exact ⟨out3 ++ (nmL (rd_T43 ns i).f0).data.toList, o3, wrap64 (i + 1), by first | rfl | (simp; done) | (simp [*]; done), H', ⟨by have := HK1.out; have := HK3.out; omega⟩, HI⟩
                · rw [if_neg c4] at H
                  cases H
          · rw [if_neg c3] at H
            cases H
        · rw [if_neg c2] at H
          have c2b0 : decide (i < (ns.length : Int)) = false := decide_eq_false c2
          clear c2
          have H' := Aside0.mk H
          clear H
          go_wp2
          go_loopg [69] k1 (fun kq v69 w' => ∃ (out5 : List UInt8) (j : Int), v69 = .int .i64 j ∧ Aside0 (tree_Sketch.l2 kq out5 o j = some l) ∧ Aside0 (kq ≤ k1) ∧ Aside0 (SkI ns A c w w' gt gb (.slice Ao o.length co) out5 o))
          case atStart => exact ⟨out, 0, rfl, H', ⟨Nat.le_refl _⟩, HI⟩
          case round =>
            clear H' HI
            obtain ⟨out5, j, rfl, HA, HK5, HI⟩ := hrel
            cases gk with
            | zero => exact absurd HA.out (by simp [tree_Sketch.l2])
            | succ k5 =>
              have H := HA.out
              clear HA
              simp only [tree_Sketch.l2] at H
              by_cases c11 : j < (o.length : Int)
              · rw [if_pos c11] at H
                have c11b : decide (j < (o.length : Int)) = true := decide_eq_true c11
                clear c11
                by_cases c12 : out5.length < 140737488355328
                · rw [if_pos c12] at H
                  have H' := Aside0.mk H
                  clear H
                  go_wp2_with (fail)
                  refine (WriteByte_k w.heap.size gb (Lib.byteCells out5) 41 _ HI.out.bld (by rw [Lib.byteCells_length]; omega) HI.out.bel.size).mono ?_
                  rintro e w21 ⟨rfl, hb21, hbel21, ho21⟩
                  have n0_ := Aside0.mk (HI.out.wrote hb21 hbel21 ho21 (cells_snoc out5 41))
                  clear HI hb21 hbel21 ho21
                  have HI := n0_
                  clear n0_
                  go_wp2
                  go_roundg k5
                  case measure => have := HK5.out; omega
                  case rel => exact ⟨out5 ++ [41], wrap64 (j + 1), by first | rfl | (simp; done) | (simp [*]; done), H', ⟨by have := HK5.out; omega⟩, HI⟩
                · rw [if_neg c12] at H
                  cases H
              · rw [if_neg c11] at H
                have c11b : decide (j < (o.length : Int)) = false := decide_eq_false c11
                clear c11
                obtain rfl := Option.some.inj H
                clear H
                go_wp2_with (fail)
                refine (Tryd.Builder_String_any_k w.heap.size gb out5 _ HI.out.bld HI.out.bel.size).mono ?_
                rintro e w22 ⟨rfl, _, hbel22, _⟩
                have n0_ := Aside0.mk (HI.out.bel.trans hbel22)
                clear HI hbel22
                go_wp2
                go_ret
                exact ⟨rfl, n0_.out⟩
end Go.Proofs.YtodldpdnhcafpaaDoor.F

-- Plain walks of regions serve in a round of a loop over an iterator (the wide fence): operation for operation.
namespace Go.Proofs.YtodldpdnhcafpaaDoor.K
open Go.RowKit Go.Proofs.YtodldpdnhcafpaaDoorW.PrintWords Go.Proofs.YtodldpdnhcafpaaDoorW.PrintLast Go.Proofs.YtodldpdnhcafpaaDoorW.PrintMore

def noDefer (o : Oper) : Bool := match o.op with | .defer _ => false | _ => true

section
variable {P : Program} {ops : Array Oper} {Q : Exit → Act → World → Prop} {n lp : Nat}

theorem rows_bridge {row : String} {args : Array Value} {w : World} {R : Value → World → Prop} (h : Rows P row args w R) : RowsIn (Fence.wide.inRound lp) n P row args w R :=
  fun c cs _ => let ⟨v, w', r, s⟩ := h c cs; ⟨v, w', r, by rw [fenced_inRound]; exact stepsIn_wide.2 s⟩

/-- No way out by growing. -/
def noOut (Q : Exit → Act → World → Prop) : Exit → Act → World → Prop
  | .outgrown, _, _ => False
  | e, a, w => Q e a w
theorem noOut_normal {a : Act} {w : World} : noOut Q .normal a w = Q .normal a w := rfl
theorem noOut_lets : ¬ LetsOut (noOut Q) := fun ⟨_, _, h⟩ => h

theorem oper_bridge {o : Oper} (hd : noDefer o = true) {a : Act} {w : World} {K : Act → World → Prop} (h : o.wp P a w K (noOut Q)) : o.wpIn (Fence.wide.inRound lp) n P a w K Q := by
  refine ⟨fun _ _ => trivial, ?_⟩
  have he : o.semAt (Fence.wide.inRound lp).round a.eval = execOp a.eval o :=
    Oper.semAt_some lp a.eval o (by intro c hc; simp [noDefer, hc] at hd)
  rw [he]
  unfold Oper.wp at h
  have hdep : (Fence.wide.inRound lp).depth.isSome = true → 1 ≤ n := fun h => by simp [Fence.wide] at h
  generalize (execOp a.eval o).run P w = r at *
  cases r with
  | ok x w' =>
    cases x <;> simp only [Oper.upon, Oper.uponIn] at h ⊢ <;>
      first
        | exact h
        | exact ⟨hdep, CallsIn.inRound _ (callsIn_wide.2 (Calls.mono h (fun e w' he => by cases e <;> first | exact he | exact absurd he noOut_lets)))⟩
        | exact ⟨hdep, rows_bridge h⟩
  | halt x w' => cases x <;> simp only [Oper.upon, Oper.uponIn] at h ⊢ <;> exact h

theorem op_bridge (hd : ∀ o ∈ ops, noDefer o = true) {i : Nat} {K : Act → World → Prop} {a : Act} {w : World} (h : wpOp P ops (noOut Q) i K a w) : wpOpIn (Fence.wide.inRound lp) n P ops Q i K a w := by
  unfold wpOp at h
  unfold wpOpIn
  split at h
  · rename_i ho
    simp only [ho]
    exact h
  · rename_i o ho
    simp only [ho]
    split at h
    · rename_i hw
      rw [if_pos hw]
      rcases h with h | h
      · exact oper_bridge (hd o (Array.mem_of_getElem? ho)) h
      · exact absurd h.2 noOut_lets
    · rename_i hw
      rw [if_neg hw]
      exact ⟨fun _ _ => trivial, h⟩

theorem any_bridge {md : Region.Mode} (hd : ∀ o ∈ ops, noDefer o = true) : ∀ (fuel : Nat) (listed : Array Bool) (a : Act) (w : World), wpAny P md ops (noOut Q) fuel listed a w → wpAnyIn (Fence.wide.inRound lp) n P md ops Q fuel listed a w
  | 0, _, _, _, h => h
  | fuel + 1, _, _, _, h => ⟨h.1, fun i hi => wpOpIn_mono (fun a w => any_bridge hd fuel _ a w) (op_bridge hd (h.2 i hi))⟩

/-- A region that draws its order and only reads. -/
theorem quiet_in {id : Nat} {a : Act} {w : World} {l : List Oper} (hd : l.all noDefer = true) (hm : P.follows .mixedOrders = true) (hB : Region.lexB .any l.toArray = true)
    (h : wpQuiet P l.toArray (fun w' => ∃ n, w' = w.drewN n) (fun a' => ∀ w', (∃ n, w' = w.drewN n) → Q .normal a' w') l a) : (Code.region id l.toArray true).wpIn (Fence.wide.inRound lp) n P Q a w := by
  have hB' := hB
  simp only [Region.lexB, Bool.and_eq_true] at hB'
  refine wpIn_region_any hm (any_bridge (fun o ho => List.all_eq_true.1 hd o (by simpa using ho)) _ _ _ _ ?_)
  refine wpAny_of_quiet (C := fun w' => ∃ n, w' = w.drewN n) (Q := fun a' => ∀ w', (∃ n, w' = w.drewN n) → Q .normal a' w') (show ∀ (a' : Act) (w' : World), (∃ n, w' = w.drewN n) → (∀ w', (∃ n, w' = w.drewN n) → Q .normal a' w') → noOut Q .normal a' w' from fun _ w' hw' h => h w' hw') _ _ _ _ ⟨1, rfl⟩ ?_
  have := wpAnyQ_lex (C := fun w' => ∃ n, w' = w.drewN n) (md := .any) hB'.1 l 0 (Array.replicate l.toArray.size false) a (by simp) (by simpa using hB'.2) h
  simpa using this
end

/-- A loop's code by a name; what is asked behind by a name. -/
theorem name_loop {P : Program} {c : Code} {Q : Exit → Act → World → Prop} {a : Act} {w : World} (h : ∀ L, c = L → (Code.loop L).wp P Q a w) : (Code.loop c).wp P Q a w := h c rfl
theorem name_post {P : Program} {c : Code} {Q : Exit → Act → World → Prop} {a : Act} {w : World} (h : ∀ Q', Q = Q' → c.wp P Q' a w) : c.wp P Q a w := h Q rfl

/-- What lies in blocks of cells abides the turn of a block that is none. -/
theorem R_own {α : Type} {d : Kd α} {e : Nat} {A B : World} {base : Nat} {ok : Nat → Prop} {v : Value} {xs : List α} {row : Option Nat} (h : d.R e A base ok v xs) (hg : A.grownBy B row)
    (hr : ∀ r, row = some r → ∃ o : Obj, A.heap[r]? = some o ∧ o.isCells = false) : d.R e B base ok v xs :=
  Kd.R_mono (Kd.R_step (Kd.R_bound h) (fun k ⟨_, _, hlt, q, _, cells, hk⟩ hlt' => hg.block k hlt' (fun e' => by
    obtain ⟨_, ho, hc⟩ := hr k e'.symm
    rw [hk] at ho
    cases ho
    cases hc))) (fun _ hk => hk.1)
theorem blk_own {A B : World} {row : Option Nat} {b t : Nat} {cs : Array Value} {d : Nat × Nat} (h : A.heap[b]? = some (.cells cs t d)) (hg : A.grownBy B row)
    (hr : ∀ r, row = some r → ∃ o : Obj, A.heap[r]? = some o ∧ o.isCells = false) : B.heap[b]? = some (.cells cs t d) :=
  (hg.block b (Array.getElem?_eq_some_iff.1 h).1 (fun e' => by
    obtain ⟨_, ho, hc⟩ := hr b e'.symm
    rw [h] at ho
    cases ho
    cases hc)).trans h
/-- What keeps all that lay keeps whatever is no cells. -/
theorem keeps_below {A B : World} (h : Below A.heap.size A B) (b : Nat) : KeepsFrom b A B :=
  ⟨h.size, fun k _ _ hk _ => (h.block k (Array.getElem?_eq_some_iff.1 hk).1).trans hk⟩

/-- A region that draws its order, by the steps of the plain walk. -/
theorem start_in {P : Program} {ops : Array Oper} {Q : Exit → Act → World → Prop} {S : World → Prop} {ds : List Nat} {lp m id n : Nat} {a : Act} {w : World} (hd : ops.toList.all noDefer = true) (l : Array Bool) (hm : P.follows .mixedOrders = true) (hn : ops.size = n) (hl : Array.replicate n false = l) (hS : S w.drew)
    (h : S w.drew → wpAnyLast P .any ops (noOut Q) S ds n l a w.drew) : (Code.region id ops true).wpIn (Fence.wide.inRound lp) m P Q a w := by
  subst hn
  subst hl
  exact wpIn_region_any hm (any_bridge (fun o ho => List.all_eq_true.1 hd o (by simpa using ho)) _ _ _ _ (wpAny_of_last _ _ _ _ (h hS)))

/-- The law of a loop over an iterator of one variable, at the wide fence, between plain walks. -/
theorem rf1 {P : Program} {α : Type} {g : Operand} {p s : Tmp} {assign body : Code} {Q : Exit → Act → World → Prop} {a : Act} {w : World} {gf : Nat} {lb : Array Value}
    (hg : a.eval g = .func (.func gf) #[] lb) (eg : ∀ args w, (callFunc gf args).run P w = .ok (.enter gf args) w)
    {enc : α → Value} {Kp : World → World → Prop} {S Sp : List α → Prop} {N : Nat} (hseq : SeqStopsK Fence.wide 2 P gf lb (fun x => #[enc x]) Kp S Sp N w)
    (hKt : ∀ {A B C : World}, Kp A B → Kp B C → Kp A C) (hKb : ∀ (W : World) (l : Nat) (o o' : Obj), w.heap.size ≤ l → W.heap[l]? = some o → o.isCells = false → o.isWalk = false → Kp W (W.putObj l o'))
    (I : List α → World → Prop) (Ix : Code → List α → World → Prop) (hI : OwnFrom w.heap.size I) (hIx : ∀ c, OwnFrom w.heap.size (Ix c)) (h0 : I [] w)
    (hassign : ∀ (l : Nat) (x : α) (W : World) (K : Act → World → Prop), K { tmps := (a.tmps.setIfInBounds p (enc x)).setIfInBounds s (enc x), defers := [] } W →
      assign.wpIn (Fence.wide.inRound l) 1 P (Exit.then K (fun _ _ _ => False)) { tmps := a.tmps.setIfInBounds p (enc x), defers := [] } W)
    (hbody : ∀ (l : Nat) (pre : List α) (x : α) (W : World), I pre W → pre.length < N → body.wpIn (Fence.wide.inRound l) 1 P (ownPostG w.heap.size Kp I Ix (pre ++ [x]) W) { tmps := (a.tmps.setIfInBounds p (enc x)).setIfInBounds s (enc x), defers := [] } W)
    (hdone : ∀ (D : Nat) (xs : List α) (W : World), w.heap.size ≤ D → S xs → I xs W → W.heap[D]? = some (.deferred (some [])) → Q .normal { a with defers := { target := .collected D, args := #[] } :: a.defers } W)
    (hstop : ∀ (D : Nat) (c : Code) (pre : List α) (W : World), w.heap.size ≤ D → Sp pre → Ix c pre W → W.heap[D]? = some (.deferred (some [])) → c.wp P Q { a with defers := { target := .collected D, args := #[] } :: a.defers } W) :
    (Code.rangeFunc g #[p] assign body).wp P Q a w :=
  (wpIn_wide (n := 3)).1 (wpIn_rangeFunc_ownG (F := Fence.wide) (n := 3) rfl (by omega) hg trivial eg hseq (fun h k => hKt h k) hKb (Below.refl _ _) (fun _ => rfl) I Ix hI hIx h0 _ (fun l x W K hK => by simpa using hassign l x W K hK) hbody hdone
    (fun D c pre W a b c' d => wpIn_wide.2 (hstop D c pre W a b c' d)))

/-- All that lay lies as it lay, but for one box. -/
def KeepB (W0 : World) (g : Nat) (W : World) : Prop := W0.heap.size ≤ W.heap.size ∧ ∀ k, k < W0.heap.size → k ≠ g → W.heap[k]? = W0.heap[k]?
theorem KeepB.refl (W0 : World) (g : Nat) : KeepB W0 g W0 := ⟨Nat.le_refl _, fun _ _ _ => rfl⟩
theorem KeepB.blk {W0 W : World} {g b : Nat} {o : Obj} (h : KeepB W0 g W) (hb : W0.heap[b]? = some o) (hne : b ≠ g) : W.heap[b]? = some o := (h.2 b (blk_lt hb) hne).trans hb
theorem KeepB.R {α : Type} {d : Kd α} {e base g : Nat} {v : Value} {xs : List α} {W0 W : World} (h : KeepB W0 g W) (hR : d.R e W0 base (fun k => k ≠ g) v xs) : d.R e W base (fun k => k ≠ g) v xs :=
  Kd.R_step hR (fun k hk hlt => h.2 k hlt hk)
theorem KeepB.trans {W0 W W' : World} {g : Nat} (h : KeepB W0 g W) (h' : W.heap.size ≤ W'.heap.size) (hk : ∀ k, k < W0.heap.size → k ≠ g → W'.heap[k]? = W.heap[k]?) : KeepB W0 g W' :=
  ⟨Nat.le_trans h.1 h', fun k h1 h2 => (hk k h1 h2).trans (h.2 k h1 h2)⟩
theorem keepB_own {s : Type} (W0 : World) (g : Nat) : OwnFrom W0.heap.size (fun (_ : s) W => KeepB W0 g W) :=
  fun _ A B row h hg hr => h.trans hg.size (fun k hk _ => hg.block k (Nat.lt_of_lt_of_le hk h.1) (fun e => by have := (hr k e.symm).1; omega))
/-- A box that holds a row which has grown since. -/
def BoxR {α : Type} (d : Kd α) (t e : Nat) (g base b0 : Nat) (xs : List α) (W : World) : Prop := ∃ v, W.heap[g]? = some (.cells #[v] t (0, 0)) ∧ d.R e W base (fun k => b0 ≤ k) v xs
theorem boxR_own {α s : Type} {d : Kd α} {t e g base b0 B : Nat} (f : s → List α) : OwnFrom B (fun x W => BoxR d t e g base b0 (f x) W) :=
  fun _ _ _ _ ⟨v, hb, hR⟩ hg hr => ⟨v, blk_own hb hg (fun r e => (hr r e).2), R_own hR hg (fun r e => (hr r e).2)⟩
end Go.Proofs.YtodldpdnhcafpaaDoor.K

-- tokens (53, 62): the iterator's contract
namespace Go.Proofs.YtodldpdnhcafpaaDoor.K
open Go.RowKit Go.Shelf Go.Proofs.YtodldpdnhcafpaaDoorW.PrintWords Go.Proofs.YtodldpdnhcafpaaDoorW.PrintLast Go.Proofs.YtodldpdnhcafpaaDoorW.PrintMore
open Go.Proofs.YtodldpdnhcafpaaDoor.F
attribute [local go_sem] Oper.semAt_some max2_int min2_int max_two min_two
set_option linter.unusedVariables false
set_option linter.unusedSimpArgs false

/-- No blanks, no note. -/
def tokB (l : List S68) (i : Int) : Bool := !decide ((rd_T68 l i).f0 = 0) && !decide ((rd_T68 l i).f0 = 1)
/-- The tokens from a up to b. -/
def tokR (l : List S68) (a b : Int) : List Int := ((List.range (b - a).toNat).map (fun j : Nat => a + (j : Int))).filter (tokB l)
theorem tokR_nil (l : List S68) {a b : Int} (h : b ≤ a) : tokR l a b = [] := by
  have e : (b - a).toNat = 0 := by omega
  unfold tokR
  rw [e]
  rfl
theorem tokR_succ (l : List S68) {a b : Int} (h : a ≤ b) : tokR l a (b + 1) = tokR l a b ++ (if tokB l b = true then [b] else []) := by
  have e : (b + 1 - a).toNat = (b - a).toNat + 1 := by omega
  have e2 : a + (((b - a).toNat : Nat) : Int) = b := by omega
  unfold tokR
  rw [e, List.range_succ, List.map_append, List.filter_append, List.map_singleton, e2, List.filter_cons, List.filter_nil]
theorem tokR_len (l : List S68) (a b : Int) : (tokR l a b).length ≤ (b - a).toNat := by
  unfold tokR
  refine Nat.le_trans (List.length_filter_le _ _) ?_
  simp
theorem tokR_prefix (l : List S68) {a b b' : Int} (h : b ≤ b') : tokR l a b <+: tokR l a b' := by
  unfold tokR
  refine List.IsPrefix.filter _ (List.IsPrefix.map _ ?_)
  have e : (b' - a).toNat = (b - a).toNat + ((b' - a).toNat - (b - a).toNat) := by omega
  rw [e, List.range_add]
  exact List.prefix_append _ _
/-- A token's number. -/
abbrev Tk (l : List S68) := { x : Int // 0 ≤ x ∧ x < (l.length : Int) ∧ tokB l x = true }

def valsT {l : List S68} (xs : List (Tk l)) : List Int := xs.map (·.1)
/-- What a round keeps: what lay ahead of the call, the two boxes. -/
def KpT (n₀ b1 b2 : Nat) (W W' : World) : Prop := Below n₀ W W' ∧ W'.heap[b1]? = W.heap[b1]? ∧ W'.heap[b2]? = W.heap[b2]?
theorem KpT.trans {n₀ b1 b2 : Nat} {A B C : World} (h : KpT n₀ b1 b2 A B) (k : KpT n₀ b1 b2 B C) : KpT n₀ b1 b2 A C := ⟨h.1.trans k.1, k.2.1.trans h.2.1, k.2.2.trans h.2.2⟩
theorem KpT.refl (n₀ b1 b2 : Nat) (A : World) : KpT n₀ b1 b2 A A := ⟨Below.refl _ _, rfl, rfl⟩

theorem KpT_b {n₀ B b1 b2 : Nat} (hn : n₀ ≤ B) (h1 : b1 < B) (h2 : b2 < B) (W : World) (l : Nat) (o o' : Obj) (hl : B ≤ l) (ho : W.heap[l]? = some o) (hc : o.isCells = false) (hw : o.isWalk = false) : KpT n₀ b1 b2 W (W.putObj l o') :=
  ⟨(Below.refl n₀ W).grown (grownBy_putObj' W l o') (by have := (Array.getElem?_eq_some_iff.1 ho).1; omega) (fun k e => by cases e; omega), World.putObj_heap_other (by omega), World.putObj_heap_other (by omega)⟩

set_option maxRecDepth 100000 in
set_option maxHeartbeats 2000000 in
theorem tokens1_in (n : Nat) (hn : 1 ≤ n) (lp b1 b2 : Nat) (w0 : World) (A : Option Addr) (c : Nat) (l : List S68) (x0 x1 x2 x3 : Int) (hl : l.length < 4611686018427387904) (hc : Kd.C k68 w0 A l.length l) (J Jx : List (Tk l) → World → Prop)
    (hY : ∀ pre (x : Tk l) W, J pre W → pre.length < l.length → YieldAt Fence.wide (n - 1) Tryd.prog lp #[.int .i64 x.1] W fun e W' =>
      (e = .returned (.bool true) ∧ J (pre ++ [x]) W' ∧ KpT w0.heap.size b1 b2 W W') ∨ (e = .returned (.bool false) ∧ Jx (pre ++ [x]) W'))
    (W : World) (hW : Below w0.heap.size w0 W) (h1 : W.heap[b1]? = some (.cells #[.int .u8 x0, .int .i64 x1, .int .i64 x2, .int .i64 x3] 43 (0, 0))) (h2 : W.heap[b2]? = some (.cells #[.slice A l.length c] 32 (0, 0))) (h0 : J [] W) :
    CallsIn Fence.wide n Tryd.prog 59 #[.func (.yield lp) #[] #[], .pointer (some ⟨b1, 0, none⟩), .pointer (some ⟨b2, 0, none⟩)] W fun e W' => (∃ v, e = .returned v) ∧
      ((∃ ys : List (Tk l), valsT ys = tokR l (mx x1 0) (mn x2 (l.length : Int)) ∧ J ys W') ∨ (∃ pre : List (Tk l), valsT pre <+: tokR l (mx x1 0) (mn x2 (l.length : Int)) ∧ Jx pre W')) := by
  have hu32 := Tryd.underlying32
  have hu43 := Tryd.underlying43
  have hu68 := Tryd.underlying68
  have hlo : 0 ≤ mx x1 0 := by unfold mx; split <;> omega
  have hhi : mn x2 (l.length : Int) ≤ (l.length : Int) := by unfold mn; split <;> omega
  obtain ⟨lo, elo⟩ : ∃ lo, mx x1 0 = lo := ⟨_, rfl⟩
  obtain ⟨hi, ehi⟩ : ∃ hi, mn x2 (l.length : Int) = hi := ⟨_, rfl⟩
  rw [elo] at hlo ⊢
  rw [ehi] at hhi ⊢
  have elo' : (if x1 < 0 then 0 else x1) = lo := elo
  have hcx : W.cell? ⟨b1, 1, none⟩ = some (.int .i64 x1) := (blk_cell h1 1).trans rfl
  have hcx2 : W.cell? ⟨b1, 2, none⟩ = some (.int .i64 x2) := (blk_cell h1 2).trans rfl
  have hcl : W.cell? ⟨b2, 0, none⟩ = some (.slice A l.length c) := (blk_cell h2 0).trans rfl
  refine callsIn_of_wp Tryd.func59 rfl trivial ?_ rfl
  simp only [Tryd.ntmps59, List.size_toArray, List.length_cons, List.length_nil, Nat.reduceAdd, Nat.reduceSub, Array.replicate_succ, Array.replicate_zero, List.push_toArray, List.append_toArray, List.nil_append, List.cons_append]
  gi_wp2
  gi_loopw [4] (fun i wr => ∃ (z : Int) (pre : List (Tk l)), i = .int .i64 z ∧ lo ≤ z ∧ (z = lo ∨ z ≤ hi) ∧ valsT pre = tokR l lo z ∧ J pre wr ∧ KpT w0.heap.size b1 b2 W wr) (fun i _ => (hi - intOf i).toNat)
  case atStart =>
    exact ⟨lo, [], rfl, Int.le_refl _, .inl rfl, by rw [tokR_nil l (Int.le_refl _)]; rfl, h0, KpT.refl _ _ _ _⟩
  case round =>
    obtain ⟨z, pre, rfl, hz, hzh, hpre, hJs, hk⟩ := hrel
    have c1 : wr.cell? ⟨b1, 2, none⟩ = some (.int .i64 x2) := (blk_cell (hk.2.1.trans h1) 2).trans rfl
    have c2 : wr.cell? ⟨b2, 0, none⟩ = some (.slice A l.length c) := (blk_cell (hk.2.2.trans h2) 0).trans rfl
    have ehi' : (if (l.length : Int) < x2 then (l.length : Int) else x2) = hi := ehi
    by_cases hlt : z < hi
    · have hz0 : 0 ≤ z := by omega
      have hzl : z < (l.length : Int) := by omega
      obtain ⟨ad, rfl, ca, _, _⟩ := at_T68 (Kd.C_below hc (hW.trans hk.1)) z hz0 hzl
      by_cases g0 : (rd_T68 l z).f0 = 0
      · have b0 : ((rd_T68 l z).f0 != 0) = false := by simp [g0]
        have ht : tokB l z = false := by simp [tokB, g0]
        clear g0
        gi_wp2
        refine ⟨fun _ h => (by cases h), ?_⟩
        gi_wp2
        go_roundw
        case rel => exact ⟨z + 1, pre, rfl, by omega, .inr (by omega), by rw [hpre, tokR_succ l hz, if_neg (by rw [ht]; simp), List.append_nil], hJs, hk⟩
        case measure => simp only [intOf]; omega
      · have b0 : ((rd_T68 l z).f0 != 0) = true := by simp [g0]
        by_cases g1 : (rd_T68 l z).f0 = 1
        · have bb1 : ((rd_T68 l z).f0 != 1) = false := by simp [g1]
          have ht : tokB l z = false := by simp [tokB, g1]
          gi_wp2
          refine ⟨fun _ h => (by cases h), ?_⟩
          gi_wp2
          go_roundw
          case rel => exact ⟨z + 1, pre, rfl, by omega, .inr (by omega), by rw [hpre, tokR_succ l hz, if_neg (by rw [ht]; simp), List.append_nil], hJs, hk⟩
          case measure => simp only [intOf]; omega
        · have bb1 : ((rd_T68 l z).f0 != 1) = true := by simp [g1]
          have ht : tokB l z = true := by simp [tokB, g0, g1]
          have hpl : pre.length < l.length := by
            have e1 : (valsT pre).length = pre.length := by simp [valsT]
            have := tokR_len l lo z
            rw [← hpre, e1] at this
            omega
          obtain ⟨fn, tmps, assign, body, hy, hR⟩ := hY pre ⟨z, hz0, hzl, ht⟩ wr hJs hpl
          dsimp only at hy
          gi_wp2
          refine hR.mono ?_
          rintro e W3 (⟨rfl, hJ3, hk3⟩ | ⟨rfl, hJx3⟩)
          · gi_wp2
            go_roundw
            case rel => exact ⟨z + 1, pre ++ [⟨z, hz0, hzl, ht⟩], rfl, by omega, .inr (by omega), by rw [tokR_succ l hz, if_pos ht, ← hpre]; simp [valsT], hJ3, hk.trans hk3⟩
            case measure => simp only [intOf]; omega
          · gi_wp2
            refine bodyPost_ret (results_none rfl _ _ _) rfl ?_
            refine ⟨⟨_, rfl⟩, .inr ⟨_, ?_, hJx3⟩⟩
            have e1 : valsT (pre ++ [⟨z, hz0, hzl, ht⟩]) = tokR l lo (z + 1) := by rw [tokR_succ l hz, if_pos ht, ← hpre]; simp [valsT]
            rw [e1]
            exact tokR_prefix l (by omega)
    · gi_wp2
      go_end0
      refine ⟨⟨_, rfl⟩, .inl ⟨pre, ?_, hJs⟩⟩
      rcases hzh with rfl | hzh
      · rw [hpre, tokR_nil l (Int.le_refl _), tokR_nil l (by omega)]
      · rw [hpre, show z = hi by omega]

theorem tokens_stops (n : Nat) (hn : 1 ≤ n) (b1 b2 : Nat) (w0 w : World) (A : Option Addr) (c : Nat) (l : List S68) (x0 x1 x2 x3 : Int) (hl : l.length < 4611686018427387904) (hc : Kd.C k68 w0 A l.length l)
    (hW : Below w0.heap.size w0 w) (h1 : w.heap[b1]? = some (.cells #[.int .u8 x0, .int .i64 x1, .int .i64 x2, .int .i64 x3] 43 (0, 0))) (h2 : w.heap[b2]? = some (.cells #[.slice A l.length c] 32 (0, 0))) :
    SeqStopsK Fence.wide n Tryd.prog 59 #[.pointer (some ⟨b1, 0, none⟩), .pointer (some ⟨b2, 0, none⟩)] (fun x : Tk l => #[.int .i64 x.1]) (KpT w0.heap.size b1 b2) (fun ys => valsT ys = tokR l (mx x1 0) (mn x2 (l.length : Int))) (fun pre => valsT pre <+: tokR l (mx x1 0) (mn x2 (l.length : Int))) l.length w :=
  fun lp J Jx W hb _ _ hY h0 => tokens1_in n hn lp b1 b2 w0 A c l x0 x1 x2 x3 hl hc J Jx hY W (hW.trans (hb.mono hW.size)) (blk_below h1 hb) (blk_below h2 hb) h0

theorem tokens.calls (A : Option Addr) (m c : Nat) (x0 x1 x2 x3 : Int) (w : World) :
    Calls Tryd.prog 44 #[.slice A m c, .agg #[.int .u8 x0, .int .i64 x1, .int .i64 x2, .int .i64 x3]] w fun e w' => ∃ b1 b2, e = .returned (.func (.func 59) #[] #[.pointer (some ⟨b1, 0, none⟩), .pointer (some ⟨b2, 0, none⟩)]) ∧
      w'.heap[b1]? = some (.cells #[.int .u8 x0, .int .i64 x1, .int .i64 x2, .int .i64 x3] 43 (0, 0)) ∧ w'.heap[b2]? = some (.cells #[.slice A m c] 32 (0, 0)) ∧ w.heap.size ≤ b1 ∧ w.heap.size ≤ b2 ∧ Below w.heap.size w w' := by
  have hu32 := Tryd.underlying32
  have hu43 := Tryd.underlying43
  have HB := Aside0.mk (Below.refl w.heap.size w)
  go_enter Tryd.func44, Tryd.ntmps44
  go_wp2_with (first
    | ((with_reducible refine gate_dst (N := 2) rfl ?_); refine box_event ?hg2 (N := 2) ?hd2 (cs := #[.slice A m c]) (t := 32) ?hr2 ?_; (case hd2 => rfl); (case hg2 => rfl); (case hr2 => first | (go_simp; done) | (go_simp; rfl)); intro g2 hg w1 hbox hb; have n0_ := Aside0.mk (below_step HB.out hb); have n1_ := Aside0.mk hbox; have GE2 := Aside0.mk (show w.heap.size ≤ g2 by rw [hg]; exact Nat.le_refl _); clear HB; have HB := n0_; have BK2 := n1_; clear n0_ n1_ hb hbox hg)
    | ((with_reducible refine gate_dst (N := 3) rfl ?_); refine box_event ?hg3 (N := 3) ?hd3 (cs := #[.int .u8 x0, .int .i64 x1, .int .i64 x2, .int .i64 x3]) (t := 43) ?hr3 ?_; (case hd3 => rfl); (case hg3 => rfl); (case hr3 => first | (go_simp; done) | (go_simp; rfl)); intro g3 hg w2 hbox hb; have n0_ := Aside0.mk (below_step HB.out hb); have n1_ := Aside0.mk hbox; have n2_ := Aside0.mk (blk_below BK2.out hb); have GE3 := Aside0.mk (show w.heap.size ≤ g3 by rw [hg]; exact HB.out.size); clear HB BK2; have HB := n0_; have BK3 := n1_; have BK2 := n2_; clear n0_ n1_ n2_ hb hbox hg))
  go_ret
  exact ⟨g3, g2, rfl, BK3.out, BK2.out, GE3.out, GE2.out, HB.out⟩
end Go.Proofs.YtodldpdnhcafpaaDoor.K

-- Same (33): its contract (made by wip/mkgsame.py)
namespace Go.Proofs.YtodldpdnhcafpaaDoor.F
open Go.RowKit Go.Shelf Go.Proofs.YtodldpdnhcafpaaDoorW.PrintWords Go.Proofs.YtodldpdnhcafpaaDoorW.PrintLast Go.Proofs.YtodldpdnhcafpaaDoorW.PrintMore
open Go.Proofs.YtodldpdnhcafpaaDoor.K
attribute [local go_sem] Oper.semAt_some
set_option linter.unusedVariables false
set_option linter.unusedSimpArgs false

/-- The kinds of a run's tokens. -/
def kindsR (l : List S68) (x : S43) : List Int := (tokR l (mx x.f1 0) (mn x.f2 (l.length : Int))).map (fun i => (rd_T68 l i).f0)
def nodeB (l : List S68) (x : S43) (m : List S68) (y : S43) : Bool := decide (x.f0 = y.f0) && (decide (x.f3 = y.f3) && decide (kindsR l x = kindsR m y))
def sameGo (l : List S68) (a : List S43) (m : List S68) (b : List S43) : Nat → Int → Bool
  | 0, _ => true
  | d + 1, n => nodeB l (rd_T43 a n) m (rd_T43 b n) && sameGo l a m b d (n + 1)
def sameB (l : List S68) (a : List S43) (m : List S68) (b : List S43) : Bool := decide (a.length = b.length) && sameGo l a m b a.length 0
def tree_Same.f (k : Nat) (l : List S68) (a : List S43) (m : List S68) (b : List S43) : Option Bool :=
  if l.length < 17592186044415 ∧ m.length < 17592186044415 ∧ a.length < 17592186044415 then some (sameB l a m b) else none
def mark (D : Nat) : Deferred := { target := .collected D, args := #[] }
/-- The way out of Same, whatever marks there are. -/
theorem same_out (w : World) (g8 : Nat) (b : Bool) (tmps : Array Value) (h8 : tmps[8]? = some (.pointer (some ⟨g8, 0, none⟩))) : ∀ (ds : List Nat) (W : World), (∀ D ∈ ds, w.heap.size ≤ D ∧ W.heap[D]? = some (.deferred (some []))) → ds.Nodup →
    W.heap[g8]? = some (.cells #[.bool b] 4 (0, 0)) → Below w.heap.size w W →
    LeavesInM Fence.wide 3 Tryd.prog Tryd.f15 tmps (fun e w' => e = .returned (.bool b) ∧ Below w.heap.size w w') (ds.map mark) .returning W
  | [], W, _, _, hb, hB => by
    refine ⟨.bool b, ?_, rfl, hB⟩
    have hc : W.cell? ⟨g8, 0, none⟩ = some (.bool b) := (blk_cell hb 0).trans rfl
    have hres : Tryd.f15.results = #[.cell 8 4] := rfl
    unfold results
    rw [hres]
    simp only [Array.mapM_eq_mapM_toList, List.mapM_cons, List.mapM_nil] <;> simp [h8] <;> go_simp
  | D :: ds, W, hd, hn, hb, hB => by
    obtain ⟨h1, h2⟩ := hd D List.mem_cons_self
    refine ⟨by simp, .inl ⟨D, _, rfl, run_takeDeferred h2, ?_⟩⟩
    have hne : g8 ≠ D := fun e => by rw [e, h2] at hb; cases hb
    refine same_out w g8 b tmps h8 ds _ (fun D' hD' => ?_) (List.nodup_cons.1 hn).2 ((World.putObj_heap_other hne).trans hb) (hB.grown (grownBy_putObj' W D _) hB.size (fun k e => by cases e; exact h1))
    obtain ⟨a1, a2⟩ := hd D' (List.mem_cons_of_mem _ hD')
    exact ⟨a1, (World.putObj_heap_other (fun e => by subst e; exact (List.nodup_cons.1 hn).1 hD')).trans a2⟩

theorem info66 : (Tryd.prog.info? 66).map (fun i => (i.zero, i.size, i.bytes)) = some (some (.int .u8 0), 1, 1) := by kernel_rfl
/-- A row in a box has been appended to and stored. -/
theorem appR_step {α : Type} {d : Kd α} {t e : Nat} {W w1 : World} {g base b0 : Nat} {v v1 : Value} {xs ys : List α}
    (hbox : W.heap[g]? = some (.cells #[v] t (0, 0))) (hg0 : g < b0) (hb0 : base ≤ b0) (hr : d.R e W base (fun k => b0 ≤ k) v xs) (hbase : base ≤ W.heap.size) (hge : base ≤ g) (ho : d.R e w1 base (fun k => b0 ≤ k) v1 ys) (hgr : W.grownBy w1 v.ownBlock) :
    (w1.setCell ⟨g, 0, none⟩ v1).heap[g]? = some (.cells #[v1] t (0, 0)) ∧ d.R e (w1.setCell ⟨g, 0, none⟩ v1) base (fun k => b0 ≤ k) v1 ys ∧
    (∀ k, k < b0 → k ≠ g → k < W.heap.size → (w1.setCell ⟨g, 0, none⟩ v1).heap[k]? = W.heap[k]?) ∧ (∀ B, KeepsFrom B W (w1.setCell ⟨g, 0, none⟩ v1)) ∧ Below base W (w1.setCell ⟨g, 0, none⟩ v1) := by
  have hne : ∀ k, k < b0 → some k ≠ v.ownBlock := fun k hk e => by
    have h : b0 ≤ k := hr.1 _ e.symm
    omega
  have h1 : w1.heap[g]? = some (.cells #[v] t (0, 0)) := blk_grown hbox hgr (hne g hg0)
  refine ⟨blk_put h1 0 _ rfl, Kd.R_far (p := ⟨g, 0, none⟩) ho (fun k hk => (by have : b0 ≤ k := hk; show k ≠ g; omega)) v1, fun k hk hkg hlt => ?_, fun B => ⟨by simpa using hgr.size, fun k o _ hk hc => ?_⟩, ?_⟩
  · exact (Below.heap_setCell w1 ⟨g, 0, none⟩ v1 k hkg).trans (hgr.block k hlt (hne k hk))
  · have hkg : k ≠ g := fun e => by rw [e, hbox] at hk; cases hk; cases hc
    refine (Below.heap_setCell w1 ⟨g, 0, none⟩ v1 k hkg).trans ((hgr.block k (blk_lt hk) (fun e => ?_)).trans hk)
    obtain ⟨_, _, _, q, _, cells, hcell⟩ := (Kd.R_bound hr).1 k e.symm
    rw [hcell] at hk
    cases hk
    cases hc
  · exact ((Below.refl base W).grown hgr hbase fun k e => by
      have h : b0 ≤ k := hr.1 _ e
      omega).setCell (p := ⟨g, 0, none⟩) hge v1
theorem marks_set {w W : World} {g8 : Nat} {ds : List Nat} {v : Value} {cs : Array Value} {t : Nat} {d : Nat × Nat} (hm : ∀ D ∈ ds, w.heap.size ≤ D ∧ W.heap[D]? = some (.deferred (some []))) (h8 : W.heap[g8]? = some (.cells cs t d)) :
    ∀ D ∈ ds, w.heap.size ≤ D ∧ (W.setCell ⟨g8, 0, none⟩ v).heap[D]? = some (.deferred (some [])) := fun D hD =>
  ⟨(hm D hD).1, (Below.heap_setCell W ⟨g8, 0, none⟩ v D (fun e => by have := (hm D hD).2; rw [e, h8] at this; cases this)).trans (hm D hD).2⟩
theorem marks_below {w W W' : World} {ds : List Nat} (hm : ∀ D ∈ ds, w.heap.size ≤ D ∧ W.heap[D]? = some (.deferred (some []))) (hb : Below W.heap.size W W') :
    ∀ D ∈ ds, w.heap.size ≤ D ∧ W'.heap[D]? = some (.deferred (some [])) := fun D hD => ⟨(hm D hD).1, blk_below (hm D hD).2 hb⟩

def tree_Same.T12 : Bool × List (List Nat × List Nat) := (true, [([], []), ([], []), ([], []), ([1, 2], [1, 2]), ([3], [3]), ([4], [4]), ([5], [5]), ([0, 6], [0, 6]), ([7, 7, 0, 1, 2, 3, 4, 5, 6, 7], [7])])
def tree_Same.B12 : List Nat := [0, 0, 0, 6, 14, 30, 62, 127, 255]
theorem tree_Same.tab12 : rtab .any (opsOf Tryd.f15 12) = tree_Same.T12 := by kernel_rfl
theorem tree_Same.bits12 : waitsOk tree_Same.T12.2 tree_Same.B12 = true := by kernel_rfl
set_option maxHeartbeats 4000000 in
set_option maxRecDepth 100000 in
theorem tree_Same.calls (k : Nat) (A0 : Option Addr) (c0 : Nat) (l0 : List S68) (A1_0 : Option Addr) (c1_0 : Nat) (l1_0 : List S43) (A2 : Option Addr) (c2 : Nat) (l2 : List S68) (A3_0 : Option Addr) (c3_0 : Nat) (l3_0 : List S43) (r : Bool) (w : World)
    (hr0 : Kd.C k68 w A0 l0.length l0) (hc0 : l0.length ≤ c0) (hr1_0 : Kd.C k43 w A1_0 l1_0.length l1_0) (hc1_0 : l1_0.length ≤ c1_0) (hr2 : Kd.C k68 w A2 l2.length l2) (hc2 : l2.length ≤ c2) (hr3_0 : Kd.C k43 w A3_0 l3_0.length l3_0) (hc3_0 : l3_0.length ≤ c3_0) (h : tree_Same.f k l0 l1_0 l2 l3_0 = some r) :
    Calls Tryd.prog 15 #[.slice A0 l0.length c0, .agg #[.slice A1_0 l1_0.length c1_0], .slice A2 l2.length c2, .agg #[.slice A3_0 l3_0.length c3_0]] w fun e w' => e = .returned (.bool r) ∧ Below w.heap.size w w' := by
  have hu4 := Tryd.underlying4
  have hu32 := Tryd.underlying32
  have hu22 := Tryd.underlying22
  have hu24 := Tryd.underlying24
  have hu43 := Tryd.underlying43
  have hu68 := Tryd.underlying68
  have hu90 := Tryd.underlying90
  have HR0 := Aside0.mk hr0
  have HR1 := Aside0.mk hr1_0
  have HR2 := Aside0.mk hr2
  have HR3 := Aside0.mk hr3_0
  have HB := Aside0.mk (Below.refl w.heap.size w)
  unfold tree_Same.f at h
  have hcond : l0.length < 17592186044415 ∧ l2.length < 17592186044415 ∧ l1_0.length < 17592186044415 := Classical.byContradiction fun hh => by rw [if_neg hh] at h; cases h
  rw [if_pos hcond] at h
  obtain ⟨hL0, hL2, hL1⟩ := hcond
  obtain rfl := Option.some.inj h
  have HL0 := Aside0.mk hL0
  have HL2 := Aside0.mk hL2
  have HL1 := Aside0.mk hL1
  clear h hL0 hL2 hL1 hr0 hr1_0 hr2 hr3_0 hc0 hc1_0 hc2 hc3_0
  refine (callsIn_wide (n := 3)).1 ?_
  refine callsIn_of_wp_marks Tryd.func15 rfl trivial ?_ rfl
  simp only [Tryd.ntmps15, List.size_toArray, List.length_cons, List.length_nil, Nat.reduceAdd, Nat.reduceSub, Array.replicate_succ, Array.replicate_zero, List.push_toArray, List.append_toArray, List.nil_append, List.cons_append]
  refine wpIn_wide.2 ?_
  go_upto_region 1 with (first
    | ((with_reducible refine gate_dst (N := 4) rfl ?_); refine box_event ?hgg4 (N := 4) ?hdg4 (cs := #[.slice A0 l0.length c0]) (t := 32) ?hrg4 ?_; (case hdg4 => rfl); (case hgg4 => rfl); (case hrg4 => first | (go_simp; done) | (go_simp; rfl)); intro g4 hg w1 hbox hb; have n0_ := Aside0.mk (below_step HB.out hb); have n1_ := Aside0.mk hbox; have GEg4 := Aside0.mk (show w.heap.size ≤ g4 by rw [hg]; exact HB.out.size); clear HB; have HB := n0_; have BKg4 := n1_; clear n0_ n1_ hb hbox hg)
    | ((with_reducible refine gate_dst (N := 5) rfl ?_); refine box_event ?hgg5 (N := 5) ?hdg5 (cs := #[.slice A1_0 l1_0.length c1_0]) (t := 24) ?hrg5 ?_; (case hdg5 => rfl); (case hgg5 => rfl); (case hrg5 => first | (go_simp; done) | (go_simp; rfl)); intro g5 hg w2 hbox hb; have NEg4g5 := Aside0.mk (show g4 ≠ g5 by rw [hg]; exact Nat.ne_of_lt (blk_lt BKg4.out)); have n0_ := Aside0.mk (below_step HB.out hb); have n1_ := Aside0.mk hbox; have n_BKg4 := Aside0.mk (blk_below BKg4.out hb); have GEg5 := Aside0.mk (show w.heap.size ≤ g5 by rw [hg]; exact HB.out.size); clear HB; have HB := n0_; have BKg5 := n1_; clear BKg4; have BKg4 := n_BKg4; clear n_BKg4; clear n0_ n1_ hb hbox hg)
    | ((with_reducible refine gate_dst (N := 6) rfl ?_); refine box_event ?hgg6 (N := 6) ?hdg6 (cs := #[.slice A2 l2.length c2]) (t := 32) ?hrg6 ?_; (case hdg6 => rfl); (case hgg6 => rfl); (case hrg6 => first | (go_simp; done) | (go_simp; rfl)); intro g6 hg w3 hbox hb; have NEg4g6 := Aside0.mk (show g4 ≠ g6 by rw [hg]; exact Nat.ne_of_lt (blk_lt BKg4.out)); have NEg5g6 := Aside0.mk (show g5 ≠ g6 by rw [hg]; exact Nat.ne_of_lt (blk_lt BKg5.out)); have n0_ := Aside0.mk (below_step HB.out hb); have n1_ := Aside0.mk hbox; have n_BKg4 := Aside0.mk (blk_below BKg4.out hb); have n_BKg5 := Aside0.mk (blk_below BKg5.out hb); have GEg6 := Aside0.mk (show w.heap.size ≤ g6 by rw [hg]; exact HB.out.size); clear HB; have HB := n0_; have BKg6 := n1_; clear BKg4; have BKg4 := n_BKg4; clear n_BKg4; clear BKg5; have BKg5 := n_BKg5; clear n_BKg5; clear n0_ n1_ hb hbox hg)
    | ((with_reducible refine gate_dst (N := 7) rfl ?_); refine box_event ?hgg7 (N := 7) ?hdg7 (cs := #[.slice A3_0 l3_0.length c3_0]) (t := 24) ?hrg7 ?_; (case hdg7 => rfl); (case hgg7 => rfl); (case hrg7 => first | (go_simp; done) | (go_simp; rfl)); intro g7 hg w4 hbox hb; have NEg4g7 := Aside0.mk (show g4 ≠ g7 by rw [hg]; exact Nat.ne_of_lt (blk_lt BKg4.out)); have NEg5g7 := Aside0.mk (show g5 ≠ g7 by rw [hg]; exact Nat.ne_of_lt (blk_lt BKg5.out)); have NEg6g7 := Aside0.mk (show g6 ≠ g7 by rw [hg]; exact Nat.ne_of_lt (blk_lt BKg6.out)); have n0_ := Aside0.mk (below_step HB.out hb); have n1_ := Aside0.mk hbox; have n_BKg4 := Aside0.mk (blk_below BKg4.out hb); have n_BKg5 := Aside0.mk (blk_below BKg5.out hb); have n_BKg6 := Aside0.mk (blk_below BKg6.out hb); have GEg7 := Aside0.mk (show w.heap.size ≤ g7 by rw [hg]; exact HB.out.size); clear HB; have HB := n0_; have BKg7 := n1_; clear BKg4; have BKg4 := n_BKg4; clear n_BKg4; clear BKg5; have BKg5 := n_BKg5; clear n_BKg5; clear BKg6; have BKg6 := n_BKg6; clear n_BKg6; clear n0_ n1_ hb hbox hg)
    | ((with_reducible refine gate_dst (N := 8) rfl ?_); refine box_event ?hgg8 (N := 8) ?hdg8 (cs := #[.bool false]) (t := 4) ?hrg8 ?_; (case hdg8 => rfl); (case hgg8 => rfl); (case hrg8 => first | (go_simp; done) | (go_simp; rfl)); intro g8 hg w5 hbox hb; have NEg4g8 := Aside0.mk (show g4 ≠ g8 by rw [hg]; exact Nat.ne_of_lt (blk_lt BKg4.out)); have NEg5g8 := Aside0.mk (show g5 ≠ g8 by rw [hg]; exact Nat.ne_of_lt (blk_lt BKg5.out)); have NEg6g8 := Aside0.mk (show g6 ≠ g8 by rw [hg]; exact Nat.ne_of_lt (blk_lt BKg6.out)); have NEg7g8 := Aside0.mk (show g7 ≠ g8 by rw [hg]; exact Nat.ne_of_lt (blk_lt BKg7.out)); have n0_ := Aside0.mk (below_step HB.out hb); have n1_ := Aside0.mk hbox; have n_BKg4 := Aside0.mk (blk_below BKg4.out hb); have n_BKg5 := Aside0.mk (blk_below BKg5.out hb); have n_BKg6 := Aside0.mk (blk_below BKg6.out hb); have n_BKg7 := Aside0.mk (blk_below BKg7.out hb); have GEg8 := Aside0.mk (show w.heap.size ≤ g8 by rw [hg]; exact HB.out.size); clear HB; have HB := n0_; have BKg8 := n1_; clear BKg4; have BKg4 := n_BKg4; clear n_BKg4; clear BKg5; have BKg5 := n_BKg5; clear n_BKg5; clear BKg6; have BKg6 := n_BKg6; clear n_BKg6; clear BKg7; have BKg7 := n_BKg7; clear n_BKg7; clear n0_ n1_ hb hbox hg))
  have q5 : w5.cell? ⟨g5, 0, none⟩ = some (.slice A1_0 l1_0.length c1_0) := (blk_cell BKg5.out 0).trans rfl
  have q7 : w5.cell? ⟨g7, 0, none⟩ = some (.slice A3_0 l3_0.length c3_0) := (blk_cell BKg7.out 0).trans rfl
  by_cases hlen : l1_0.length = l3_0.length
  · have hle : ((l1_0.length : Int) != (l3_0.length : Int)) = false := by rw [hlen]; simp
    have HLE := Aside0.mk hlen
    clear hlen
    go_wp2
    refine name_loop ?_
    intro Lcode hL
    refine name_post ?_
    intro Qpost hQ
    refine wp_loop_rounds (l1_0.length + 1) ?_
    have key : ∀ (d : Nat) (n : Int) (ds : List Nat) (u9 u10 u11 u12 u13 u14 u15 u27 u28 u29 u30 u31 u32 u33 u34 u35 u36 u37 u38 u39 u40 u41 u42 u43 u44 u45 u46 u47 u48 u49 u50 u51 u52 u53 u54 u55 u56 u57 u58 u59 u60 u61 u62 u63 u64 u65 u66 u67 u68 u69 u70 u71 u72 u73 u74 u75 u76 u77 u78 u79 u80 u81 u82 u83 u84 u85 u86 : Value) (W : World), 0 ≤ n → (l1_0.length : Int) - n = d → sameGo l0 l1_0 l2 l3_0 d n = sameB l0 l1_0 l2 l3_0 →
        (∀ D ∈ ds, w.heap.size ≤ D ∧ W.heap[D]? = some (.deferred (some []))) → ds.Nodup →
        (W.heap[g4]? = some (.cells #[.slice A0 l0.length c0] 32 (0, 0)) ∧ W.heap[g6]? = some (.cells #[.slice A2 l2.length c2] 32 (0, 0)) ∧ W.heap[g7]? = some (.cells #[.slice A3_0 l3_0.length c3_0] 24 (0, 0)) ∧ W.heap[g8]? = some (.cells #[.bool false] 4 (0, 0))) →
        Below w.heap.size w W → Code.rounds Tryd.prog Lcode Qpost (d + 1) { tmps := #[.slice A0 l0.length c0, .agg #[.slice A1_0 l1_0.length c1_0], .slice A2 l2.length c2, .agg #[.slice A3_0 l3_0.length c3_0], .pointer (some ⟨g4, 0, none⟩), .pointer (some ⟨g5, 0, none⟩), .pointer (some ⟨g6, 0, none⟩), .pointer (some ⟨g7, 0, none⟩), .pointer (some ⟨g8, 0, none⟩), u9, u10, u11, u12, u13, u14, u15, .pointer (some ⟨g5, 0, none⟩), .slice A1_0 l1_0.length c1_0, .int .i64 (l1_0.length : Int), .pointer (some ⟨g7, 0, none⟩), .slice A3_0 l3_0.length c3_0, .int .i64 (l3_0.length : Int), .bool false, .pointer (some ⟨g5, 0, none⟩), .slice A1_0 l1_0.length c1_0, .int .i64 (l1_0.length : Int), .int .i64 n, u27, u28, u29, u30, u31, u32, u33, u34, u35, u36, u37, u38, u39, u40, u41, u42, u43, u44, u45, u46, u47, u48, u49, u50, u51, u52, u53, u54, u55, u56, u57, u58, u59, u60, u61, u62, u63, u64, u65, u66, u67, u68, u69, u70, u71, u72, u73, u74, u75, u76, u77, u78, u79, u80, u81, u82, u83, u84, u85, u86], defers := ds.map mark } W := by
      intro d
      induction d with
      | zero =>
        intro n ds u9 u10 u11 u12 u13 u14 u15 u27 u28 u29 u30 u31 u32 u33 u34 u35 u36 u37 u38 u39 u40 u41 u42 u43 u44 u45 u46 u47 u48 u49 u50 u51 u52 u53 u54 u55 u56 u57 u58 u59 u60 u61 u62 u63 u64 u65 u66 u67 u68 u69 u70 u71 u72 u73 u74 u75 u76 u77 u78 u79 u80 u81 u82 u83 u84 u85 u86 W h0 hd hs hm hn hbk hB
        rw [rounds_succ]
        have hge : ¬ n < (l1_0.length : Int) := by omega
        have hsb : sameB l0 l1_0 l2 l3_0 = true := hs.symm
        rw [← hL]
        subst hQ
        have q8 : W.cell? ⟨g8, 0, none⟩ = some (.bool false) := (blk_cell hbk.2.2.2 0).trans rfl
        have f8 := blk_frozen hbk.2.2.2 0
        clear hL hs hd
        go_wp2
        exact same_out w g8 true _ rfl ds _ (marks_set hm hbk.2.2.2) hn (blk_put hbk.2.2.2 0 _ rfl) (below_set hB GEg8.out)
      | succ d ih =>
        intro n ds u9 u10 u11 u12 u13 u14 u15 u27 u28 u29 u30 u31 u32 u33 u34 u35 u36 u37 u38 u39 u40 u41 u42 u43 u44 u45 u46 u47 u48 u49 u50 u51 u52 u53 u54 u55 u56 u57 u58 u59 u60 u61 u62 u63 u64 u65 u66 u67 u68 u69 u70 u71 u72 u73 u74 u75 u76 u77 u78 u79 u80 u81 u82 u83 u84 u85 u86 W h0 hd hs hm hn hbk hB
        rw [rounds_succ]
        generalize hR : Code.rounds Tryd.prog Lcode Qpost (d + 1) = Rnext
        have hlt : n < (l1_0.length : Int) := by omega
        have hlt3 : n < (l3_0.length : Int) := by have := HLE.out; omega
        obtain ⟨ad1, e1, hx0, hx1, hx2, hx3⟩ := at_T43 (Kd.C_below HR1.out hB) n h0 hlt
        obtain ⟨ad3, e3, hy0, hy1, hy2, hy3⟩ := at_T43 (Kd.C_below HR3.out hB) n h0 hlt3
        subst e1
        subst e3
        have q7 : W.cell? ⟨g7, 0, none⟩ = some (.slice (some ad3) l3_0.length c3_0) := (blk_cell hbk.2.2.1 0).trans rfl
        have p0 := eq_true h0
        have ba : Below W.heap.size W (W.alloc (.cells #[.int .u8 (rd_T43 l1_0 n).f0, .int .i64 (rd_T43 l1_0 n).f1, .int .i64 (rd_T43 l1_0 n).f2, .int .i64 (rd_T43 l1_0 n).f3] 43)) := below_alloc (Below.refl _ _) _
        have q7a := (ba.cell (World.block_lt_of_cell? _ _ q7)).trans q7
        have ya0 := (ba.cell (World.block_lt_of_cell? _ _ hy0)).trans hy0
        have ya1 := (ba.cell (World.block_lt_of_cell? _ _ hy1)).trans hy1
        have ya2 := (ba.cell (World.block_lt_of_cell? _ _ hy2)).trans hy2
        have ya3 := (ba.cell (World.block_lt_of_cell? _ _ hy3)).trans hy3
        clear ba
        have IH := Aside0.mk ih
        have HM := Aside0.mk hm
        have HN := Aside0.mk hn
        have HK := Aside0.mk hbk
        have HS := Aside0.mk hs
        have HBW := Aside0.mk hB
        have HRN := Aside0.mk hR
        have HQQ := Aside0.mk hQ
        have HD := Aside0.mk hd
        rw [← hL]
        have HLL := Aside0.mk hL
        clear ih hm hn hbk hs hB hR hQ hL hd
        go_upto_region 7 with (fail)
        have b10 : ((W.alloc (.cells #[.int .u8 (rd_T43 l1_0 n).f0, .int .i64 (rd_T43 l1_0 n).f1, .int .i64 (rd_T43 l1_0 n).f2, .int .i64 (rd_T43 l1_0 n).f3] 43)).alloc (.cells #[.int .u8 (rd_T43 l3_0 n).f0, .int .i64 (rd_T43 l3_0 n).f1, .int .i64 (rd_T43 l3_0 n).f2, .int .i64 (rd_T43 l3_0 n).f3] 43)).heap[W.heap.size]? = some (.cells #[.int .u8 (rd_T43 l1_0 n).f0, .int .i64 (rd_T43 l1_0 n).f1, .int .i64 (rd_T43 l1_0 n).f2, .int .i64 (rd_T43 l1_0 n).f3] 43 (0, 0)) := blk_alloc (blk_new W _) _
        have b11 : ((W.alloc (.cells #[.int .u8 (rd_T43 l1_0 n).f0, .int .i64 (rd_T43 l1_0 n).f1, .int .i64 (rd_T43 l1_0 n).f2, .int .i64 (rd_T43 l1_0 n).f3] 43)).alloc (.cells #[.int .u8 (rd_T43 l3_0 n).f0, .int .i64 (rd_T43 l3_0 n).f1, .int .i64 (rd_T43 l3_0 n).f2, .int .i64 (rd_T43 l3_0 n).f3] 43)).heap[W.heap.size + 1]? = some (.cells #[.int .u8 (rd_T43 l3_0 n).f0, .int .i64 (rd_T43 l3_0 n).f1, .int .i64 (rd_T43 l3_0 n).f2, .int .i64 (rd_T43 l3_0 n).f3] 43 (0, 0)) := by
          have e := blk_new (W.alloc (.cells #[.int .u8 (rd_T43 l1_0 n).f0, .int .i64 (rd_T43 l1_0 n).f1, .int .i64 (rd_T43 l1_0 n).f2, .int .i64 (rd_T43 l1_0 n).f3] 43)) (.cells #[.int .u8 (rd_T43 l3_0 n).f0, .int .i64 (rd_T43 l3_0 n).f1, .int .i64 (rd_T43 l3_0 n).f2, .int .i64 (rd_T43 l3_0 n).f3] 43)
          rwa [World.size_alloc] at e
        have bb : Below W.heap.size W ((W.alloc (.cells #[.int .u8 (rd_T43 l1_0 n).f0, .int .i64 (rd_T43 l1_0 n).f1, .int .i64 (rd_T43 l1_0 n).f2, .int .i64 (rd_T43 l1_0 n).f3] 43)).alloc (.cells #[.int .u8 (rd_T43 l3_0 n).f0, .int .i64 (rd_T43 l3_0 n).f1, .int .i64 (rd_T43 l3_0 n).f2, .int .i64 (rd_T43 l3_0 n).f3] 43)) := below_alloc (below_alloc (Below.refl _ _) _) _
        have g10w : W.heap.size ≤ W.heap.size := Nat.le_refl _
        have g11w : W.heap.size ≤ W.heap.size + 1 := Nat.le_succ _
        generalize (W.alloc (.cells #[.int .u8 (rd_T43 l1_0 n).f0, .int .i64 (rd_T43 l1_0 n).f1, .int .i64 (rd_T43 l1_0 n).f2, .int .i64 (rd_T43 l1_0 n).f3] 43)).alloc (.cells #[.int .u8 (rd_T43 l3_0 n).f0, .int .i64 (rd_T43 l3_0 n).f1, .int .i64 (rd_T43 l3_0 n).f2, .int .i64 (rd_T43 l3_0 n).f3] 43) = W1 at b10 b11 bb ⊢
        obtain ⟨g11, hg11⟩ : ∃ g, W.heap.size + 1 = g := ⟨_, rfl⟩
        rw [hg11] at b11 g11w ⊢
        obtain ⟨g10, hg10⟩ : ∃ g, W.heap.size = g := ⟨_, rfl⟩
        rw [hg10] at b10 ⊢
        rw [hg10] at g10w g11w
        have BK10 := Aside0.mk b10
        have BK11 := Aside0.mk b11
        have HB1 := Aside0.mk bb
        have G10 := Aside0.mk hg10
        have G11 := Aside0.mk hg11
        clear b10 b11 bb hg10 hg11 g10w g11w hx0 hx1 hx2 hx3 hy0 hy1 hy2 hy3 q7 p0 q7a ya0 ya1 ya2 ya3
        have q10 : W1.cell? ⟨g10, 0, none⟩ = some (.int .u8 (rd_T43 l1_0 n).f0) := (blk_cell BK10.out 0).trans rfl
        have q103 : W1.cell? ⟨g10, 3, none⟩ = some (.int .i64 (rd_T43 l1_0 n).f3) := (blk_cell BK10.out 3).trans rfl
        have q11 : W1.cell? ⟨g11, 0, none⟩ = some (.int .u8 (rd_T43 l3_0 n).f0) := (blk_cell BK11.out 0).trans rfl
        have q113 : W1.cell? ⟨g11, 3, none⟩ = some (.int .i64 (rd_T43 l3_0 n).f3) := (blk_cell BK11.out 3).trans rfl
        by_cases hkk : (rd_T43 l1_0 n).f0 = (rd_T43 l3_0 n).f0 ∧ (rd_T43 l1_0 n).f3 = (rd_T43 l3_0 n).f3
        · obtain ⟨k0, k3⟩ := hkk
          have z0 : ((rd_T43 l1_0 n).f0 != (rd_T43 l3_0 n).f0) = false := by rw [k0]; simp
          have z3 : ((rd_T43 l1_0 n).f3 != (rd_T43 l3_0 n).f3) = false := by rw [k3]; simp
          have K0 := Aside0.mk k0
          have K3 := Aside0.mk k3
          clear k0 k3
          go_upto_region 10 with (fail)
          have b12 : (W1.alloc (.cells #[.slice none 0 0] 90)).heap[W1.heap.size]? = some (.cells #[.slice none 0 0] 90 (0, 0)) := blk_new W1 _
          have ba : Below W1.heap.size W1 (W1.alloc (.cells #[.slice none 0 0] 90)) := below_alloc (Below.refl _ _) _
          generalize W1.alloc (.cells #[.slice none 0 0] 90) = W2 at b12 ba ⊢
          obtain ⟨g12, hg12⟩ : ∃ g, W1.heap.size = g := ⟨_, rfl⟩
          rw [hg12] at b12 ⊢
          have NB := Aside0.mk (HB1.out.trans (ba.mono HB1.out.size))
          have N10 := Aside0.mk (blk_below BK10.out ba)
          have N11 := Aside0.mk (blk_below BK11.out ba)
          have G12 := Aside0.mk hg12
          have BK12 := Aside0.mk b12
          have E12 := Aside0.mk (show g10 < g12 ∧ g11 < g12 by have := blk_lt BK10.out; have := blk_lt BK11.out; omega)
          clear HB1 BK10 BK11 q10 q103 q11 q113 b12 ba z0 z3 hg12
          have HB1 := NB
          have BK10 := N10
          have BK11 := N11
          clear NB N10 N11
          have q4 : W2.cell? ⟨g4, 0, none⟩ = some (.slice A0 l0.length c0) := (blk_cell (blk_below HK.out.1 HB1.out) 0).trans rfl
          have q0 : W2.cell? ⟨g10, 0, none⟩ = some (.int .u8 (rd_T43 l1_0 n).f0) := (blk_cell BK10.out 0).trans rfl
          have q1 : W2.cell? ⟨g10, 1, none⟩ = some (.int .i64 (rd_T43 l1_0 n).f1) := (blk_cell BK10.out 1).trans rfl
          have q2 : W2.cell? ⟨g10, 2, none⟩ = some (.int .i64 (rd_T43 l1_0 n).f2) := (blk_cell BK10.out 2).trans rfl
          have q3 : W2.cell? ⟨g10, 3, none⟩ = some (.int .i64 (rd_T43 l1_0 n).f3) := (blk_cell BK10.out 3).trans rfl
          go_wp2_with (fail)
          refine (tokens.calls A0 l0.length c0 _ _ _ _ _).mono ?_
          rintro e W4 ⟨b1, b2, rfl, k1, k2, gb1, gb2, hb4⟩
          have NB := Aside0.mk (HB1.out.trans (hb4.mono HB1.out.size))
          have N10 := Aside0.mk (blk_below BK10.out hb4)
          have N11 := Aside0.mk (blk_below BK11.out hb4)
          have N12 := Aside0.mk (blk_below BK12.out hb4)
          have F1 := Aside0.mk (show b1 ≠ g12 by have := blk_lt BK12.out; omega)
          have F2 := Aside0.mk (show b2 ≠ g12 by have := blk_lt BK12.out; omega)
          have K1 := Aside0.mk k1
          have K2 := Aside0.mk k2
          clear HB1 BK10 BK11 BK12 q4 q0 q1 q2 q3 k1 k2 gb1 gb2 hb4
          have HB1 := NB
          have BK10 := N10
          have BK11 := N11
          have BK12 := N12
          clear NB N10 N11 N12
          have HBW4 := Aside0.mk (below_step HBW.out HB1.out)
          have GL12 := Aside0.mk (show g12 < W4.heap.size from blk_lt BK12.out)
          have GB4 := Aside0.mk (show w.heap.size ≤ W4.heap.size from HBW4.out.size)
          have GE12 := Aside0.mk (show w.heap.size ≤ g12 by have := HBW.out.size; have := E12.out.1; have := G10.out; omega)
          have E4 := Aside0.mk (show g4 ≠ g12 by have := blk_lt HK.out.1; have := E12.out.1; have := G10.out; omega)
          go_wp2
          refine rf1 (gf := 59) (lb := #[.pointer (some ⟨b1, 0, none⟩), .pointer (some ⟨b2, 0, none⟩)]) (p := 51) (s := 13) rfl (enters_of Tryd.func59 (by kernel_rfl) rfl) (tokens_stops 2 (by omega) b1 b2 w W4 A0 c0 l0 _ _ _ _ (by have := HL0.out; omega) HR0.out HBW4.out K1.out K2.out) KpT.trans (KpT_b GB4.out (blk_lt K1.out) (blk_lt K2.out))
            (fun pre W' => BoxR (Kd.int .u8) 90 66 g12 w.heap.size W4.heap.size ((valsT pre).map (fun i => (rd_T68 l0 i).f0)) W' ∧ KeepB W4 g12 W' ∧ Below w.heap.size w W')
            (fun _ _ _ => False)
            (OwnFrom.and (boxR_own _) (OwnFrom.and (keepB_own W4 g12) (ownFrom_below (Nat.le_refl _) GB4.out)))
            (fun _ _ _ _ _ hs _ _ => hs)
            ⟨⟨_, BK12.out, Kd.R_nil _ _ _ _ _⟩, KeepB.refl _ _, HBW4.out⟩ ?assign ?body ?done ?stop
          case assign =>
            intro lp x W K hK
            simp only [List.setIfInBounds_toArray, List.set_cons_zero, List.set_cons_succ] at hK ⊢
            gi_wp2
            exact hK
          case stop => exact fun _ _ _ _ _ _ h _ => h.elim
          case body =>
            rintro lp pre x W5 ⟨⟨v, hv, hR⟩, hk, hB⟩ hlt
            simp only [List.setIfInBounds_toArray, List.set_cons_zero, List.set_cons_succ]
            obtain ⟨ms, hms⟩ : ∃ ms, (valsT pre).map (fun i => (rd_T68 l0 i).f0) = ms := ⟨_, rfl⟩
            rw [hms] at hR
            have hml : ms.length = pre.length := by rw [← hms]; simp [valsT]
            have hsn : (valsT (pre ++ [x])).map (fun i => (rd_T68 l0 i).f0) = ms ++ [(rd_T68 l0 x.1).f0] := by rw [← hms]; simp [valsT]
            obtain ⟨adx, ex, hx0, hx1, hx2⟩ := at_T68 (Kd.C_below HR0.out hB) x.1 x.2.1 x.2.2.1
            have HLN := Aside0.mk (show ms.length < 17592186044415 by have := HL0.out; omega)
            have HSN := Aside0.mk hsn
            obtain ⟨Av, cv, rfl⟩ := Kd.R_slice hR
            have HG4 := Aside0.mk (hk.blk (blk_below HK.out.1 HB1.out) E4.out)
            subst ex
            have HX := Aside0.mk hv
            have HV := Aside0.mk hR
            have HKB := Aside0.mk hk
            have HW := Aside0.mk hB
            have p1 := eq_true x.2.1
            have p2 := eq_true x.2.2.1
            clear hv hR hk hB hms hml hsn
            gi_wp2
            refine start_in (by rfl) (n := 9) (S := fun w' => Below W5.heap.size W5 w') (ds := [7, 8]) #[false, false, false, false, false, false, false, false, false] (by kernel_rfl) rfl rfl (below_drew (Below.refl _ _)) (fun hHeld => ?_)
            refine with_tabW tree_Same.tab12 tree_Same.bits12 (fun HT_ HW_ => ?_)
            generalize W5.drew = wb at hHeld ⊢
            refine pure_ (i := 2) (N := some 54) (v := ?_) (a' := ?_) #[false, false, true, false, false, false, false, false, false] rfl rfl (any_of HT_.out (by kernel_rfl)) (fun _ _ _ h => h) (Or.inl ⟨by rfl, ?_⟩) ?_ ?_
            rotate_left
            · intro w'
              go_simp
              with_reducible rfl
            rotate_left
            · simp only [Act.put, List.setIfInBounds_toArray, List.set_cons_zero, List.set_cons_succ, i64_w, i32_w]
              rfl
            refine take_ (i := 0) (N := some 52) (v := ?_) (a' := ?_) #[true, false, true, false, false, false, false, false, false] rfl rfl (take_ofW HT_.out HW_.out (by kernel_rfl)) (fun _ _ _ h => h) (Or.inl ⟨by rfl, ?_⟩) hHeld ?_ ?_
            rotate_left
            · intro w' hS
              have q12 : w'.cell? ⟨g12, 0, none⟩ = some (.slice Av ms.length cv) := (blk_cell (blk_below HX.out hS) 0).trans rfl
              have q4 : w'.cell? ⟨g4, 0, none⟩ = some (.slice (some adx) l0.length c0) := (blk_cell (blk_below HG4.out hS) 0).trans rfl
              have y0 := (hS.cell (World.block_lt_of_cell? _ _ hx0)).trans hx0
              clear hS
              go_simp
              with_reducible rfl
            rotate_left
            · simp only [Act.put, List.setIfInBounds_toArray, List.set_cons_zero, List.set_cons_succ, i64_w, i32_w]
              rfl
            refine take_ (i := 1) (N := some 53) (v := ?_) (a' := ?_) #[true, true, true, false, false, false, false, false, false] rfl rfl (take_ofW HT_.out HW_.out (by kernel_rfl)) (fun _ _ _ h => h) (Or.inl ⟨by rfl, ?_⟩) hHeld ?_ ?_
            rotate_left
            · intro w' hS
              have q12 : w'.cell? ⟨g12, 0, none⟩ = some (.slice Av ms.length cv) := (blk_cell (blk_below HX.out hS) 0).trans rfl
              have q4 : w'.cell? ⟨g4, 0, none⟩ = some (.slice (some adx) l0.length c0) := (blk_cell (blk_below HG4.out hS) 0).trans rfl
              have y0 := (hS.cell (World.block_lt_of_cell? _ _ hx0)).trans hx0
              clear hS
              go_simp
              with_reducible rfl
            rotate_left
            · simp only [Act.put, List.setIfInBounds_toArray, List.set_cons_zero, List.set_cons_succ, i64_w, i32_w]
              rfl
            refine pure_ (i := 3) (N := some 55) (v := ?_) (a' := ?_) #[true, true, true, true, false, false, false, false, false] rfl rfl (any_of HT_.out (by kernel_rfl)) (fun _ _ _ h => h) (Or.inl ⟨by rfl, ?_⟩) ?_ ?_
            rotate_left
            · intro w'
              go_simp
              with_reducible rfl
            rotate_left
            · simp only [Act.put, List.setIfInBounds_toArray, List.set_cons_zero, List.set_cons_succ, i64_w, i32_w]
              rfl
            refine pure_ (i := 4) (N := some 56) (v := ?_) (a' := ?_) #[true, true, true, true, true, false, false, false, false] rfl rfl (any_of HT_.out (by kernel_rfl)) (fun _ _ _ h => h) (Or.inl ⟨by rfl, ?_⟩) ?_ ?_
            rotate_left
            · intro w'
              go_simp
              with_reducible rfl
            rotate_left
            · simp only [Act.put, List.setIfInBounds_toArray, List.set_cons_zero, List.set_cons_succ, i64_w, i32_w]
              rfl
            refine take_ (i := 5) (N := some 57) (v := ?_) (a' := ?_) #[true, true, true, true, true, true, false, false, false] rfl rfl (take_ofW HT_.out HW_.out (by kernel_rfl)) (fun _ _ _ h => h) (Or.inl ⟨by rfl, ?_⟩) hHeld ?_ ?_
            rotate_left
            · intro w' hS
              have q12 : w'.cell? ⟨g12, 0, none⟩ = some (.slice Av ms.length cv) := (blk_cell (blk_below HX.out hS) 0).trans rfl
              have q4 : w'.cell? ⟨g4, 0, none⟩ = some (.slice (some adx) l0.length c0) := (blk_cell (blk_below HG4.out hS) 0).trans rfl
              have y0 := (hS.cell (World.block_lt_of_cell? _ _ hx0)).trans hx0
              clear hS
              go_simp
              with_reducible rfl
            rotate_left
            · simp only [Act.put, List.setIfInBounds_toArray, List.set_cons_zero, List.set_cons_succ, i64_w, i32_w]
              rfl
            refine one_ (i := 6) (N := some 58) #[true, true, true, true, true, true, true, false, false] rfl rfl (one_of HT_.out (by kernel_rfl)) (by decide) (fun K hK => ?_)
            refine value_ (w1 := ?_) (v := ?_) (by rfl) rfl ?_ ?_
            rotate_left 2
            · go_simp
              constructor
              · rfl
              · rfl
            refine hK.out _ _ (below_alloc hHeld _) (fun hHeld2 => ?_)
            clear hK K
            refine norm_ (a' := ?_) ?_ ?_
            rotate_left
            · show Act.put _ (some 58) _ = _
              simp only [Act.put, List.setIfInBounds_toArray, List.set_cons_zero, List.set_cons_succ, i64_w, i32_w]
              rfl
            refine last_ (i := 7) (N := some 59) #[true, true, true, true, true, true, true, true, false] rfl rfl (one_of HT_.out (by kernel_rfl)) (by decide) (fun K hK => ?_)
            refine Kd.R_append_step (Kd.int .u8) (w0 := w) w.heap.size (by rfl) (.tmp 52) (.tmp 58) 90 66 (.int .u8 0) 1 rfl Tryd.underlying90 info66 rfl (by decide) (by omega) (.slice Av ms.length cv) ms ((rd_T68 l0 x.1).f0) [.int .u8 ((rd_T68 l0 x.1).f0)] (fun k => W4.heap.size ≤ k) (fun _ => False) rfl rfl ?aP (fun _ hk => hk.elim) ?aF ?aO ?aB ?aS ?aL ?_
            (case aP => exact rfl)
            (case aF => exact (fun k hk => by have := HKB.out.1; have := hHeld.size; show W4.heap.size ≤ k; omega))
            (case aO => exact Kd.R_below HV.out hHeld)
            (case aB => exact below_step HW.out hHeld)
            (case aS => exact (below_step HW.out hHeld).size)
            (case aL => have := HLN.out; omega)
            intro v1 w7 ho hb1 hg hat
            have AP := Aside0.mk (appR_step (blk_below HX.out hHeld) GL12.out GB4.out (Kd.R_below HV.out hHeld) (below_step HW.out hHeld).size GE12.out ho hg)
            have HBO := Aside0.mk hb1
            have h7 := blk_grown (blk_below HX.out hHeld) hg (fun e => by have h : W4.heap.size ≤ g12 := HV.out.1 _ e.symm; have := GL12.out; omega)
            have q12' : w7.cell? ⟨g12, 0, none⟩ = some (.slice Av ms.length cv) := (blk_cell h7 0).trans rfl
            have f12' := blk_frozen h7 0
            obtain ⟨A7, c7, e7⟩ := Kd.R_slice ho
            subst e7
            obtain ⟨ms2, hms2⟩ : ∃ z, ms ++ [(rd_T68 l0 x.1).f0] = z := ⟨_, rfl⟩
            skip
            refine hK.out _ _ ?_
            clear hK K
            refine norm_ (a' := ?_) ?_ ?_
            rotate_left
            · show Act.put _ (some 59) _ = _
              simp only [Act.put, List.setIfInBounds_toArray, List.set_cons_zero, List.set_cons_succ, i64_w, i32_w]
              rfl
            refine last_ (i := 8) (N := none) #[true, true, true, true, true, true, true, true, true] rfl rfl (one_of HT_.out (by kernel_rfl)) (by decide) (fun K hK => ?_)
            refine skip_ (w1 := ?_) (by rfl) rfl ?_ ?_
            rotate_left 1
            · go_simp
              rfl
            refine hK.out _ _ ?_
            clear hK K
            refine done_ (done_of HT_.out (by kernel_rfl)) ?_
            (rw [noOut_normal]; gi_wp2)
            have ap := AP.out
            rw [hms2] at ap
            obtain ⟨ap1, ap2, ap3, ap4, ap5⟩ := ap
            have hs0 := HKB.out.1
            have hs1 := hHeld.size
            have hs4 := HW.out.size
            refine ⟨KeepsFrom.trans (keeps_below hHeld _) (ap4 _), ⟨(hHeld.mono hs4).trans ap5, (ap3 b1 (blk_lt K1.out) F1.out (by have := blk_lt K1.out; omega)).trans (hHeld.block b1 (by have := blk_lt K1.out; omega)), (ap3 b2 (blk_lt K2.out) F2.out (by have := blk_lt K2.out; omega)).trans (hHeld.block b2 (by have := blk_lt K2.out; omega))⟩, ⟨_, ap1, ?_⟩, HKB.out.trans (KeepsFrom.trans (keeps_below hHeld 0) (ap4 0)).size (fun k h1 h2 => (ap3 k h1 h2 (by omega)).trans (hHeld.block k (by omega))), (HW.out.trans (hHeld.mono hs4)).trans ap5⟩
            rw [HSN.out, hms2]
            exact ap2
          case done =>
            rintro D ys W6 hD hys ⟨⟨v, hv, hR⟩, hk, hB⟩ hKD
            rw [hys] at hR
            have hkk : (tokR l0 (mx (rd_T43 l1_0 n).f1 0) (mn (rd_T43 l1_0 n).f2 (l0.length : Int))).map (fun i => (rd_T68 l0 i).f0) = kindsR l0 (rd_T43 l1_0 n) := rfl
            rw [hkk] at hR
            obtain ⟨ks, hks⟩ : ∃ ks, kindsR l0 (rd_T43 l1_0 n) = ks := ⟨_, rfl⟩
            rw [hks] at hR
            obtain ⟨Av, cv, rfl⟩ := Kd.R_slice hR
            have e4 : ∀ {b : Nat} {o : Obj}, W.heap[b]? = some o → W6.heap[b]? = some o := fun {b o} h => hk.blk (blk_below h HB1.out) (by have := blk_lt h; have := E12.out.1; have := G10.out; omega)
            have M6 := Aside0.mk (show ∀ D' ∈ D :: ds, w.heap.size ≤ D' ∧ W6.heap[D']? = some (.deferred (some [])) from fun D' hD' => by
              rcases List.mem_cons.1 hD' with rfl | hD'
              · exact ⟨by have := GB4.out; omega, hKD⟩
              · exact ⟨(HM.out D' hD').1, e4 (HM.out D' hD').2⟩)
            have N6 := Aside0.mk (show (D :: ds).Nodup from List.nodup_cons.2 ⟨fun h => by have := blk_lt (HM.out D h).2; have := HB1.out.size; omega, HN.out⟩)
            have J4 := Aside0.mk (e4 HK.out.1)
            have J6 := Aside0.mk (e4 HK.out.2.1)
            have J7 := Aside0.mk (e4 HK.out.2.2.1)
            have J8 := Aside0.mk (e4 HK.out.2.2.2)
            have J11 := Aside0.mk (hk.blk BK11.out (by have := E12.out.2; omega))
            have J12 := Aside0.mk hv
            have JR := Aside0.mk (Kd.R_mono (Kd.R_bound hR) (ok' := fun k => k ≠ W6.heap.size) (fun k hk => by have := hk.2.2.1; show k ≠ W6.heap.size; omega))
            have JB := Aside0.mk hB
            have HKS := Aside0.mk hks
            have L6 := Aside0.mk (show W.heap.size ≤ W6.heap.size from Nat.le_trans HB1.out.size hk.1)
            clear hv hR hk hB hKD hD hys hkk hks e4 HB1 BK10 BK11 BK12 HBW4 GL12 GB4 GE12 E4 K1 K2 F1 F2
            go_upto_region 14 with (fail)
            have b14 : (W6.alloc (.cells #[.int .i64 0] 3)).heap[W6.heap.size]? = some (.cells #[.int .i64 0] 3 (0, 0)) := blk_new W6 _
            have ba : Below W6.heap.size W6 (W6.alloc (.cells #[.int .i64 0] 3)) := below_alloc (Below.refl _ _) _
            generalize W6.alloc (.cells #[.int .i64 0] 3) = W7 at b14 ba ⊢
            obtain ⟨g14, hg14⟩ : ∃ g, W6.heap.size = g := ⟨_, rfl⟩
            rw [hg14] at b14 ⊢
            have G14 := Aside0.mk hg14
            have BK14 := Aside0.mk b14
            have HBA := Aside0.mk ba
            clear b14 ba hg14
            have q6 : W7.cell? ⟨g6, 0, none⟩ = some (.slice A2 l2.length c2) := (blk_cell (blk_below J6.out HBA.out) 0).trans rfl
            have q0 : W7.cell? ⟨g11, 0, none⟩ = some (.int .u8 (rd_T43 l3_0 n).f0) := (blk_cell (blk_below J11.out HBA.out) 0).trans rfl
            have q1 : W7.cell? ⟨g11, 1, none⟩ = some (.int .i64 (rd_T43 l3_0 n).f1) := (blk_cell (blk_below J11.out HBA.out) 1).trans rfl
            have q2 : W7.cell? ⟨g11, 2, none⟩ = some (.int .i64 (rd_T43 l3_0 n).f2) := (blk_cell (blk_below J11.out HBA.out) 2).trans rfl
            have q3 : W7.cell? ⟨g11, 3, none⟩ = some (.int .i64 (rd_T43 l3_0 n).f3) := (blk_cell (blk_below J11.out HBA.out) 3).trans rfl
            go_wp2_with (fail)
            refine (tokens.calls A2 l2.length c2 _ _ _ _ _).mono ?_
            rintro e W8 ⟨b3, b4, rfl, k3, k4, gb3, gb4, hb8⟩
            have hb68 := HBA.out.trans (hb8.mono HBA.out.size)
            have M8 := Aside0.mk (marks_below M6.out hb68)
            have P4 := Aside0.mk (blk_below J4.out hb68)
            have P6 := Aside0.mk (blk_below J6.out hb68)
            have P7 := Aside0.mk (blk_below J7.out hb68)
            have P8 := Aside0.mk (blk_below J8.out hb68)
            have P12 := Aside0.mk (blk_below J12.out hb68)
            have PR := Aside0.mk (Kd.R_below JR.out hb68)
            have PB := Aside0.mk (below_step JB.out hb68)
            have P14 := Aside0.mk (blk_below BK14.out hb8)
            have K3_ := Aside0.mk k3
            have K4_ := Aside0.mk k4
            have lt6 : ∀ {b : Nat} {o : Obj}, W6.heap[b]? = some o → b < g14 := fun {b o} h => by have := blk_lt h; have := G14.out; omega
            have Q4 := Aside0.mk (lt6 J4.out)
            have Q6 := Aside0.mk (lt6 J6.out)
            have Q7 := Aside0.mk (lt6 J7.out)
            have Q8 := Aside0.mk (lt6 J8.out)
            have Q12 := Aside0.mk (lt6 J12.out)
            have QM := Aside0.mk (show ∀ D' ∈ D :: ds, D' < g14 from fun D' h => lt6 (M6.out D' h).2)
            have F3 := Aside0.mk (show b3 ≠ g14 by have := blk_lt BK14.out; omega)
            have F4 := Aside0.mk (show b4 ≠ g14 by have := blk_lt BK14.out; omega)
            have GE14 := Aside0.mk (show w.heap.size ≤ g14 by have := JB.out.size; have := G14.out; omega)
            rw [G14.out] at PR
            clear lt6 hb68 hb8 HBA k3 k4 gb3 gb4 M6 J4 J6 J7 J8 J11 J12 JR JB q6 q0 q1 q2 q3 BK14
            go_wp2
            refine rf1 (gf := 59) (lb := #[.pointer (some ⟨b3, 0, none⟩), .pointer (some ⟨b4, 0, none⟩)]) (p := 63) (s := 15) rfl (enters_of Tryd.func59 (by kernel_rfl) rfl) (tokens_stops 2 (by omega) b3 b4 w W8 A2 c2 l2 _ _ _ _ (by have := HL2.out; omega) HR2.out PB.out K3_.out K4_.out) KpT.trans (KpT_b PB.out.size (blk_lt K3_.out) (blk_lt K4_.out))
              (fun pre W' => (W'.heap[g14]? = some (.cells #[.int .i64 (pre.length : Int)] 3 (0, 0)) ∧ (valsT pre).map (fun i => (rd_T68 l2 i).f0) = ks.take pre.length ∧ pre.length ≤ ks.length) ∧ KeepB W8 g14 W' ∧ Below w.heap.size w W')
              (fun c pre W' => c = .ret ∧ ¬ ((valsT pre).map (fun i => (rd_T68 l2 i).f0) <+: ks) ∧ W'.heap[g8]? = some (.cells #[.bool false] 4 (0, 0)) ∧ (∀ k, k < W8.heap.size → k ≠ g14 → k ≠ g8 → W'.heap[k]? = W8.heap[k]?) ∧ W8.heap.size ≤ W'.heap.size ∧ Below w.heap.size w W')
              (OwnFrom.and (fun _ _ _ _ h hg hr => ⟨blk_own h.1 hg (fun r e => (hr r e).2), h.2⟩) (OwnFrom.and (keepB_own W8 g14) (ownFrom_below (Nat.le_refl _) PB.out.size)))
              (fun _ _ _ _ _ h hg hr => ⟨h.1, h.2.1, blk_own h.2.2.1 hg (fun r e => (hr r e).2), fun k a b c => (hg.block k (Nat.lt_of_lt_of_le a h.2.2.2.2.1) (fun e => by have := (hr k e.symm).1; omega)).trans (h.2.2.2.1 k a b c), Nat.le_trans h.2.2.2.2.1 hg.size, h.2.2.2.2.2.grown hg h.2.2.2.2.2.size (fun k e => Nat.le_trans PB.out.size (hr k e).1)⟩)
              ⟨⟨P14.out, rfl, Nat.zero_le _⟩, KeepB.refl _ _, PB.out⟩ ?assign2 ?body2 ?done2 ?stop2
            case assign2 =>
              intro lp x W K hK
              simp only [List.setIfInBounds_toArray, List.set_cons_zero, List.set_cons_succ] at hK ⊢
              gi_wp2
              exact hK
            case stop2 =>
              rintro D2 c pre W9 hD2 hsp ⟨rfl, hnp, h8, hkk, hsz, hB9⟩ hKD
              have hne : ¬ kindsR l0 (rd_T43 l1_0 n) = kindsR l2 (rd_T43 l3_0 n) := fun e => hnp (by rw [← HKS.out, e]; exact hsp.map _)
              have hs0 : sameB l0 l1_0 l2 l3_0 = false := by
                rw [← HS.out]
                show (nodeB l0 (rd_T43 l1_0 n) l2 (rd_T43 l3_0 n) && _) = false
                unfold nodeB
                rw [decide_eq_false hne, Bool.and_false, Bool.and_false]
                rfl
              have hmk : ∀ D' ∈ D2 :: D :: ds, w.heap.size ≤ D' ∧ W9.heap[D']? = some (.deferred (some [])) := fun D' hD' => by
                rcases List.mem_cons.1 hD' with rfl | hD'
                · exact ⟨by have := PB.out.size; omega, hKD⟩
                · exact ⟨(M8.out D' hD').1, (hkk D' (blk_lt (M8.out D' hD').2) (by have := QM.out D' hD'; omega) (fun e => by have := (M8.out D' hD').2; rw [e, P8.out] at this; cases this)).trans (M8.out D' hD').2⟩
              have hnd : (D2 :: D :: ds).Nodup := List.nodup_cons.2 ⟨fun h => by have := blk_lt (M8.out D2 h).2; omega, N6.out⟩
              have hq := HQQ.out
              subst hq
              clear hne hnp hkk
              go_wp2
              exact same_out w g8 false _ rfl (D2 :: D :: ds) _ hmk hnd h8 hB9
            case done2 =>
              rintro D2 ys W9 hD2 hys ⟨⟨h14, htk, hle⟩, hk9, hB9⟩ hKD
              have hyk : (valsT ys).map (fun i => (rd_T68 l2 i).f0) = kindsR l2 (rd_T43 l3_0 n) := by rw [hys]; rfl
              have hyl : ys.length = (kindsR l2 (rd_T43 l3_0 n)).length := by rw [← hyk]; simp [valsT]
              rw [hyk] at htk
              have hmk : ∀ D' ∈ D2 :: D :: ds, w.heap.size ≤ D' ∧ W9.heap[D']? = some (.deferred (some [])) := fun D' hD' => by
                rcases List.mem_cons.1 hD' with rfl | hD'
                · exact ⟨by have := PB.out.size; omega, hKD⟩
                · exact ⟨(M8.out D' hD').1, hk9.blk (M8.out D' hD').2 (by have := QM.out D' hD'; omega)⟩
              have hnd : (D2 :: D :: ds).Nodup := List.nodup_cons.2 ⟨fun h => by have := blk_lt (M8.out D2 h).2; omega, N6.out⟩
              have r4 := hk9.blk P4.out (by have := Q4.out; omega)
              have r6 := hk9.blk P6.out (by have := Q6.out; omega)
              have r7 := hk9.blk P7.out (by have := Q7.out; omega)
              have r8 := hk9.blk P8.out (by have := Q8.out; omega)
              have c14 : W9.cell? ⟨g14, 0, none⟩ = some (.int .i64 (ys.length : Int)) := (blk_cell h14 0).trans rfl
              have c12 : W9.cell? ⟨g12, 0, none⟩ = some (.slice Av ks.length cv) := (blk_cell (hk9.blk P12.out (by have := Q12.out; omega)) 0).trans rfl
              have MK := Aside0.mk hmk
              have ND := Aside0.mk hnd
              have R4 := Aside0.mk r4
              have R6 := Aside0.mk r6
              have R7 := Aside0.mk r7
              have R8 := Aside0.mk r8
              have B9 := Aside0.mk hB9
              have TK := Aside0.mk htk
              have YL := Aside0.mk hyl
              clear hmk hnd r4 r6 r7 r8 hB9 htk hyl hys hyk hk9 hD2 hKD
              by_cases hj : ys.length = ks.length
              · have e1 : ((ys.length : Int) != (ks.length : Int)) = false := by rw [hj]; simp
                have hkk : kindsR l0 (rd_T43 l1_0 n) = kindsR l2 (rd_T43 l3_0 n) := by rw [TK.out, HKS.out, hj, List.take_length]
                have hs1 : sameGo l0 l1_0 l2 l3_0 d (n + 1) = sameB l0 l1_0 l2 l3_0 := by
                  rw [← HS.out]
                  show _ = (nodeB l0 (rd_T43 l1_0 n) l2 (rd_T43 l3_0 n) && sameGo l0 l1_0 l2 l3_0 d (n + 1))
                  unfold nodeB
                  rw [decide_eq_true K0.out, decide_eq_true K3.out, decide_eq_true hkk]
                  rfl
                clear hj hkk
                have HS1 := Aside0.mk hs1
                clear hs1
                go_wp2
                rw [← HRN.out, show wrap64 (n + 1) = n + 1 by unfold wrap64; have := HL1.out; omega]
                exact IH.out (n + 1) (D2 :: D :: ds) _ _ _ _ _ _ _ _ _ _ _ _ _ _ _ _ _ _ _ _ _ _ _ _ _ _ _ _ _ _ _ _ _ _ _ _ _ _ _ _ _ _ _ _ _ _ _ _ _ _ _ _ _ _ _ _ _ _ _ _ _ _ _ _ _ _ _ W9 (by omega) (by have := HD.out; omega) HS1.out MK.out ND.out ⟨R4.out, R6.out, R7.out, R8.out⟩ B9.out
              · have e1 : ((ys.length : Int) != (ks.length : Int)) = true := by simp; omega
                have hne : ¬ kindsR l0 (rd_T43 l1_0 n) = kindsR l2 (rd_T43 l3_0 n) := fun e => hj (by rw [YL.out, ← e, HKS.out])
                have hs0 : sameB l0 l1_0 l2 l3_0 = false := by
                  rw [← HS.out]
                  show (nodeB l0 (rd_T43 l1_0 n) l2 (rd_T43 l3_0 n) && _) = false
                  unfold nodeB
                  rw [decide_eq_false hne, Bool.and_false, Bool.and_false]
                  rfl
                have q8 : W9.cell? ⟨g8, 0, none⟩ = some (.bool false) := (blk_cell R8.out 0).trans rfl
                have f8 := blk_frozen R8.out 0
                have hq := HQQ.out
                subst hq
                clear hj hne
                go_wp2
                exact same_out w g8 false _ rfl (D2 :: D :: ds) _ (marks_set MK.out R8.out) ND.out (blk_put R8.out 0 _ rfl) (below_set B9.out GEg8.out)
            case body2 =>
              rintro lp pre x W9 ⟨⟨h14, htk, hle⟩, hk9, hB9⟩ hlt
              simp only [List.setIfInBounds_toArray, List.set_cons_zero, List.set_cons_succ]
              obtain ⟨adx, ex, hx0, hx1, hx2⟩ := at_T68 (Kd.C_below HR2.out hB9) x.1 x.2.1 x.2.2.1
              have c6 : W9.cell? ⟨g6, 0, none⟩ = some (.slice A2 l2.length c2) := (blk_cell (hk9.blk P6.out (by have := Q6.out; omega)) 0).trans rfl
              have c14 : W9.cell? ⟨g14, 0, none⟩ = some (.int .i64 (pre.length : Int)) := (blk_cell h14 0).trans rfl
              have f14 := blk_frozen h14 0
              have c12 : W9.cell? ⟨g12, 0, none⟩ = some (.slice Av ks.length cv) := (blk_cell (hk9.blk P12.out (by have := Q12.out; omega)) 0).trans rfl
              subst ex
              have p1 := eq_true x.2.1
              have p2 := eq_true x.2.2.1
              have hml : ((valsT pre).map (fun i => (rd_T68 l2 i).f0)).length = pre.length := by simp [valsT]
              have hsn : (valsT (pre ++ [x])).map (fun i => (rd_T68 l2 i).f0) = ks.take pre.length ++ [(rd_T68 l2 x.1).f0] := by rw [← htk]; simp [valsT]
              by_cases hj : pre.length = ks.length
              · have e1 : ((pre.length : Int) == (ks.length : Int)) = true := by rw [hj]; simp
                have HNP := Aside0.mk (show ¬ ((valsT (pre ++ [x])).map (fun i => (rd_T68 l2 i).f0) <+: ks) from fun h => by
                  have := h.length_le
                  rw [hsn, List.length_append, List.length_take, List.length_singleton] at this
                  omega)
                clear hj htk hml hsn h14
                have r8 := hk9.blk P8.out (by have := Q8.out; omega)
                have q8 : W9.cell? ⟨g8, 0, none⟩ = some (.bool false) := (blk_cell r8 0).trans rfl
                have f8 := blk_frozen r8 0
                have R8 := Aside0.mk r8
                have HK9 := Aside0.mk hk9
                have HB9 := Aside0.mk hB9
                clear r8 hk9 hB9
                gi_wp2
                refine quiet_in (by rfl) (by kernel_rfl) (by kernel_rfl) ?_
                repeat (go_big_quiet_step (fail))
                refine wpQuiet_nil ?_
                intro _ hw'
                obtain ⟨nq, hw''⟩ := hw'
                subst hw''
                gi_wp2
                refine ⟨⟨by simp [World.drewN], fun k o _ ho hc => (Below.heap_setCell (W9.drewN nq) ⟨g8, 0, none⟩ _ k (fun e => by rw [e, R8.out] at ho; cases ho; cases hc)).trans ho⟩, rfl, HNP.out, blk_put (blk_drewN R8.out nq) 0 _ rfl, fun k a b c => (Below.heap_setCell (W9.drewN nq) ⟨g8, 0, none⟩ _ k c).trans (HK9.out.2 k a b), by simpa [World.drewN] using HK9.out.1, below_set (pw_below_drewN HB9.out nq) GEg8.out⟩
              · have e1 : ((pre.length : Int) == (ks.length : Int)) = false := by simp; omega
                have hjl : (pre.length : Int) < (ks.length : Int) := by omega
                obtain ⟨_, _, hcm⟩ := Kd.R_reads' (hk9.R PR.out)
                obtain ⟨adm, em, hxm⟩ := Kd.at_int hcm (pre.length : Int) (by omega) hjl
                subst em
                have hjn : pre.length < ks.length := by omega
                have hrd : rd ks (pre.length : Int) = ks[pre.length] := by simp [rd, List.getD_eq_getElem?_getD, hjn]
                have p3 : (0 ≤ (pre.length : Int)) = True := eq_true (by omega)
                have p4 := eq_true hjl
                have p5 : (pre.length < ks.length) = True := eq_true hjn
                have hxm' := hxm
                rw [Int.toNat_natCast] at hxm'
                by_cases hq : rd ks (pre.length : Int) = (rd_T68 l2 x.1).f0
                · have z1 : (rd ks (pre.length : Int) != (rd_T68 l2 x.1).f0) = false := by rw [hq]; simp
                  have HT := Aside0.mk (show (valsT (pre ++ [x])).map (fun i => (rd_T68 l2 i).f0) = ks.take (pre ++ [x]).length by
                    rw [hsn, List.length_append, List.length_singleton, List.take_succ_eq_append_getElem hjn, ← hrd, hq])
                  have HL := Aside0.mk (show (pre ++ [x]).length ≤ ks.length by rw [List.length_append, List.length_singleton]; omega)
                  have H14 := Aside0.mk h14
                  have HK9 := Aside0.mk hk9
                  have HB9 := Aside0.mk hB9
                  have HJL := Aside0.mk hjn
                  clear hj htk hml hsn h14 hk9 hB9 hq hrd hle hjl hjn
                  gi_wp2
                  refine quiet_in (by rfl) (by kernel_rfl) (by kernel_rfl) ?_
                  repeat (go_big_quiet_step (fail))
                  refine wpQuiet_nil ?_
                  intro _ hw'
                  obtain ⟨nq, hw''⟩ := hw'
                  subst hw''
                  gi_wp2
                  have hle1 : ((pre ++ [x]).length : Int) = (pre.length : Int) + 1 := by rw [List.length_append, List.length_singleton]; rfl
                  have hw1 : wrap64 ((pre.length : Int) + 1) = (pre.length : Int) + 1 := by unfold wrap64; have := HL2.out; omega
                  refine ⟨⟨by simp [World.drewN], fun k o _ ho hc => (Below.heap_setCell (W9.drewN nq) ⟨g14, 0, none⟩ _ k (fun e => by rw [e, H14.out] at ho; cases ho; cases hc)).trans ho⟩, ⟨(pw_below_drewN (Below.refl w.heap.size W9) nq).setCell (p := ⟨g14, 0, none⟩) GE14.out _, Below.heap_setCell (W9.drewN nq) ⟨g14, 0, none⟩ _ b3 F3.out, Below.heap_setCell (W9.drewN nq) ⟨g14, 0, none⟩ _ b4 F4.out⟩, ⟨?_, HT.out, HL.out⟩, HK9.out.trans (by simp [World.drewN]) (fun k a b => Below.heap_setCell (W9.drewN nq) ⟨g14, 0, none⟩ _ k b), below_set (pw_below_drewN HB9.out nq) GE14.out⟩
                  rw [hle1]
                  first | exact blk_put (blk_drewN H14.out nq) 0 _ rfl | (rw [hw1]; exact blk_put (blk_drewN H14.out nq) 0 _ rfl)
                · have z1 : (rd ks (pre.length : Int) != (rd_T68 l2 x.1).f0) = true := by simp [hq]
                  have HNP := Aside0.mk (show ¬ ((valsT (pre ++ [x])).map (fun i => (rd_T68 l2 i).f0) <+: ks) from fun h => by
                    rw [hsn] at h
                    have e := List.prefix_iff_eq_take.1 h
                    rw [List.length_append, List.length_take, List.length_singleton, Nat.min_eq_left (by omega), List.take_succ_eq_append_getElem hjn] at e
                    have := List.append_cancel_left e
                    simp only [List.cons.injEq, and_true] at this
                    exact hq (by rw [hrd, this]))
                  clear hj htk hml hsn h14 hq hrd hle hjl hjn
                  have r8 := hk9.blk P8.out (by have := Q8.out; omega)
                  have q8 : W9.cell? ⟨g8, 0, none⟩ = some (.bool false) := (blk_cell r8 0).trans rfl
                  have f8 := blk_frozen r8 0
                  have R8 := Aside0.mk r8
                  have HK9 := Aside0.mk hk9
                  have HB9 := Aside0.mk hB9
                  clear r8 hk9 hB9
                  gi_wp2
                  refine quiet_in (by rfl) (by kernel_rfl) (by kernel_rfl) ?_
                  repeat (go_big_quiet_step (fail))
                  refine wpQuiet_nil ?_
                  intro _ hw'
                  obtain ⟨nq, hw''⟩ := hw'
                  subst hw''
                  gi_wp2
                  refine ⟨⟨by simp [World.drewN], fun k o _ ho hc => (Below.heap_setCell (W9.drewN nq) ⟨g8, 0, none⟩ _ k (fun e => by rw [e, R8.out] at ho; cases ho; cases hc)).trans ho⟩, rfl, HNP.out, blk_put (blk_drewN R8.out nq) 0 _ rfl, fun k a b c => (Below.heap_setCell (W9.drewN nq) ⟨g8, 0, none⟩ _ k c).trans (HK9.out.2 k a b), by simpa [World.drewN] using HK9.out.1, below_set (pw_below_drewN HB9.out nq) GEg8.out⟩
        · have hs0 : sameB l0 l1_0 l2 l3_0 = false := by
            rw [← HS.out]
            show (nodeB l0 (rd_T43 l1_0 n) l2 (rd_T43 l3_0 n) && _) = false
            unfold nodeB
            by_cases k0 : (rd_T43 l1_0 n).f0 = (rd_T43 l3_0 n).f0
            · rw [decide_eq_true k0, decide_eq_false (fun h => hkk ⟨k0, h⟩)]; rfl
            · rw [decide_eq_false k0]; rfl
          have q8 : W1.cell? ⟨g8, 0, none⟩ = some (.bool false) := (blk_cell (blk_below HK.out.2.2.2 HB1.out) 0).trans rfl
          have f8 := blk_frozen (blk_below HK.out.2.2.2 HB1.out) 0
          have hq := HQQ.out
          subst hq
          by_cases k0 : (rd_T43 l1_0 n).f0 = (rd_T43 l3_0 n).f0
          · have z0 : ((rd_T43 l1_0 n).f0 != (rd_T43 l3_0 n).f0) = false := by rw [k0]; simp
            have z3 : ((rd_T43 l1_0 n).f3 != (rd_T43 l3_0 n).f3) = true := by simp; exact fun h => hkk ⟨k0, h⟩
            clear hkk k0
            go_wp2
            exact same_out w g8 false _ rfl ds _ (marks_set (marks_below HM.out HB1.out) (blk_below HK.out.2.2.2 HB1.out)) HN.out (blk_put (blk_below HK.out.2.2.2 HB1.out) 0 _ rfl) (below_set (below_step HBW.out HB1.out) GEg8.out)
          · have z0 : ((rd_T43 l1_0 n).f0 != (rd_T43 l3_0 n).f0) = true := by simp [k0]
            clear hkk k0
            go_wp2
            exact same_out w g8 false _ rfl ds _ (marks_set (marks_below HM.out HB1.out) (blk_below HK.out.2.2.2 HB1.out)) HN.out (blk_put (blk_below HK.out.2.2.2 HB1.out) 0 _ rfl) (below_set (below_step HBW.out HB1.out) GEg8.out)
    have hsb : sameGo l0 l1_0 l2 l3_0 l1_0.length 0 = sameB l0 l1_0 l2 l3_0 := by
      unfold sameB
      rw [decide_eq_true HLE.out, Bool.true_and]
    exact key l1_0.length 0 [] _ _ _ _ _ _ _ _ _ _ _ _ _ _ _ _ _ _ _ _ _ _ _ _ _ _ _ _ _ _ _ _ _ _ _ _ _ _ _ _ _ _ _ _ _ _ _ _ _ _ _ _ _ _ _ _ _ _ _ _ _ _ _ _ _ _ _ w5 (Int.le_refl _) (by omega) hsb (fun D h => by cases h) List.nodup_nil ⟨BKg4.out, BKg6.out, BKg7.out, BKg8.out⟩ HB.out
  · have hle : ((l1_0.length : Int) != (l3_0.length : Int)) = true := by simp; omega
    have hs : sameB l0 l1_0 l2 l3_0 = false := by unfold sameB; rw [decide_eq_false hlen]; rfl
    have q8 : w5.cell? ⟨g8, 0, none⟩ = some (.bool false) := (blk_cell BKg8.out 0).trans rfl
    have f8 := blk_frozen BKg8.out 0
    clear hlen
    go_wp2
    rw [hs]
    exact same_out w g8 false _ rfl [] _ (fun D h => by cases h) List.nodup_nil (blk_put BKg8.out 0 _ rfl) (below_set HB.out GEg8.out)
end Go.Proofs.YtodldpdnhcafpaaDoor.F
