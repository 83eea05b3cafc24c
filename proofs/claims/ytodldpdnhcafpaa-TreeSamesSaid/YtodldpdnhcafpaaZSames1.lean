/- The law TreeSames of package monikerlaw holds of the given program: called with any arguments that can be read as data it returns true, and its arguments read behind the call as before. Conditions: those of the given row, no others. -/
import Derived.Test.YtodldpdnhcafpaaZSames0
import Derived.Test.YtodldpdnhcafpaaWMore
import Derived.SizedLaws
import Derived.ChangeSlices
import Derived.Deep.Slices
import Derived.ChangeArms
import Derived.Test.YtodldpdnhcafpaaRows
import Derived.WalkKit
import Derived.ProofKit
import Derived.OpenShut
import Derived.ShutString
import Derived.ChangeOld
import Derived.Below
-- A text of this session's own program (wip/myprint.sh over a changed print tool): functions and their walks
namespace Go.Proofs.Ytodldpdnhcafpaa.F
open Go.RowKit Go.Proofs.YtodldpdnhcafpaaW.PrintWords Go.Proofs.YtodldpdnhcafpaaW.PrintLast Go.Proofs.YtodldpdnhcafpaaW.PrintMore
attribute [local go_sem] max2_int min2_int max_two min_two max_three min_three max_four min_four   -- for this text's walks alone
set_option linter.unusedVariables false
set_option linter.unusedSimpArgs false

attribute [local go_sem high] eqA47
/-! ### monikerplain_SameTree: function 47 -/
def monikerplain_SameTree.l0 : Nat → Int → Int → List (S47) → List (S47) → Option (Bool)
  | 0, _, _, _, _ => none
  | k + 1, x15, x16, x148000, x149000 => if x16 < x15 then (if 0 ≤ x16 then (if x16 < (x148000.length : Int) then (if x16 < (x149000.length : Int) then (if (!(((rd_T47 x148000 x16).f0) == ((rd_T47 x149000 x16).f0)) || (!(((rd_T47 x148000 x16).f1) == ((rd_T47 x149000 x16).f1)) || (!(((rd_T47 x148000 x16).f2) == ((rd_T47 x149000 x16).f2)) || (!(((rd_T47 x148000 x16).f3) == ((rd_T47 x149000 x16).f3)))))) = true then (some false) else (monikerplain_SameTree.l0 k x15 (wrap64 (x16 + 1)) x148000 x149000)) else (none)) else (none)) else (none)) else (some true)
def monikerplain_SameTree.f (k : Nat) (l0_0 : List (S47)) (l1_0 : List (S47)) : Option (Bool) := if (l0_0.length : Int) = (l1_0.length : Int) then (monikerplain_SameTree.l0 k (l0_0.length : Int) 0 l0_0 l1_0) else (some false)
set_option maxHeartbeats 8000000 in
set_option maxRecDepth 100000 in
theorem monikerplain_SameTree.calls (k : Nat) (A0_0 : Option Addr) (c0_0 : Nat) (l0_0 : List (S47)) (A1_0 : Option Addr) (c1_0 : Nat) (l1_0 : List (S47)) (r : Bool) (w : World) (hr0_0 : Kd.C k47 w A0_0 l0_0.length l0_0) (hc0_0 : l0_0.length ≤ c0_0) (hr1_0 : Kd.C k47 w A1_0 l1_0.length l1_0) (hc1_0 : l1_0.length ≤ c1_0) (h : monikerplain_SameTree.f k l0_0 l1_0 = some r) :
    Calls Try.prog 47 #[.agg #[.slice A0_0 l0_0.length c0_0], .agg #[.slice A1_0 l1_0.length c1_0]] w fun e w' => e = .returned (.bool r) ∧ Below w.heap.size w w' := by
  have hu25 := Try.underlying25
  have hu47 := Try.underlying47
  have HR0_0 := Aside0.mk hr0_0
  have HC0_0 := Aside0.mk hc0_0
  clear hr0_0 hc0_0
  have HR1_0 := Aside0.mk hr1_0
  have HC1_0 := Aside0.mk hc1_0
  clear hr1_0 hc1_0
  have HB := Aside0.mk (Below.refl w.heap.size w)
  have H : (if (l0_0.length : Int) = (l1_0.length : Int) then (monikerplain_SameTree.l0 k (l0_0.length : Int) 0 l0_0 l1_0) else (some false)) = some r := h
  clear h
  by_cases c3 : (l0_0.length : Int) = (l1_0.length : Int)
  · rw [if_pos c3] at H
    have c3b0 : ((l0_0.length : Int) == (l1_0.length : Int)) = true := beq_iff_eq.mpr c3
    have c3b1 : ((l0_0.length : Int) != (l1_0.length : Int)) = false := bne_eq_false_iff_eq.mpr c3
    have c3b2 : (l0_0.length == l1_0.length) = true := by first | simpa using c3 | (simp at c3 ⊢; omega)
    clear c3
    have H' := Aside0.mk H
    clear H
    go_enter Try.func47, Try.ntmps47
    go_wp2_with (first | ((with_reducible refine gate_dst (N := 2) rfl ?_); refine box_event ?hg (N := 2) ?hd (cs := #[.slice A0_0 l0_0.length c0_0]) (t := 25) ?hr ?_; (case hd => rfl); (case hg => rfl); (case hr => first | (go_simp; done) | (go_simp; rfl)); intro gb147 hg w4 hbox hb; have n0_ := Aside0.mk (below_step (by repeat (first | (with_reducible first | exact HB.out | apply below_alloc | apply pw_below_drewN | apply below_drew1) | exact HB.out)) hb); have n1_ := Aside0.mk (hbox); have n2_ := Aside0.mk ((by rw [hg]; exact (below_size (by repeat (first | (with_reducible first | exact HB.out | apply below_alloc | apply pw_below_drewN | apply below_drew1) | exact HB.out))) : w.heap.size ≤ gb147)); have n3_ := Aside0.mk ((by rw [hg]; exact (below_size (by repeat (first | (with_reducible first | exact HB.out | apply below_alloc | apply pw_below_drewN | apply below_drew1) | exact HB.out))) : w.heap.size ≤ gb147)); clear HB; have HB := n0_; have BK147 := n1_; have GW147 := n2_; have GE147 := n3_; clear n0_ n1_ n2_ n3_; clear hb hbox hg) | ((with_reducible refine gate_dst (N := 3) rfl ?_); refine box_event ?hg (N := 3) ?hd (cs := #[.slice A1_0 l1_0.length c1_0]) (t := 25) ?hr ?_; (case hd => rfl); (case hg => rfl); (case hr => first | (go_simp; done) | (go_simp; rfl)); intro gb148 hg w5 hbox hb; have n0_ := Aside0.mk (blk_below (g := gb147) (o := .cells #[.slice A0_0 l0_0.length c0_0] 25 (0, 0)) (by (with_reducible repeat (first | refine blk_drewN ?_ _ | refine blk_drew ?_ | refine blk_alloc ?_ _)); exact BK147.out) hb); have n1_ := Aside0.mk (below_step (by repeat (first | (with_reducible first | exact HB.out | apply below_alloc | apply pw_below_drewN | apply below_drew1 | refine below_set ?_ GE147.out) | exact HB.out)) hb); have n2_ := Aside0.mk (hbox); have n3_ := Aside0.mk ((by rw [hg]; exact (below_size (by repeat (first | (with_reducible first | exact HB.out | apply below_alloc | apply pw_below_drewN | apply below_drew1 | refine below_set ?_ GE147.out) | exact HB.out))) : w.heap.size ≤ gb148)); have n4_ := Aside0.mk ((by rw [hg]; exact (below_size (by repeat (first | (with_reducible first | exact HB.out | apply below_alloc | apply pw_below_drewN | apply below_drew1 | refine below_set ?_ GE147.out) | exact HB.out))) : w.heap.size ≤ gb148)); have n5_ := Aside0.mk ((by rw [hg]; exact Nat.ne_of_lt (blk_lt (g := gb147) (o := .cells #[.slice A0_0 l0_0.length c0_0] 25 (0, 0)) (by (with_reducible repeat (first | refine blk_drewN ?_ _ | refine blk_drew ?_ | refine blk_alloc ?_ _)); exact BK147.out)) : gb147 ≠ gb148)); have n6_ := Aside0.mk ((by rw [hg]; exact Nat.ne_of_gt (blk_lt (g := gb147) (o := .cells #[.slice A0_0 l0_0.length c0_0] 25 (0, 0)) (by (with_reducible repeat (first | refine blk_drewN ?_ _ | refine blk_drew ?_ | refine blk_alloc ?_ _)); exact BK147.out)) : gb148 ≠ gb147)); clear BK147; clear HB; have BK147 := n0_; have HB := n1_; have BK148 := n2_; have GW148 := n3_; have GE148 := n4_; have NB147_148 := n5_; have NB148_147 := n6_; clear n0_ n1_ n2_ n3_ n4_ n5_ n6_; clear hb hbox hg; have hnb6 := NB147_148.out; have hnc6 := NB148_147.out; have hcz7_0 : w5.cell? ⟨gb147, 0, none⟩ = some (.slice A0_0 l0_0.length c0_0) := (blk_cell BK147.out 0).trans rfl; have hfz7_0 := blk_frozen BK147.out 0; have hcz8_0 : w5.cell? ⟨gb148, 0, none⟩ = some (.slice A1_0 l1_0.length c1_0) := (blk_cell BK148.out 0).trans rfl; have hfz8_0 := blk_frozen BK148.out 0))
    repeat (go_quiet (first | ((with_reducible refine gate_dst (N := 2) rfl ?_); refine box_event ?hg (N := 2) ?hd (cs := #[.slice A0_0 l0_0.length c0_0]) (t := 25) ?hr ?_; (case hd => rfl); (case hg => rfl); (case hr => first | (go_simp; done) | (go_simp; rfl)); intro gb147 hg w4 hbox hb; have n0_ := Aside0.mk (below_step (by repeat (first | (with_reducible first | exact HB.out | apply below_alloc | apply pw_below_drewN | apply below_drew1) | exact HB.out)) hb); have n1_ := Aside0.mk (hbox); have n2_ := Aside0.mk ((by rw [hg]; exact (below_size (by repeat (first | (with_reducible first | exact HB.out | apply below_alloc | apply pw_below_drewN | apply below_drew1) | exact HB.out))) : w.heap.size ≤ gb147)); have n3_ := Aside0.mk ((by rw [hg]; exact (below_size (by repeat (first | (with_reducible first | exact HB.out | apply below_alloc | apply pw_below_drewN | apply below_drew1) | exact HB.out))) : w.heap.size ≤ gb147)); clear HB; have HB := n0_; have BK147 := n1_; have GW147 := n2_; have GE147 := n3_; clear n0_ n1_ n2_ n3_; clear hb hbox hg) | ((with_reducible refine gate_dst (N := 3) rfl ?_); refine box_event ?hg (N := 3) ?hd (cs := #[.slice A1_0 l1_0.length c1_0]) (t := 25) ?hr ?_; (case hd => rfl); (case hg => rfl); (case hr => first | (go_simp; done) | (go_simp; rfl)); intro gb148 hg w5 hbox hb; have n0_ := Aside0.mk (blk_below (g := gb147) (o := .cells #[.slice A0_0 l0_0.length c0_0] 25 (0, 0)) (by (with_reducible repeat (first | refine blk_drewN ?_ _ | refine blk_drew ?_ | refine blk_alloc ?_ _)); exact BK147.out) hb); have n1_ := Aside0.mk (below_step (by repeat (first | (with_reducible first | exact HB.out | apply below_alloc | apply pw_below_drewN | apply below_drew1 | refine below_set ?_ GE147.out) | exact HB.out)) hb); have n2_ := Aside0.mk (hbox); have n3_ := Aside0.mk ((by rw [hg]; exact (below_size (by repeat (first | (with_reducible first | exact HB.out | apply below_alloc | apply pw_below_drewN | apply below_drew1 | refine below_set ?_ GE147.out) | exact HB.out))) : w.heap.size ≤ gb148)); have n4_ := Aside0.mk ((by rw [hg]; exact (below_size (by repeat (first | (with_reducible first | exact HB.out | apply below_alloc | apply pw_below_drewN | apply below_drew1 | refine below_set ?_ GE147.out) | exact HB.out))) : w.heap.size ≤ gb148)); have n5_ := Aside0.mk ((by rw [hg]; exact Nat.ne_of_lt (blk_lt (g := gb147) (o := .cells #[.slice A0_0 l0_0.length c0_0] 25 (0, 0)) (by (with_reducible repeat (first | refine blk_drewN ?_ _ | refine blk_drew ?_ | refine blk_alloc ?_ _)); exact BK147.out)) : gb147 ≠ gb148)); have n6_ := Aside0.mk ((by rw [hg]; exact Nat.ne_of_gt (blk_lt (g := gb147) (o := .cells #[.slice A0_0 l0_0.length c0_0] 25 (0, 0)) (by (with_reducible repeat (first | refine blk_drewN ?_ _ | refine blk_drew ?_ | refine blk_alloc ?_ _)); exact BK147.out)) : gb148 ≠ gb147)); clear BK147; clear HB; have BK147 := n0_; have HB := n1_; have BK148 := n2_; have GW148 := n3_; have GE148 := n4_; have NB147_148 := n5_; have NB148_147 := n6_; clear n0_ n1_ n2_ n3_ n4_ n5_ n6_; clear hb hbox hg; have hnb6 := NB147_148.out; have hnc6 := NB148_147.out; have hcz7_0 : w5.cell? ⟨gb147, 0, none⟩ = some (.slice A0_0 l0_0.length c0_0) := (blk_cell BK147.out 0).trans rfl; have hfz7_0 := blk_frozen BK147.out 0; have hcz8_0 : w5.cell? ⟨gb148, 0, none⟩ = some (.slice A1_0 l1_0.length c1_0) := (blk_cell BK148.out 0).trans rfl; have hfz8_0 := blk_frozen BK148.out 0)); try go_wp2_with (first | ((with_reducible refine gate_dst (N := 2) rfl ?_); refine box_event ?hg (N := 2) ?hd (cs := #[.slice A0_0 l0_0.length c0_0]) (t := 25) ?hr ?_; (case hd => rfl); (case hg => rfl); (case hr => first | (go_simp; done) | (go_simp; rfl)); intro gb147 hg w4 hbox hb; have n0_ := Aside0.mk (below_step (by repeat (first | (with_reducible first | exact HB.out | apply below_alloc | apply pw_below_drewN | apply below_drew1) | exact HB.out)) hb); have n1_ := Aside0.mk (hbox); have n2_ := Aside0.mk ((by rw [hg]; exact (below_size (by repeat (first | (with_reducible first | exact HB.out | apply below_alloc | apply pw_below_drewN | apply below_drew1) | exact HB.out))) : w.heap.size ≤ gb147)); have n3_ := Aside0.mk ((by rw [hg]; exact (below_size (by repeat (first | (with_reducible first | exact HB.out | apply below_alloc | apply pw_below_drewN | apply below_drew1) | exact HB.out))) : w.heap.size ≤ gb147)); clear HB; have HB := n0_; have BK147 := n1_; have GW147 := n2_; have GE147 := n3_; clear n0_ n1_ n2_ n3_; clear hb hbox hg) | ((with_reducible refine gate_dst (N := 3) rfl ?_); refine box_event ?hg (N := 3) ?hd (cs := #[.slice A1_0 l1_0.length c1_0]) (t := 25) ?hr ?_; (case hd => rfl); (case hg => rfl); (case hr => first | (go_simp; done) | (go_simp; rfl)); intro gb148 hg w5 hbox hb; have n0_ := Aside0.mk (blk_below (g := gb147) (o := .cells #[.slice A0_0 l0_0.length c0_0] 25 (0, 0)) (by (with_reducible repeat (first | refine blk_drewN ?_ _ | refine blk_drew ?_ | refine blk_alloc ?_ _)); exact BK147.out) hb); have n1_ := Aside0.mk (below_step (by repeat (first | (with_reducible first | exact HB.out | apply below_alloc | apply pw_below_drewN | apply below_drew1 | refine below_set ?_ GE147.out) | exact HB.out)) hb); have n2_ := Aside0.mk (hbox); have n3_ := Aside0.mk ((by rw [hg]; exact (below_size (by repeat (first | (with_reducible first | exact HB.out | apply below_alloc | apply pw_below_drewN | apply below_drew1 | refine below_set ?_ GE147.out) | exact HB.out))) : w.heap.size ≤ gb148)); have n4_ := Aside0.mk ((by rw [hg]; exact (below_size (by repeat (first | (with_reducible first | exact HB.out | apply below_alloc | apply pw_below_drewN | apply below_drew1 | refine below_set ?_ GE147.out) | exact HB.out))) : w.heap.size ≤ gb148)); have n5_ := Aside0.mk ((by rw [hg]; exact Nat.ne_of_lt (blk_lt (g := gb147) (o := .cells #[.slice A0_0 l0_0.length c0_0] 25 (0, 0)) (by (with_reducible repeat (first | refine blk_drewN ?_ _ | refine blk_drew ?_ | refine blk_alloc ?_ _)); exact BK147.out)) : gb147 ≠ gb148)); have n6_ := Aside0.mk ((by rw [hg]; exact Nat.ne_of_gt (blk_lt (g := gb147) (o := .cells #[.slice A0_0 l0_0.length c0_0] 25 (0, 0)) (by (with_reducible repeat (first | refine blk_drewN ?_ _ | refine blk_drew ?_ | refine blk_alloc ?_ _)); exact BK147.out)) : gb148 ≠ gb147)); clear BK147; clear HB; have BK147 := n0_; have HB := n1_; have BK148 := n2_; have GW148 := n3_; have GE148 := n4_; have NB147_148 := n5_; have NB148_147 := n6_; clear n0_ n1_ n2_ n3_ n4_ n5_ n6_; clear hb hbox hg; have hnb6 := NB147_148.out; have hnc6 := NB148_147.out; have hcz7_0 : w5.cell? ⟨gb147, 0, none⟩ = some (.slice A0_0 l0_0.length c0_0) := (blk_cell BK147.out 0).trans rfl; have hfz7_0 := blk_frozen BK147.out 0; have hcz8_0 : w5.cell? ⟨gb148, 0, none⟩ = some (.slice A1_0 l1_0.length c1_0) := (blk_cell BK148.out 0).trans rfl; have hfz8_0 := blk_frozen BK148.out 0)))
    go_loopg [16] k (fun kq v16 w' => ∃ (x16_1 : Int), v16 = .int .i64 x16_1 ∧ Aside0 (monikerplain_SameTree.l0 kq (l0_0.length : Int) x16_1 l0_0 l1_0 = some r) ∧ Aside0 (kq ≤ k) ∧ Aside0 (w'.heap[gb147]? = some (.cells #[(.slice A0_0 l0_0.length c0_0)] 25 (0, 0))) ∧ Aside0 (w'.heap[gb148]? = some (.cells #[(.slice A1_0 l1_0.length c1_0)] 25 (0, 0))) ∧ Aside0 (Below w.heap.size w w'))
    case atStart => exact ⟨(0), (by first | rfl | (simp; done) | (simp [*]; done)), H', ⟨Nat.le_refl _⟩, ⟨by (with_reducible repeat (first | refine blk_drewN ?_ _ | refine blk_drew ?_ | refine blk_alloc ?_ _)); exact BK147.out⟩, ⟨by (with_reducible repeat (first | refine blk_drewN ?_ _ | refine blk_drew ?_ | refine blk_alloc ?_ _)); exact BK148.out⟩, ⟨by repeat (first | (with_reducible first | exact HB.out | apply below_alloc | apply pw_below_drewN | apply below_drew1 | refine below_set ?_ GE147.out | refine below_set ?_ GE148.out) | exact HB.out)⟩⟩
    case round =>
      clear H'
      try clear c1
      try clear p2
      try clear c3
      try clear c3b0
      try clear c3b1
      try clear c3b2
      try clear c4
      try clear c6
      try clear hcz7_0
      try clear hcz8_0
      try clear hfz7_0
      try clear hfz8_0
      obtain ⟨x16_1, rfl, HA, HK1, BK147, BK148, HB⟩ := hrel
      cases gk with
      | zero => exact absurd HA.out (by simp [monikerplain_SameTree.l0])
      | succ k1 =>
        have H := HA.out
        clear HA
        simp only [monikerplain_SameTree.l0] at H
        by_cases c9 : x16_1 < (l0_0.length : Int)
        · rw [if_pos c9] at H
          have c9b0 : decide (x16_1 < (l0_0.length : Int)) = true := decide_eq_true c9
          clear c9
          by_cases c10 : 0 ≤ x16_1
          · rw [if_pos c10] at H
            have c10b0 : decide (0 ≤ x16_1) = true := decide_eq_true c10
            clear c10
            by_cases c11 : x16_1 < (l0_0.length : Int)
            · rw [if_pos c11] at H
              have c11b0 : decide (x16_1 < (l0_0.length : Int)) = true := decide_eq_true c11
              clear c11
              by_cases c12 : x16_1 < (l1_0.length : Int)
              · rw [if_pos c12] at H
                have c12b0 : decide (x16_1 < (l1_0.length : Int)) = true := decide_eq_true c12
                clear c12
                by_cases c13 : (!(((rd_T47 l0_0 x16_1).f0) == ((rd_T47 l1_0 x16_1).f0)) || (!(((rd_T47 l0_0 x16_1).f1) == ((rd_T47 l1_0 x16_1).f1)) || (!(((rd_T47 l0_0 x16_1).f2) == ((rd_T47 l1_0 x16_1).f2)) || (!(((rd_T47 l0_0 x16_1).f3) == ((rd_T47 l1_0 x16_1).f3)))))) = true
                · rw [if_pos c13] at H
                  have c13b0 : (!(((rd_T47 l0_0 x16_1).f0) == ((rd_T47 l1_0 x16_1).f0)) || (!(((rd_T47 l0_0 x16_1).f1) == ((rd_T47 l1_0 x16_1).f1)) || (!(((rd_T47 l0_0 x16_1).f2) == ((rd_T47 l1_0 x16_1).f2)) || (!(((rd_T47 l0_0 x16_1).f3) == ((rd_T47 l1_0 x16_1).f3)))))) = true := c13
                  clear c13
                  obtain rfl := Option.some.inj H
                  have hnb14 := NB147_148.out
                  have hnc14 := NB148_147.out
                  have hcz15_0 : wr.cell? ⟨gb147, 0, none⟩ = some (.slice A0_0 l0_0.length c0_0) := (blk_cell BK147.out 0).trans rfl
                  have hfz15_0 := blk_frozen BK147.out 0
                  have p149 : 0 ≤ (x16_1 : Int) := of_decide_eq_true (by first | (with_reducible assumption) | assumption)
                  have q149 : x16_1 < (l0_0.length : Int) := of_decide_eq_true (by first | (with_reducible assumption) | assumption)
                  obtain ⟨ad149, e149, hx149_0, hx149_1, hx149_2, hx149_3⟩ := at_T47 HR0_0.out x16_1 p149 q149
                  cases e149
                  replace hx149_0 := (HB.out.cell (World.block_lt_of_cell? w _ hx149_0)).trans hx149_0
                  replace hx149_1 := (HB.out.cell (World.block_lt_of_cell? w _ hx149_1)).trans hx149_1
                  replace hx149_2 := (HB.out.cell (World.block_lt_of_cell? w _ hx149_2)).trans hx149_2
                  replace hx149_3 := (HB.out.cell (World.block_lt_of_cell? w _ hx149_3)).trans hx149_3
                  replace p149 := eq_true p149
                  replace q149 := eq_true q149
                  have hcz16_0 : wr.cell? ⟨gb148, 0, none⟩ = some (.slice A1_0 l1_0.length c1_0) := (blk_cell BK148.out 0).trans rfl
                  have hfz16_0 := blk_frozen BK148.out 0
                  have p150 : 0 ≤ (x16_1 : Int) := of_decide_eq_true (by first | (with_reducible assumption) | assumption)
                  have q150 : x16_1 < (l1_0.length : Int) := of_decide_eq_true (by first | (with_reducible assumption) | assumption)
                  obtain ⟨ad150, e150, hx150_0, hx150_1, hx150_2, hx150_3⟩ := at_T47 HR1_0.out x16_1 p150 q150
                  cases e150
                  replace hx150_0 := (HB.out.cell (World.block_lt_of_cell? w _ hx150_0)).trans hx150_0
                  replace hx150_1 := (HB.out.cell (World.block_lt_of_cell? w _ hx150_1)).trans hx150_1
                  replace hx150_2 := (HB.out.cell (World.block_lt_of_cell? w _ hx150_2)).trans hx150_2
                  replace hx150_3 := (HB.out.cell (World.block_lt_of_cell? w _ hx150_3)).trans hx150_3
                  replace p150 := eq_true p150
                  replace q150 := eq_true q150
                  go_wp2
                  repeat (go_quiet (fail); try go_wp2)
                  go_ret
                  exact ⟨by first | rfl | (simp [errW_none, errW_some] <;> rfl) | (simp [*, errW_none, errW_some] <;> rfl), by repeat (first | (with_reducible first | exact HB.out | apply below_alloc | apply pw_below_drewN | apply below_drew1 | refine below_set ?_ GE147.out | refine below_set ?_ GE148.out) | exact HB.out)⟩
                · rw [if_neg c13] at H
                  have c13b0 : (!(((rd_T47 l0_0 x16_1).f0) == ((rd_T47 l1_0 x16_1).f0)) || (!(((rd_T47 l0_0 x16_1).f1) == ((rd_T47 l1_0 x16_1).f1)) || (!(((rd_T47 l0_0 x16_1).f2) == ((rd_T47 l1_0 x16_1).f2)) || (!(((rd_T47 l0_0 x16_1).f3) == ((rd_T47 l1_0 x16_1).f3)))))) = false := by simpa using c13
                  clear c13
                  have H' := Aside0.mk H
                  clear H
                  have hnb17 := NB147_148.out
                  have hnc17 := NB148_147.out
                  have hcz18_0 : wr.cell? ⟨gb147, 0, none⟩ = some (.slice A0_0 l0_0.length c0_0) := (blk_cell BK147.out 0).trans rfl
                  have hfz18_0 := blk_frozen BK147.out 0
                  have p149 : 0 ≤ (x16_1 : Int) := of_decide_eq_true (by first | (with_reducible assumption) | assumption)
                  have q149 : x16_1 < (l0_0.length : Int) := of_decide_eq_true (by first | (with_reducible assumption) | assumption)
                  obtain ⟨ad149, e149, hx149_0, hx149_1, hx149_2, hx149_3⟩ := at_T47 HR0_0.out x16_1 p149 q149
                  cases e149
                  replace hx149_0 := (HB.out.cell (World.block_lt_of_cell? w _ hx149_0)).trans hx149_0
                  replace hx149_1 := (HB.out.cell (World.block_lt_of_cell? w _ hx149_1)).trans hx149_1
                  replace hx149_2 := (HB.out.cell (World.block_lt_of_cell? w _ hx149_2)).trans hx149_2
                  replace hx149_3 := (HB.out.cell (World.block_lt_of_cell? w _ hx149_3)).trans hx149_3
                  replace p149 := eq_true p149
                  replace q149 := eq_true q149
                  have hcz19_0 : wr.cell? ⟨gb148, 0, none⟩ = some (.slice A1_0 l1_0.length c1_0) := (blk_cell BK148.out 0).trans rfl
                  have hfz19_0 := blk_frozen BK148.out 0
                  have p150 : 0 ≤ (x16_1 : Int) := of_decide_eq_true (by first | (with_reducible assumption) | assumption)
                  have q150 : x16_1 < (l1_0.length : Int) := of_decide_eq_true (by first | (with_reducible assumption) | assumption)
                  obtain ⟨ad150, e150, hx150_0, hx150_1, hx150_2, hx150_3⟩ := at_T47 HR1_0.out x16_1 p150 q150
                  cases e150
                  replace hx150_0 := (HB.out.cell (World.block_lt_of_cell? w _ hx150_0)).trans hx150_0
                  replace hx150_1 := (HB.out.cell (World.block_lt_of_cell? w _ hx150_1)).trans hx150_1
                  replace hx150_2 := (HB.out.cell (World.block_lt_of_cell? w _ hx150_2)).trans hx150_2
                  replace hx150_3 := (HB.out.cell (World.block_lt_of_cell? w _ hx150_3)).trans hx150_3
                  replace p150 := eq_true p150
                  replace q150 := eq_true q150
                  go_wp2
                  repeat (go_quiet (fail); try go_wp2)
                  go_roundg k1
                  case measure => have := HK1.out; omega
                  case rel => exact ⟨(wrap64 (x16_1 + 1)), (by first | rfl | (simp; done) | (simp [*]; done)), H', ⟨by have := HK1.out; omega⟩, ⟨by (with_reducible repeat (first | refine blk_drewN ?_ _ | refine blk_drew ?_ | refine blk_alloc ?_ _)); exact BK147.out⟩, ⟨by (with_reducible repeat (first | refine blk_drewN ?_ _ | refine blk_drew ?_ | refine blk_alloc ?_ _)); exact BK148.out⟩, ⟨by repeat (first | (with_reducible first | exact HB.out | apply below_alloc | apply pw_below_drewN | apply below_drew1 | refine below_set ?_ GE147.out | refine below_set ?_ GE148.out) | exact HB.out)⟩⟩
              · rw [if_neg c12] at H
                exact absurd H (by simp)
            · rw [if_neg c11] at H
              exact absurd H (by simp)
          · rw [if_neg c10] at H
            exact absurd H (by simp)
        · rw [if_neg c9] at H
          have c9b0 : decide (x16_1 < (l0_0.length : Int)) = false := decide_eq_false c9
          clear c9
          obtain rfl := Option.some.inj H
          go_wp2
          repeat (go_quiet (fail); try go_wp2)
          go_ret
          exact ⟨by first | rfl | (simp [errW_none, errW_some] <;> rfl) | (simp [*, errW_none, errW_some] <;> rfl), by repeat (first | (with_reducible first | exact HB.out | apply below_alloc | apply pw_below_drewN | apply below_drew1 | refine below_set ?_ GE147.out | refine below_set ?_ GE148.out) | exact HB.out)⟩
  · rw [if_neg c3] at H
    have c3b0 : ((l0_0.length : Int) == (l1_0.length : Int)) = false := beq_eq_false_iff_ne.mpr c3
    have c3b1 : ((l0_0.length : Int) != (l1_0.length : Int)) = true := bne_iff_ne.mpr c3
    have c3b2 : (l0_0.length == l1_0.length) = false := by first | simpa using c3 | (simp at c3 ⊢; omega)
    obtain rfl := Option.some.inj H
    go_enter Try.func47, Try.ntmps47
    go_wp2_with (first | ((with_reducible refine gate_dst (N := 2) rfl ?_); refine box_event ?hg (N := 2) ?hd (cs := #[.slice A0_0 l0_0.length c0_0]) (t := 25) ?hr ?_; (case hd => rfl); (case hg => rfl); (case hr => first | (go_simp; done) | (go_simp; rfl)); intro gb147 hg w20 hbox hb; have n0_ := Aside0.mk (below_step (by repeat (first | (with_reducible first | exact HB.out | apply below_alloc | apply pw_below_drewN | apply below_drew1) | exact HB.out)) hb); have n1_ := Aside0.mk (hbox); have n2_ := Aside0.mk ((by rw [hg]; exact (below_size (by repeat (first | (with_reducible first | exact HB.out | apply below_alloc | apply pw_below_drewN | apply below_drew1) | exact HB.out))) : w.heap.size ≤ gb147)); have n3_ := Aside0.mk ((by rw [hg]; exact (below_size (by repeat (first | (with_reducible first | exact HB.out | apply below_alloc | apply pw_below_drewN | apply below_drew1) | exact HB.out))) : w.heap.size ≤ gb147)); clear HB; have HB := n0_; have BK147 := n1_; have GW147 := n2_; have GE147 := n3_; clear n0_ n1_ n2_ n3_; clear hb hbox hg) | ((with_reducible refine gate_dst (N := 3) rfl ?_); refine box_event ?hg (N := 3) ?hd (cs := #[.slice A1_0 l1_0.length c1_0]) (t := 25) ?hr ?_; (case hd => rfl); (case hg => rfl); (case hr => first | (go_simp; done) | (go_simp; rfl)); intro gb148 hg w21 hbox hb; have n0_ := Aside0.mk (blk_below (g := gb147) (o := .cells #[.slice A0_0 l0_0.length c0_0] 25 (0, 0)) (by (with_reducible repeat (first | refine blk_drewN ?_ _ | refine blk_drew ?_ | refine blk_alloc ?_ _)); exact BK147.out) hb); have n1_ := Aside0.mk (below_step (by repeat (first | (with_reducible first | exact HB.out | apply below_alloc | apply pw_below_drewN | apply below_drew1 | refine below_set ?_ GE147.out) | exact HB.out)) hb); have n2_ := Aside0.mk (hbox); have n3_ := Aside0.mk ((by rw [hg]; exact (below_size (by repeat (first | (with_reducible first | exact HB.out | apply below_alloc | apply pw_below_drewN | apply below_drew1 | refine below_set ?_ GE147.out) | exact HB.out))) : w.heap.size ≤ gb148)); have n4_ := Aside0.mk ((by rw [hg]; exact (below_size (by repeat (first | (with_reducible first | exact HB.out | apply below_alloc | apply pw_below_drewN | apply below_drew1 | refine below_set ?_ GE147.out) | exact HB.out))) : w.heap.size ≤ gb148)); have n5_ := Aside0.mk ((by rw [hg]; exact Nat.ne_of_lt (blk_lt (g := gb147) (o := .cells #[.slice A0_0 l0_0.length c0_0] 25 (0, 0)) (by (with_reducible repeat (first | refine blk_drewN ?_ _ | refine blk_drew ?_ | refine blk_alloc ?_ _)); exact BK147.out)) : gb147 ≠ gb148)); have n6_ := Aside0.mk ((by rw [hg]; exact Nat.ne_of_gt (blk_lt (g := gb147) (o := .cells #[.slice A0_0 l0_0.length c0_0] 25 (0, 0)) (by (with_reducible repeat (first | refine blk_drewN ?_ _ | refine blk_drew ?_ | refine blk_alloc ?_ _)); exact BK147.out)) : gb148 ≠ gb147)); clear BK147; clear HB; have BK147 := n0_; have HB := n1_; have BK148 := n2_; have GW148 := n3_; have GE148 := n4_; have NB147_148 := n5_; have NB148_147 := n6_; clear n0_ n1_ n2_ n3_ n4_ n5_ n6_; clear hb hbox hg; have hnb22 := NB147_148.out; have hnc22 := NB148_147.out; have hcz23_0 : w21.cell? ⟨gb147, 0, none⟩ = some (.slice A0_0 l0_0.length c0_0) := (blk_cell BK147.out 0).trans rfl; have hfz23_0 := blk_frozen BK147.out 0; have hcz24_0 : w21.cell? ⟨gb148, 0, none⟩ = some (.slice A1_0 l1_0.length c1_0) := (blk_cell BK148.out 0).trans rfl; have hfz24_0 := blk_frozen BK148.out 0))
    repeat (go_quiet (first | ((with_reducible refine gate_dst (N := 2) rfl ?_); refine box_event ?hg (N := 2) ?hd (cs := #[.slice A0_0 l0_0.length c0_0]) (t := 25) ?hr ?_; (case hd => rfl); (case hg => rfl); (case hr => first | (go_simp; done) | (go_simp; rfl)); intro gb147 hg w20 hbox hb; have n0_ := Aside0.mk (below_step (by repeat (first | (with_reducible first | exact HB.out | apply below_alloc | apply pw_below_drewN | apply below_drew1) | exact HB.out)) hb); have n1_ := Aside0.mk (hbox); have n2_ := Aside0.mk ((by rw [hg]; exact (below_size (by repeat (first | (with_reducible first | exact HB.out | apply below_alloc | apply pw_below_drewN | apply below_drew1) | exact HB.out))) : w.heap.size ≤ gb147)); have n3_ := Aside0.mk ((by rw [hg]; exact (below_size (by repeat (first | (with_reducible first | exact HB.out | apply below_alloc | apply pw_below_drewN | apply below_drew1) | exact HB.out))) : w.heap.size ≤ gb147)); clear HB; have HB := n0_; have BK147 := n1_; have GW147 := n2_; have GE147 := n3_; clear n0_ n1_ n2_ n3_; clear hb hbox hg) | ((with_reducible refine gate_dst (N := 3) rfl ?_); refine box_event ?hg (N := 3) ?hd (cs := #[.slice A1_0 l1_0.length c1_0]) (t := 25) ?hr ?_; (case hd => rfl); (case hg => rfl); (case hr => first | (go_simp; done) | (go_simp; rfl)); intro gb148 hg w21 hbox hb; have n0_ := Aside0.mk (blk_below (g := gb147) (o := .cells #[.slice A0_0 l0_0.length c0_0] 25 (0, 0)) (by (with_reducible repeat (first | refine blk_drewN ?_ _ | refine blk_drew ?_ | refine blk_alloc ?_ _)); exact BK147.out) hb); have n1_ := Aside0.mk (below_step (by repeat (first | (with_reducible first | exact HB.out | apply below_alloc | apply pw_below_drewN | apply below_drew1 | refine below_set ?_ GE147.out) | exact HB.out)) hb); have n2_ := Aside0.mk (hbox); have n3_ := Aside0.mk ((by rw [hg]; exact (below_size (by repeat (first | (with_reducible first | exact HB.out | apply below_alloc | apply pw_below_drewN | apply below_drew1 | refine below_set ?_ GE147.out) | exact HB.out))) : w.heap.size ≤ gb148)); have n4_ := Aside0.mk ((by rw [hg]; exact (below_size (by repeat (first | (with_reducible first | exact HB.out | apply below_alloc | apply pw_below_drewN | apply below_drew1 | refine below_set ?_ GE147.out) | exact HB.out))) : w.heap.size ≤ gb148)); have n5_ := Aside0.mk ((by rw [hg]; exact Nat.ne_of_lt (blk_lt (g := gb147) (o := .cells #[.slice A0_0 l0_0.length c0_0] 25 (0, 0)) (by (with_reducible repeat (first | refine blk_drewN ?_ _ | refine blk_drew ?_ | refine blk_alloc ?_ _)); exact BK147.out)) : gb147 ≠ gb148)); have n6_ := Aside0.mk ((by rw [hg]; exact Nat.ne_of_gt (blk_lt (g := gb147) (o := .cells #[.slice A0_0 l0_0.length c0_0] 25 (0, 0)) (by (with_reducible repeat (first | refine blk_drewN ?_ _ | refine blk_drew ?_ | refine blk_alloc ?_ _)); exact BK147.out)) : gb148 ≠ gb147)); clear BK147; clear HB; have BK147 := n0_; have HB := n1_; have BK148 := n2_; have GW148 := n3_; have GE148 := n4_; have NB147_148 := n5_; have NB148_147 := n6_; clear n0_ n1_ n2_ n3_ n4_ n5_ n6_; clear hb hbox hg; have hnb22 := NB147_148.out; have hnc22 := NB148_147.out; have hcz23_0 : w21.cell? ⟨gb147, 0, none⟩ = some (.slice A0_0 l0_0.length c0_0) := (blk_cell BK147.out 0).trans rfl; have hfz23_0 := blk_frozen BK147.out 0; have hcz24_0 : w21.cell? ⟨gb148, 0, none⟩ = some (.slice A1_0 l1_0.length c1_0) := (blk_cell BK148.out 0).trans rfl; have hfz24_0 := blk_frozen BK148.out 0)); try go_wp2_with (first | ((with_reducible refine gate_dst (N := 2) rfl ?_); refine box_event ?hg (N := 2) ?hd (cs := #[.slice A0_0 l0_0.length c0_0]) (t := 25) ?hr ?_; (case hd => rfl); (case hg => rfl); (case hr => first | (go_simp; done) | (go_simp; rfl)); intro gb147 hg w20 hbox hb; have n0_ := Aside0.mk (below_step (by repeat (first | (with_reducible first | exact HB.out | apply below_alloc | apply pw_below_drewN | apply below_drew1) | exact HB.out)) hb); have n1_ := Aside0.mk (hbox); have n2_ := Aside0.mk ((by rw [hg]; exact (below_size (by repeat (first | (with_reducible first | exact HB.out | apply below_alloc | apply pw_below_drewN | apply below_drew1) | exact HB.out))) : w.heap.size ≤ gb147)); have n3_ := Aside0.mk ((by rw [hg]; exact (below_size (by repeat (first | (with_reducible first | exact HB.out | apply below_alloc | apply pw_below_drewN | apply below_drew1) | exact HB.out))) : w.heap.size ≤ gb147)); clear HB; have HB := n0_; have BK147 := n1_; have GW147 := n2_; have GE147 := n3_; clear n0_ n1_ n2_ n3_; clear hb hbox hg) | ((with_reducible refine gate_dst (N := 3) rfl ?_); refine box_event ?hg (N := 3) ?hd (cs := #[.slice A1_0 l1_0.length c1_0]) (t := 25) ?hr ?_; (case hd => rfl); (case hg => rfl); (case hr => first | (go_simp; done) | (go_simp; rfl)); intro gb148 hg w21 hbox hb; have n0_ := Aside0.mk (blk_below (g := gb147) (o := .cells #[.slice A0_0 l0_0.length c0_0] 25 (0, 0)) (by (with_reducible repeat (first | refine blk_drewN ?_ _ | refine blk_drew ?_ | refine blk_alloc ?_ _)); exact BK147.out) hb); have n1_ := Aside0.mk (below_step (by repeat (first | (with_reducible first | exact HB.out | apply below_alloc | apply pw_below_drewN | apply below_drew1 | refine below_set ?_ GE147.out) | exact HB.out)) hb); have n2_ := Aside0.mk (hbox); have n3_ := Aside0.mk ((by rw [hg]; exact (below_size (by repeat (first | (with_reducible first | exact HB.out | apply below_alloc | apply pw_below_drewN | apply below_drew1 | refine below_set ?_ GE147.out) | exact HB.out))) : w.heap.size ≤ gb148)); have n4_ := Aside0.mk ((by rw [hg]; exact (below_size (by repeat (first | (with_reducible first | exact HB.out | apply below_alloc | apply pw_below_drewN | apply below_drew1 | refine below_set ?_ GE147.out) | exact HB.out))) : w.heap.size ≤ gb148)); have n5_ := Aside0.mk ((by rw [hg]; exact Nat.ne_of_lt (blk_lt (g := gb147) (o := .cells #[.slice A0_0 l0_0.length c0_0] 25 (0, 0)) (by (with_reducible repeat (first | refine blk_drewN ?_ _ | refine blk_drew ?_ | refine blk_alloc ?_ _)); exact BK147.out)) : gb147 ≠ gb148)); have n6_ := Aside0.mk ((by rw [hg]; exact Nat.ne_of_gt (blk_lt (g := gb147) (o := .cells #[.slice A0_0 l0_0.length c0_0] 25 (0, 0)) (by (with_reducible repeat (first | refine blk_drewN ?_ _ | refine blk_drew ?_ | refine blk_alloc ?_ _)); exact BK147.out)) : gb148 ≠ gb147)); clear BK147; clear HB; have BK147 := n0_; have HB := n1_; have BK148 := n2_; have GW148 := n3_; have GE148 := n4_; have NB147_148 := n5_; have NB148_147 := n6_; clear n0_ n1_ n2_ n3_ n4_ n5_ n6_; clear hb hbox hg; have hnb22 := NB147_148.out; have hnc22 := NB148_147.out; have hcz23_0 : w21.cell? ⟨gb147, 0, none⟩ = some (.slice A0_0 l0_0.length c0_0) := (blk_cell BK147.out 0).trans rfl; have hfz23_0 := blk_frozen BK147.out 0; have hcz24_0 : w21.cell? ⟨gb148, 0, none⟩ = some (.slice A1_0 l1_0.length c1_0) := (blk_cell BK148.out 0).trans rfl; have hfz24_0 := blk_frozen BK148.out 0)))
    go_ret
    exact ⟨by first | rfl | (simp [errW_none, errW_some] <;> rfl) | (simp [*, errW_none, errW_some] <;> rfl), by repeat (first | (with_reducible first | exact HB.out | apply below_alloc | apply pw_below_drewN | apply below_drew1 | refine below_set ?_ GE147.out | refine below_set ?_ GE148.out) | exact HB.out)⟩

end Go.Proofs.Ytodldpdnhcafpaa.F

namespace Go.Proofs.Ytodldpdnhcafpaa.Q
open Go.RowKit Go.Proofs.YtodldpdnhcafpaaW.PrintWords Go.Proofs.YtodldpdnhcafpaaW.PrintLast Go.Proofs.YtodldpdnhcafpaaW.PrintMore
open Go.Proofs.Ytodldpdnhcafpaa.F

theorem SameTokens_loop (l : List S61) (hl : l.length ≤ 9223372036854775807) (d : Nat) : ∀ i, i ≤ l.length → l.length - i = d →
    Ev (fun k => monikerplain_SameTokens.l0 k l l (l.length : Int) (i : Int)) true := by
  induction d with
  | zero =>
    intro i h1 h2
    refine ⟨1, fun n hn => ?_⟩
    obtain ⟨k, rfl⟩ : ∃ m, n = m + 1 := ⟨n - 1, by omega⟩
    simp only [monikerplain_SameTokens.l0]
    rw [if_neg (by omega)]
  | succ d ih =>
    intro i h1 h2
    obtain ⟨K, hK⟩ := ih (i + 1) (by omega) (by omega)
    refine ⟨K + 1, fun n hn => ?_⟩
    obtain ⟨k, rfl⟩ : ∃ m, n = m + 1 := ⟨n - 1, by omega⟩
    simp only [monikerplain_SameTokens.l0]
    rw [if_pos (by omega), if_pos (by omega), if_pos (by omega), if_pos (by omega), if_neg (by simp), show wrap64 ((i : Int) + 1) = ((i + 1 : Nat) : Int) by unfold wrap64; omega]
    exact hK k (by omega)
theorem SameTokens_is (l : List S61) (hl : l.length ≤ 9223372036854775807) : Ev (fun k => monikerplain_SameTokens.f k l l) true := by
  unfold monikerplain_SameTokens.f
  simp only [↓reduceIte]
  exact SameTokens_loop l hl l.length 0 (by omega) (by omega)

theorem SameTree_loop (l : List S47) (hl : l.length ≤ 9223372036854775807) (d : Nat) : ∀ i, i ≤ l.length → l.length - i = d →
    Ev (fun k => monikerplain_SameTree.l0 k (l.length : Int) (i : Int) l l) true := by
  induction d with
  | zero =>
    intro i h1 h2
    refine ⟨1, fun n hn => ?_⟩
    obtain ⟨k, rfl⟩ : ∃ m, n = m + 1 := ⟨n - 1, by omega⟩
    simp only [monikerplain_SameTree.l0]
    rw [if_neg (by omega)]
  | succ d ih =>
    intro i h1 h2
    obtain ⟨K, hK⟩ := ih (i + 1) (by omega) (by omega)
    refine ⟨K + 1, fun n hn => ?_⟩
    obtain ⟨k, rfl⟩ : ∃ m, n = m + 1 := ⟨n - 1, by omega⟩
    simp only [monikerplain_SameTree.l0]
    rw [if_pos (by omega), if_pos (by omega), if_pos (by omega), if_pos (by omega), if_neg (by simp), show wrap64 ((i : Int) + 1) = ((i + 1 : Nat) : Int) by unfold wrap64; omega]
    exact hK k (by omega)
theorem SameTree_is (l : List S47) (hl : l.length ≤ 9223372036854775807) : Ev (fun k => monikerplain_SameTree.f k l l) true := by
  unfold monikerplain_SameTree.f
  simp only [↓reduceIte]
  exact SameTree_loop l hl l.length 0 (by omega) (by omega)
end Go.Proofs.Ytodldpdnhcafpaa.Q

namespace Go.Proofs.Ytodldpdnhcafpaa.H
open Go.RowKit Go.Proofs.YtodldpdnhcafpaaW.PrintWords Go.Proofs.YtodldpdnhcafpaaW.PrintLast Go.Proofs.YtodldpdnhcafpaaW.PrintMore
open Go.Proofs.Ytodldpdnhcafpaa.F
attribute [local go_sem high] eqA61 eqA47
set_option linter.unusedVariables false
set_option linter.unusedSimpArgs false

set_option maxHeartbeats 4000000 in
set_option maxRecDepth 100000 in
theorem kept_calls (t t' : ByteArray) (A B A1 A2 : Option Addr) (c1 c2 : Nat) (ps : List S61) (ns : List S47) (w : World) (hL1 : Kd.C k61 w A (ps.length + 2) (ps ++ marks61)) (hL2 : Kd.C k47 w B (ns.length + 2) (ns ++ marks47))
    (hr1 : Kd.C k61 w A1 ps.length ps) (hc1 : ps.length ≤ c1) (hr2 : Kd.C k47 w A2 ns.length ns) (hc2 : ns.length ≤ c2) (hl1 : ps.length ≤ 5864062014805) (hl2 : ns.length ≤ 4398046511104) :
    Calls Try.prog 21 #[.agg #[.string t, .slice A ps.length (ps.length + 2), .slice B ns.length (ns.length + 2)], .agg #[.string t', .slice A1 ps.length c1, .slice A2 ns.length c2]] w fun e w' => e = .returned (.bool true) ∧ Below w.heap.size w w' := by
  have hu61 := Try.underlying61
  have hu47 := Try.underlying47
  have hu27 := Try.underlying27
  have hu25 := Try.underlying25
  obtain ⟨k1, hk1⟩ := (Q.SameTokens_is ps (by omega)).rounds
  obtain ⟨k2, hk2⟩ := (Q.SameTree_is ns (by omega)).rounds
  have r0 : rd_T61 (ps ++ marks61) (ps.length : Int) = ⟨0, -5, -6⟩ := by simp [rd_T61, marks61]
  have r1 : rd_T61 (ps ++ marks61) ((ps.length : Int) + 1) = ⟨77, 0, 0⟩ := by
    rw [rd_T61, show ((ps.length : Int) + 1).toNat = ps.length + 1 by omega]; simp [marks61]
  have s0 : rd_T47 (ns ++ marks47) (ns.length : Int) = ⟨99, -3, 0, -4⟩ := by simp [rd_T47, marks47]
  have s1 : rd_T47 (ns ++ marks47) ((ns.length : Int) + 1) = ⟨0, 0, 12345, 0⟩ := by
    rw [rd_T47, show ((ns.length : Int) + 1).toNat = ns.length + 1 by omega]; simp [marks47]
  obtain ⟨a, e0, x00, x01, x02⟩ := at_T61 hL1 (ps.length : Int) (by omega) (by omega)
  subst e0
  obtain ⟨_, e1, x10, x11, x12⟩ := at_T61 hL1 ((ps.length : Int) + 1) (by omega) (by omega)
  cases e1
  obtain ⟨b, e0, y00, y01, y02, y03⟩ := at_T47 hL2 (ns.length : Int) (by omega) (by omega)
  subst e0
  obtain ⟨_, e1, y10, y11, y12, y13⟩ := at_T47 hL2 ((ns.length : Int) + 1) (by omega) (by omega)
  cases e1
  rw [r0] at x00 x01 x02
  rw [r1] at x10 x11 x12
  rw [s0] at y00 y01 y02 y03
  rw [s1] at y10 y11 y12 y13
  clear r0 r1 s0 s1
  simp only [Int.toNat_natCast] at x00 x01 x02 y00 y01 y02 y03
  rw [show ((ps.length : Int) + 1).toNat = ps.length + 1 by omega] at x10 x11 x12
  rw [show ((ns.length : Int) + 1).toNat = ns.length + 1 by omega] at y10 y11 y12 y13
  have p00w := Aside0.mk x00
  have p01w := Aside0.mk x01
  have p02w := Aside0.mk x02
  have p10w := Aside0.mk x10
  have p11w := Aside0.mk x11
  have p12w := Aside0.mk x12
  have m00w := Aside0.mk y00
  have m01w := Aside0.mk y01
  have m02w := Aside0.mk y02
  have m03w := Aside0.mk y03
  have m10w := Aside0.mk y10
  have m11w := Aside0.mk y11
  have m12w := Aside0.mk y12
  have m13w := Aside0.mk y13
  clear x00 x01 x02 x10 x11 x12 y00 y01 y02 y03 y10 y11 y12 y13
  have HS1 := Aside0.mk (C_lent61 hL1)
  have HS2 := Aside0.mk (C_lent47 hL2)
  have HR1 := Aside0.mk hr1
  have HR2 := Aside0.mk hr2
  have HC1 := Aside0.mk hc1
  have HC2 := Aside0.mk hc2
  have HK1 := Aside0.mk hk1
  have HK2 := Aside0.mk hk2
  clear hL1 hL2 hr1 hr2 hc1 hc2 hk1 hk2
  go_enter Try.func21, Try.ntmps21
  go_wp2_with (first
    | ((with_reducible refine gate_dst (N := 2) rfl ?_); refine box_event ?hg (N := 2) ?hd (cs := #[.string t, .slice (some a) ps.length (ps.length + 2), .slice (some b) ns.length (ns.length + 2)]) (t := 27) ?hr ?_; (case hd => rfl); (case hg => rfl); (case hr => first | (go_simp; done) | (go_simp; rfl)); intro gb1 hge w1 hbox hb; have BK1 := Aside0.mk hbox; have HB := Aside0.mk hb; clear hbox hge hb)
    | ((with_reducible refine gate_dst (N := 3) rfl ?_); refine box_event ?hg (N := 3) ?hd (cs := #[.string t', .slice A1 ps.length c1, .slice A2 ns.length c2]) (t := 27) ?hr ?_; (case hd => rfl); (case hg => rfl); (case hr => first | (go_simp; done) | (go_simp; rfl)); intro gb2 hge w2 hbox hb; have BK2 := Aside0.mk hbox; have n0_ := Aside0.mk (blk_below BK1.out hb); have n1_ := Aside0.mk (below_step HB.out hb); clear BK1; clear HB; have BK1 := n0_; have HB := n1_; clear n0_ n1_; clear hbox hge hb; have hxgb10 : w2.cell? ⟨gb1, 0, none⟩ = some (.string t) := (blk_cell BK1.out 0).trans rfl; have hxgb11 : w2.cell? ⟨gb1, 1, none⟩ = some (.slice (some a) ps.length (ps.length + 2)) := (blk_cell BK1.out 1).trans rfl; have hxgb12 : w2.cell? ⟨gb1, 2, none⟩ = some (.slice (some b) ns.length (ns.length + 2)) := (blk_cell BK1.out 2).trans rfl; have hxgb20 : w2.cell? ⟨gb2, 0, none⟩ = some (.string t') := (blk_cell BK2.out 0).trans rfl; have hxgb21 : w2.cell? ⟨gb2, 1, none⟩ = some (.slice A1 ps.length c1) := (blk_cell BK2.out 1).trans rfl; have hxgb22 : w2.cell? ⟨gb2, 2, none⟩ = some (.slice A2 ns.length c2) := (blk_cell BK2.out 2).trans rfl)
    | ((with_reducible refine gate_callee (f := 46) rfl ?_); refine goesL_ (some 11) rfl rfl Try.func46 (by kernel_rfl) rfl #[.slice (some a) ps.length (ps.length + 2), .slice A1 ps.length c1] rfl (by (try simp only [List.map_toArray, List.map_cons, List.map_nil]); first | done | rfl) ?_; (with_reducible refine (monikerplain_SameTokens.calls k1 _ _ ps _ _ ps true _ (Kd.C_below HS1.out HB.out) (by omega) (Kd.C_below HR1.out HB.out) HC1.out HK1.out).mono ?_); rintro e w' ⟨rfl, ⟨nd, rfl⟩⟩; refine ⟨_, rfl, ?_⟩)
    )
  refine (monikerplain_SameTree.calls k2 _ _ ns _ _ ns true _ (Kd.C_drewN (Kd.C_below HS2.out HB.out) _) (by omega) (Kd.C_drewN (Kd.C_below HR2.out HB.out) _) HC2.out HK2.out).mono ?_
  rintro e w3 ⟨rfl, hb⟩
  clear hxgb10 hxgb11 hxgb12 hxgb20 hxgb21 hxgb22
  have n0_ := Aside0.mk (blk_below (blk_drewN BK1.out nd) hb)
  have n1_ := Aside0.mk (blk_below (blk_drewN BK2.out nd) hb)
  have n2_ := Aside0.mk (below_step (pw_below_drewN HB.out nd) hb)
  clear BK1
  clear BK2
  clear HB
  have BK1 := n0_
  have BK2 := n1_
  have HB := n2_
  clear n0_ n1_ n2_
  clear hb
  have hxgb10 : w3.cell? ⟨gb1, 0, none⟩ = some (.string t) := (blk_cell BK1.out 0).trans rfl
  have hxgb11 : w3.cell? ⟨gb1, 1, none⟩ = some (.slice (some a) ps.length (ps.length + 2)) := (blk_cell BK1.out 1).trans rfl
  have hxgb12 : w3.cell? ⟨gb1, 2, none⟩ = some (.slice (some b) ns.length (ns.length + 2)) := (blk_cell BK1.out 2).trans rfl
  have hxgb20 : w3.cell? ⟨gb2, 0, none⟩ = some (.string t') := (blk_cell BK2.out 0).trans rfl
  have hxgb21 : w3.cell? ⟨gb2, 1, none⟩ = some (.slice A1 ps.length c1) := (blk_cell BK2.out 1).trans rfl
  have hxgb22 : w3.cell? ⟨gb2, 2, none⟩ = some (.slice A2 ns.length c2) := (blk_cell BK2.out 2).trans rfl
  have p00 := pw_cell_below HB.out p00w.out
  have p01 := pw_cell_below HB.out p01w.out
  have p02 := pw_cell_below HB.out p02w.out
  have p10 := pw_cell_below HB.out p10w.out
  have p11 := pw_cell_below HB.out p11w.out
  have p12 := pw_cell_below HB.out p12w.out
  have m00 := pw_cell_below HB.out m00w.out
  have m01 := pw_cell_below HB.out m01w.out
  have m02 := pw_cell_below HB.out m02w.out
  have m03 := pw_cell_below HB.out m03w.out
  have m10 := pw_cell_below HB.out m10w.out
  have m11 := pw_cell_below HB.out m11w.out
  have m12 := pw_cell_below HB.out m12w.out
  have m13 := pw_cell_below HB.out m13w.out
  go_wp2_with fail


  go_ret
  exact ⟨rfl, HB.out⟩
end Go.Proofs.Ytodldpdnhcafpaa.H

namespace Go.Proofs.Ytodldpdnhcafpaa.L
open Go.RowKit Go.Proofs.YtodldpdnhcafpaaW.PrintWords Go.Proofs.YtodldpdnhcafpaaW.PrintLast Go.Proofs.YtodldpdnhcafpaaW.PrintMore
open Go.Proofs.Ytodldpdnhcafpaa.F Go.Proofs.Ytodldpdnhcafpaa.H

/-- What the law's walk holds of the world: the two forests' boxes and rows. -/
structure Hold (t : ByteArray) (A1 A2 A B : Option Addr) (c1 c2 : Nat) (ps : List S61) (ns : List S47) (g1 g2 : Nat) (w w' : World) : Prop where
  b1 : w'.heap[g1]? = some (.cells #[.string t, .slice A1 ps.length c1, .slice A2 ns.length c2] 27 (0, 0))
  b2 : w'.heap[g2]? = some (.cells #[.string t, .slice A ps.length (ps.length + 2), .slice B ns.length (ns.length + 2)] 27 (0, 0))
  r1 : Kd.C k61 w' A1 ps.length ps
  r2 : Kd.C k47 w' A2 ns.length ns
  l1 : Kd.C k61 w' A (ps.length + 2) (ps ++ marks61)
  l2 : Kd.C k47 w' B (ns.length + 2) (ns ++ marks47)
  be : Below w.heap.size w w'
theorem Hold.below {t : ByteArray} {A1 A2 A B : Option Addr} {c1 c2 : Nat} {ps : List S61} {ns : List S47} {g1 g2 : Nat} {w w' w'' : World} (h : Hold t A1 A2 A B c1 c2 ps ns g1 g2 w w') (hb : Below w'.heap.size w' w'') : Hold t A1 A2 A B c1 c2 ps ns g1 g2 w w'' :=
  ⟨blk_below h.b1 hb, blk_below h.b2 hb, Kd.C_below h.r1 hb, Kd.C_below h.r2 hb, Kd.C_below h.l1 hb, Kd.C_below h.l2 hb, below_step h.be hb⟩
theorem Hold.drew {t : ByteArray} {A1 A2 A B : Option Addr} {c1 c2 : Nat} {ps : List S61} {ns : List S47} {g1 g2 : Nat} {w w' : World} (h : Hold t A1 A2 A B c1 c2 ps ns g1 g2 w w') : Hold t A1 A2 A B c1 c2 ps ns g1 g2 w w'.drew :=
  h.below (below_drew (Below.refl _ _))

end Go.Proofs.Ytodldpdnhcafpaa.L

namespace Go.Proofs.Ytodldpdnhcafpaa.O
open Go.ChangeShapes Go.WideShapes Go.Deep Go.Proofs.YtodldpdnhcafpaaW.PrintWords

/-- What a value of type t that came in is, as a Lean value of kind d; and what is known of it. -/
def Opens {α : Type} (P : Program) (t : TypeId) (d : Kd α) (B : α → Prop) : Prop :=
  ∀ {H : Type} {enc : TypeId × Value → H} {w : World} {base : Nat} {spare : Nat → Bool} {held : Bool} {fuel : Nat} {cs : List Value} {x : DataW H × List MemPlace},
    DataW.trod enc P w base spare held fuel t cs = some x → (∀ n ∈ x.1.weights P t, n ≤ reachBytes) → ∃ a, d.K w a cs ∧ B a

theorem opens_int {P : Program} {t : TypeId} {k : IntKind} (hu : P.underlying t = some (.int k)) : Opens P t (Kd.int k) (fun n => (Lit.int k n).wf = true) := fun h _ => by
  obtain ⟨n, rfl, rfl, hw⟩ := DataW.trod_int hu h
  exact ⟨n, rfl, hw⟩
theorem opens_string {P : Program} {t : TypeId} (hu : P.underlying t = some .string) : Opens P t Kd.string (fun s => s.size ≤ 140737488351232) := fun h hw => by
  obtain ⟨s, rfl, rfl, _⟩ := DataW.trod_string hu h
  refine ⟨s, rfl, ?_⟩
  have := hw s.data.toList.length (by simp [DataW.weights])
  rw [Array.length_toList] at this
  exact this

theorem mem_weightsAll {H : Type} {P : Program} {e : TypeId} : ∀ {l : List (DataW H)} {y : DataW H}, y ∈ l → ∀ n ∈ y.weights P e, n ∈ DataW.weightsAll P e l
  | y0 :: l, y, h, n, hn => by
    simp only [DataW.weightsAll, List.mem_append]
    rcases List.mem_cons.1 h with rfl | h
    · exact .inl hn
    · exact .inr (mem_weightsAll h n hn)

/-- A slice that came in, its address and capacity told. -/
theorem open_row {α : Type} {P : Program} {t e : TypeId} {d : Kd α} {B : α → Prop} (hu : P.underlying t = some (.slice e)) (he : Opens P e d B) (hc : P.cellsOf e = d.sz)
    {H : Type} {enc : TypeId × Value → H} {w : World} {base : Nat} {spare : Nat → Bool} {held : Bool} {fuel : Nat} {A : Option Addr} {n c : Nat} {x : DataW H × List MemPlace}
    (h : DataW.trod enc P w base spare held fuel t [.slice A n c] = some x) (hw : ∀ n ∈ x.1.weights P t, n ≤ reachBytes) :
    ∃ xs : List α, xs.length = n ∧ d.C w A n xs ∧ n ≤ c ∧ (A = none → c = 0) ∧ (∀ a ∈ xs, B a) ∧ n * P.bytesOf e ≤ 140737488351232 := by
  rcases open_slice hu h with ⟨hcs, rfl⟩ | ⟨a, len, cap, m, fu, D, Pl, hcs, hb, hl, hm, hmm, rfl, hel⟩
  · simp only [List.cons.injEq, Value.slice.injEq, and_true] at hcs
    obtain ⟨rfl, rfl, rfl⟩ := hcs
    exact ⟨[], rfl, ⟨rfl, by omega, fun h0 => absurd h0 (by omega)⟩, by omega, fun _ => rfl, (fun a ha => by cases ha), by omega⟩
  · simp only [List.cons.injEq, Value.slice.injEq, and_true] at hcs
    obtain ⟨rfl, rfl, rfl⟩ := hcs
    have hlm : n ≤ m := by rw [hmm]; split <;> omega
    have hex : ∀ i, i < n → ∃ v : α, (∃ cs, d.K w v cs ∧ ∀ j u, cs[j]? = some u → w.cell? (a.add (i * d.sz + j)) = some u) ∧ B v := by
      intro i hi
      obtain ⟨cs', hc1, hc2⟩ := hel i (by omega)
      have hmem : D i ∈ (List.range n).map D := List.mem_map.2 ⟨i, List.mem_range.2 hi, rfl⟩
      obtain ⟨v, hv, hB⟩ := he hc2 (fun q hq => hw q (by
        simp only [DataW.weights, hu, List.mem_cons, List.mem_append]
        exact .inr (.inl (mem_weightsAll hmem q hq))))
      refine ⟨v, ⟨cs', hv, fun j u hj => ?_⟩, hB⟩
      obtain ⟨_, hcl, hat⟩ := World.cells?_some hc1
      have hjl : j < cs'.length := (List.getElem?_eq_some_iff.1 hj).1
      have := hat j (by omega)
      rw [hc] at this
      rw [← Go.Deep.add_add, this, hj]
    have key : ∀ k, k ≤ n → ∃ xs : List α, xs.length = k ∧ (∀ j p, xs[j]? = some p → (∃ cs, cs.length = d.sz ∧ d.K w p cs ∧ ∀ i u, cs[i]? = some u → w.cell? (a.add (j * d.sz + i)) = some u) ∧ B p) := by
      intro k
      induction k with
      | zero => intro _; exact ⟨[], rfl, fun j p hj => by simp at hj⟩
      | succ k ih =>
        intro hk
        obtain ⟨xs, hx, hxs⟩ := ih (by omega)
        obtain ⟨v, ⟨cs, hv, hcell⟩, hB⟩ := hex k (by omega)
        refine ⟨xs ++ [v], by simp [hx], fun j p hj => ?_⟩
        rcases Nat.lt_or_ge j k with hjk | hjk
        · rw [List.getElem?_append_left (by omega)] at hj
          exact hxs j p hj
        · have hjl := (List.getElem?_eq_some_iff.1 hj).1
          rw [List.length_append, List.length_singleton] at hjl
          obtain rfl : j = k := by omega
          have hp : v = p := by simpa [List.getElem?_append_right, hx] using hj
          subst hp
          exact ⟨⟨cs, d.K_len hv, hv, hcell⟩, hB⟩
    obtain ⟨xs, hx, hxs⟩ := key n (Nat.le_refl _)
    refine ⟨xs, hx, ⟨hx, by have : maxLen = 9223372036854775807 := rfl; omega, fun _ => ⟨a, rfl, fun j p hj => (hxs j p hj).1⟩⟩, hl, (fun h => by cases h), fun v hv => ?_, ?_⟩
    · obtain ⟨j, hj, rfl⟩ := List.mem_iff_getElem.1 hv
      exact (hxs j _ (List.getElem?_eq_getElem hj)).2
    · have := hw ((((List.range n).map D).length + ((List.range (m - n)).map fun j => D (n + j)).length) * P.bytesOf e) (by
        simp only [DataW.weights, hu]
        exact List.mem_cons_self)
      simp only [List.length_map, List.length_range] at this
      have h2 : n * P.bytesOf e ≤ (n + (m - n)) * P.bytesOf e := Nat.mul_le_mul_right _ (by omega)
      have h3 : reachBytes = 140737488351232 := rfl
      omega

end Go.Proofs.Ytodldpdnhcafpaa.O

namespace Go.Proofs.Ytodldpdnhcafpaa.H
open Go.ChangeShapes Go.WideShapes Go.Deep Go.Proofs.YtodldpdnhcafpaaW.PrintWords Go.Proofs.Ytodldpdnhcafpaa.F

theorem cells3 : Try.prog.cellsOf 3 = 1 := by kernel_rfl
theorem cells9 : Try.prog.cellsOf 9 = 1 := by kernel_rfl
theorem cells22 : Try.prog.cellsOf 22 = 1 := by kernel_rfl
theorem cells23 : Try.prog.cellsOf 23 = 1 := by kernel_rfl
theorem cells25 : Try.prog.cellsOf 25 = 1 := by kernel_rfl
theorem cells27 : Try.prog.cellsOf 27 = 3 := by kernel_rfl
theorem cells45 : Try.prog.cellsOf 45 = 1 := by kernel_rfl
theorem cells59 : Try.prog.cellsOf 59 = 1 := by kernel_rfl
theorem bytes61 : Try.prog.bytesOf 61 = 24 := by kernel_rfl
theorem bytes47 : Try.prog.bytesOf 47 = 32 := by kernel_rfl
def B61 (x : S61) : Prop := (Lit.int .u8 x.f0).wf = true ∧ (Lit.int .i64 x.f1).wf = true ∧ (Lit.int .i64 x.f2).wf = true
theorem cells61 : Try.prog.cellsOf 61 = 3 := by kernel_rfl
theorem opens61 : O.Opens Try.prog 61 k61 B61 := by
  intro H enc w base spare held fuel cs x h hw
  obtain ⟨ys, n, rfl, rfl, hlen, hyl, hf⟩ := DataW.trod_struct Try.underlying61 h
  rw [cells61] at hlen
  obtain ⟨c0, c1, c2, rfl⟩ : ∃ c0 c1 c2, cs = [c0, c1, c2] := by
    match cs, hlen with
    | [c0, c1, c2], _ => exact ⟨c0, c1, c2, rfl⟩
  obtain ⟨y0, y1, y2, rfl⟩ : ∃ y0 y1 y2, ys = [y0, y1, y2] := by
    match ys, hyl with
    | [y0, y1, y2], _ => exact ⟨y0, y1, y2, rfl⟩
  have f0 := hf 0 { name := "Kind", type := 59, offset := 0, embedded := false, tag := "", pkgPath := "", byteOffset := 0 } rfl
  have f1 := hf 1 { name := "From", type := 3, offset := 1, embedded := false, tag := "", pkgPath := "", byteOffset := 8 } rfl
  have f2 := hf 2 { name := "To", type := 3, offset := 2, embedded := false, tag := "", pkgPath := "", byteOffset := 16 } rfl
  simp only [cells3, cells59, List.drop_zero, List.drop_succ_cons, List.take_succ_cons, List.take_zero, List.getElem?_cons_zero, List.getElem?_cons_succ] at f0 f1 f2
  have hq : ∀ (j : Nat) (t : TypeId) (d : DataW H), [59, 3, 3][j]? = some t → [y0.1, y1.1, y2.1][j]? = some d → ∀ n ∈ d.weights Try.prog t, n ≤ reachBytes := by
    intro j t d h1 h2 q hq
    refine hw q ?_
    simp only [DataW.weights, Try.underlying61]
    exact DataW.weights_mem_each (j := j) h1 h2 q hq
  obtain ⟨a0, e0, w0⟩ := O.opens_int Try.underlying59 f0 (hq 0 _ _ rfl rfl)
  obtain rfl : c0 = .int .u8 a0 := (List.cons.inj e0).1
  obtain ⟨a1, e1, w1⟩ := O.opens_int Try.underlying3 f1 (hq 1 _ _ rfl rfl)
  obtain rfl : c1 = .int .i64 a1 := (List.cons.inj e1).1
  obtain ⟨a2, e2, w2⟩ := O.opens_int Try.underlying3 f2 (hq 2 _ _ rfl rfl)
  obtain rfl : c2 = .int .i64 a2 := (List.cons.inj e2).1
  exact ⟨⟨a0, a1, a2⟩, k61_mk w _, w0, w1, w2⟩
def B47 (x : S47) : Prop := (Lit.int .u8 x.f0).wf = true ∧ (Lit.int .i64 x.f1).wf = true ∧ (Lit.int .i64 x.f2).wf = true ∧ (Lit.int .i64 x.f3).wf = true
theorem cells47 : Try.prog.cellsOf 47 = 4 := by kernel_rfl
theorem opens47 : O.Opens Try.prog 47 k47 B47 := by
  intro H enc w base spare held fuel cs x h hw
  obtain ⟨ys, n, rfl, rfl, hlen, hyl, hf⟩ := DataW.trod_struct Try.underlying47 h
  rw [cells47] at hlen
  obtain ⟨c0, c1, c2, c3, rfl⟩ : ∃ c0 c1 c2 c3, cs = [c0, c1, c2, c3] := by
    match cs, hlen with
    | [c0, c1, c2, c3], _ => exact ⟨c0, c1, c2, c3, rfl⟩
  obtain ⟨y0, y1, y2, y3, rfl⟩ : ∃ y0 y1 y2 y3, ys = [y0, y1, y2, y3] := by
    match ys, hyl with
    | [y0, y1, y2, y3], _ => exact ⟨y0, y1, y2, y3, rfl⟩
  have f0 := hf 0 { name := "Kind", type := 45, offset := 0, embedded := false, tag := "", pkgPath := "", byteOffset := 0 } rfl
  have f1 := hf 1 { name := "First", type := 3, offset := 1, embedded := false, tag := "", pkgPath := "", byteOffset := 8 } rfl
  have f2 := hf 2 { name := "End", type := 3, offset := 2, embedded := false, tag := "", pkgPath := "", byteOffset := 16 } rfl
  have f3 := hf 3 { name := "Size", type := 3, offset := 3, embedded := false, tag := "", pkgPath := "", byteOffset := 24 } rfl
  simp only [cells3, cells45, List.drop_zero, List.drop_succ_cons, List.take_succ_cons, List.take_zero, List.getElem?_cons_zero, List.getElem?_cons_succ] at f0 f1 f2 f3
  have hq : ∀ (j : Nat) (t : TypeId) (d : DataW H), [45, 3, 3, 3][j]? = some t → [y0.1, y1.1, y2.1, y3.1][j]? = some d → ∀ n ∈ d.weights Try.prog t, n ≤ reachBytes := by
    intro j t d h1 h2 q hq
    refine hw q ?_
    simp only [DataW.weights, Try.underlying47]
    exact DataW.weights_mem_each (j := j) h1 h2 q hq
  obtain ⟨a0, e0, w0⟩ := O.opens_int Try.underlying45 f0 (hq 0 _ _ rfl rfl)
  obtain rfl : c0 = .int .u8 a0 := (List.cons.inj e0).1
  obtain ⟨a1, e1, w1⟩ := O.opens_int Try.underlying3 f1 (hq 1 _ _ rfl rfl)
  obtain rfl : c1 = .int .i64 a1 := (List.cons.inj e1).1
  obtain ⟨a2, e2, w2⟩ := O.opens_int Try.underlying3 f2 (hq 2 _ _ rfl rfl)
  obtain rfl : c2 = .int .i64 a2 := (List.cons.inj e2).1
  obtain ⟨a3, e3, w3⟩ := O.opens_int Try.underlying3 f3 (hq 3 _ _ rfl rfl)
  obtain rfl : c3 = .int .i64 a3 := (List.cons.inj e3).1
  exact ⟨⟨a0, a1, a2, a3⟩, k47_mk w _, w0, w1, w2, w3⟩

theorem slice_cells {P : Program} {t e : TypeId} (hu : P.underlying t = some (.slice e)) {H : Type} {enc : TypeId × Value → H} {w : World} {base : Nat} {spare : Nat → Bool} {held : Bool} {fuel : Nat} {cs : List Value} {x : DataW H × List MemPlace}
    (h : DataW.trod enc P w base spare held fuel t cs = some x) : ∃ A n c, cs = [.slice A n c] := by
  rcases open_slice hu h with ⟨hcs, _⟩ | ⟨a, len, cap, m, fu, D, Pl, hcs, _⟩
  · exact ⟨_, _, _, hcs⟩
  · exact ⟨_, _, _, hcs⟩

/-- A Forest that came in. -/
theorem open27 {H : Type} {enc : TypeId × Value → H} {W : World} {base b0 : Nat} {r : Reach} {spare : Nat → Bool} {held : Bool} {v : Value} {d : DataW H} {p : List MemPlace} (hv : Value.okWide Try.prog W r b0 27 v) (h : DataW.Trod enc Try.prog W base spare held 27 v d p) (hw : ∀ n ∈ d.weights Try.prog 27, n ≤ reachBytes) :
    ∃ (t : ByteArray) (A1 : Option Addr) (c1 : Nat) (ps : List S61) (A2 : Option Addr) (c2 : Nat) (ns : List S47), v = .agg #[.string t, .slice A1 ps.length c1, .slice A2 ns.length c2] ∧ t.size ≤ 140737488351232 ∧
      Kd.C k61 W A1 ps.length ps ∧ ps.length ≤ c1 ∧ (A1 = none → c1 = 0) ∧ (∀ x ∈ ps, B61 x) ∧ ps.length * 24 ≤ 140737488351232 ∧ Kd.C k47 W A2 ns.length ns ∧ ns.length ≤ c2 ∧ (A2 = none → c2 = 0) ∧ (∀ x ∈ ns, B47 x) ∧ ns.length * 32 ≤ 140737488351232 := by
  obtain ⟨cs, rfl, hsz⟩ := okWide_struct Try.underlying27 hv
  rw [cells27] at hsz
  obtain ⟨l⟩ := cs
  obtain ⟨c0, c1, c2, rfl⟩ : ∃ a b c, l = [a, b, c] := by
    match l, hsz with
    | [a, b, c], _ => exact ⟨a, b, c, rfl⟩
  obtain ⟨fuel, hf⟩ := h
  obtain ⟨ys, n, _, hd, _, hyl, hg⟩ := DataW.trod_struct Try.underlying27 hf
  obtain ⟨y0, y1, y2, rfl⟩ : ∃ a b c, ys = [a, b, c] := by
    match ys, hyl with
    | [a, b, c], _ => exact ⟨a, b, c, rfl⟩
  obtain ⟨rfl, rfl⟩ := Prod.mk.inj hd
  have f0 := hg 0 { name := "Text", type := 9, offset := 0, embedded := false, tag := "", pkgPath := "", byteOffset := 0 } rfl
  have f1 := hg 1 { name := "Pieces", type := 22, offset := 1, embedded := false, tag := "", pkgPath := "", byteOffset := 16 } rfl
  have f2 := hg 2 { name := "Tree", type := 25, offset := 2, embedded := false, tag := "", pkgPath := "", byteOffset := 40 } rfl
  simp only [Value.cells, cells9, cells22, cells25, List.drop_zero, List.drop_succ_cons, List.take_succ_cons, List.take_zero, List.getElem?_cons_zero, List.getElem?_cons_succ] at f0 f1 f2
  have hq : ∀ (j : Nat) (t : TypeId) (d : DataW H), [9, 22, 25][j]? = some t → [y0.1, y1.1, y2.1][j]? = some d → ∀ n ∈ d.weights Try.prog t, n ≤ reachBytes := by
    intro j t d h1 h2 q hq
    refine hw q ?_
    simp only [DataW.weights, Try.underlying27]
    exact DataW.weights_mem_each (j := j) h1 h2 q hq
  obtain ⟨t, e0, ht⟩ := O.opens_string Try.underlying9 f0 (hq 0 _ _ rfl rfl)
  obtain rfl : c0 = .string t := (List.cons.inj e0).1
  obtain ⟨A1, n1, k1, e1⟩ := slice_cells Try.underlying22 f1
  obtain rfl : c1 = .slice A1 n1 k1 := (List.cons.inj e1).1
  obtain ⟨ps, rfl, p1, p2, p3, p4, p5⟩ := O.open_row Try.underlying22 opens61 cells61 f1 (hq 1 _ _ rfl rfl)
  obtain ⟨zs, n', _, hz, _, hzl, hg2⟩ := DataW.trod_struct Try.underlying25 f2
  obtain ⟨z0, rfl⟩ : ∃ a, zs = [a] := by
    match zs, hzl with
    | [a], _ => exact ⟨a, rfl⟩
  have f3 := hg2 0 { name := "Nodes", type := 23, offset := 0, embedded := false, tag := "", pkgPath := "", byteOffset := 0 } rfl
  simp only [cells23, List.drop_zero, List.take_succ_cons, List.take_zero, List.getElem?_cons_zero] at f3
  obtain ⟨A2, n2, k2, e2⟩ := slice_cells Try.underlying23 f3
  obtain rfl : c2 = .slice A2 n2 k2 := (List.cons.inj e2).1
  have hq3 : ∀ n ∈ z0.1.weights Try.prog 23, n ≤ reachBytes := by
    intro q hq1
    refine hq 2 _ _ rfl rfl q ?_
    rw [hz]
    simp only [List.map_cons, List.map_nil, DataW.weights, Try.underlying25]
    exact DataW.weights_mem_each (j := 0) (ts := [23]) (ds := [z0.1]) rfl rfl q hq1
  obtain ⟨ns, rfl, q1, q2, q3, q4, q5⟩ := O.open_row Try.underlying23 opens47 cells47 f3 hq3
  rw [bytes61] at p5
  rw [bytes47] at q5
  exact ⟨t, A1, k1, ps, A2, k2, ns, rfl, ht, p1, p2, p3, p4, p5, q1, q2, q3, q4, q5⟩
end Go.Proofs.Ytodldpdnhcafpaa.H

namespace Go.Proofs.Ytodldpdnhcafpaa.L
open Go.RowKit Go.Proofs.YtodldpdnhcafpaaW.PrintWords Go.Proofs.YtodldpdnhcafpaaW.PrintLast Go.Proofs.YtodldpdnhcafpaaW.PrintMore
open Go.Proofs.Ytodldpdnhcafpaa.F Go.Proofs.Ytodldpdnhcafpaa.H
set_option linter.unusedVariables false
set_option linter.unusedSimpArgs false
def sames_walk.T3 : Bool × List (List Nat × List Nat) := (true, [([], []), ([0], [0]), ([], []), ([2], [2]), ([], []), ([4], [4]), ([], []), ([6], [6]), ([1, 3, 5, 7], [1, 3, 5, 7]), ([], []), ([9], [9]), ([], []), ([11], [11]), ([], []), ([13], [13]), ([], []), ([15], [15]), ([10, 12, 14, 16, 8], [10, 12, 14, 16]), ([8, 17], [8, 17]), ([18, 17], [18]), ([19], [19]), ([19], [19]), ([20, 21, 19, 19], [19, 20, 21]), ([19, 22], [19, 22]), ([23, 22], [23]), ([24], [24]), ([24], [24]), ([25, 26, 24, 24], [24, 25, 26]), ([24, 27], [24, 27]), ([28, 27, 0, 1, 2, 3, 4, 5, 6, 7, 8, 9, 10, 11, 12, 13, 14, 15, 16, 17, 18, 19, 20, 21, 22, 23, 24, 25, 26, 27, 28], [28])])
def sames_walk.B3 : List Nat := [0, 1, 0, 4, 0, 16, 0, 64, 255, 0, 512, 0, 2048, 0, 8192, 0, 32768, 131071, 262143, 524287, 1048575, 1048575, 4194303, 8388607, 16777215, 33554431, 33554431, 134217727, 268435455, 536870911]
theorem sames_walk.tab3 : rtab .any (opsOf Try.f10 3) = sames_walk.T3 := by kernel_rfl
theorem sames_walk.bits3 : waitsOk sames_walk.T3.2 sames_walk.B3 = true := by kernel_rfl
set_option maxHeartbeats 4000000 in
set_option maxRecDepth 100000 in
theorem sames_walk (t : ByteArray) (A1 : Option Addr) (c1 : Nat) (ps : List S61) (A2 : Option Addr) (c2 : Nat) (ns : List S47) (s : ByteArray) (A3 : Option Addr) (c3 : Nat) (qs : List S61) (A4 : Option Addr) (c4 : Nat) (ms : List S47) (w : World)
    (hs1 : t.size ≤ 140737488351232) (hr1 : Kd.C k61 w A1 ps.length ps) (hc1 : ps.length ≤ c1) (hn1 : A1 = none → c1 = 0) (hB1 : ∀ x ∈ ps, B61 x) (hb1 : ps.length * 24 ≤ 140737488351232)
    (hr2 : Kd.C k47 w A2 ns.length ns) (hc2 : ns.length ≤ c2) (hn2 : A2 = none → c2 = 0) (hB2 : ∀ x ∈ ns, B47 x) (hb2 : ns.length * 32 ≤ 140737488351232)
    (hs3 : s.size ≤ 140737488351232) (hr3 : Kd.C k61 w A3 qs.length qs) (hc3 : qs.length ≤ c3) (hn3 : A3 = none → c3 = 0) (hB3 : ∀ x ∈ qs, B61 x) (hb3 : qs.length * 24 ≤ 140737488351232)
    (hr4 : Kd.C k47 w A4 ms.length ms) (hc4 : ms.length ≤ c4) (hn4 : A4 = none → c4 = 0) (hB4 : ∀ x ∈ ms, B47 x) (hb4 : ms.length * 32 ≤ 140737488351232) :
    Calls Try.prog 10 #[.agg #[.string t, .slice A1 ps.length c1, .slice A2 ns.length c2], .agg #[.string s, .slice A3 qs.length c3, .slice A4 ms.length c4]] w fun e w' => e = .returned (.bool true) ∧ Below w.heap.size w w' := by
  have hu27 := Try.underlying27
  have hu25 := Try.underlying25
  obtain ⟨k, hk⟩ := (Q.Same_is ps qs ns ms (by omega) (by omega) (by omega)).rounds
  obtain ⟨k', hk'⟩ := (Q.RSame_is ps qs ns ms (by omega) (by omega) (by omega)).rounds
  obtain ⟨r, hr⟩ : ∃ r, sameB ps ns qs ms = r := ⟨_, rfl⟩
  rw [hr] at hk hk'
  clear hr
  have HK := Aside0.mk hk
  have HK' := Aside0.mk hk'
  clear hk hk'
  have HR1 := Aside0.mk hr1
  have HC1 := Aside0.mk hc1
  have HN1 := Aside0.mk hn1
  have HR2 := Aside0.mk hr2
  have HC2 := Aside0.mk hc2
  have HN2 := Aside0.mk hn2
  have HR3 := Aside0.mk hr3
  have HC3 := Aside0.mk hc3
  have HN3 := Aside0.mk hn3
  have HR4 := Aside0.mk hr4
  have HC4 := Aside0.mk hc4
  have HN4 := Aside0.mk hn4
  clear hr1 hr2 hr3 hr4 hc1 hc2 hc3 hc4 hn1 hn2 hn3 hn4 hB1 hB2 hB3 hB4
  go_enter Try.func10, Try.ntmps10
  go_wp2_with (first
    | ((with_reducible refine gate_dst (N := 2) rfl ?_); refine box_event ?hgg1 (N := 2) ?hdg1 (cs := #[.string t, .slice A1 ps.length c1, .slice A2 ns.length c2]) (t := 27) ?hrg1 ?_; (case hdg1 => rfl); (case hgg1 => rfl); (case hrg1 => first | (go_simp; done) | (go_simp; rfl)); intro g1 hge w1 hbox hb; have BK1 := Aside0.mk hbox; have HB := Aside0.mk hb; clear hbox hge hb; have hx0 : w1.cell? ⟨g1, 0, none⟩ = some (.string t) := (blk_cell BK1.out 0).trans rfl; have hx1 : w1.cell? ⟨g1, 1, none⟩ = some (.slice A1 ps.length c1) := (blk_cell BK1.out 1).trans rfl; have hx2 : w1.cell? ⟨g1, 2, none⟩ = some (.slice A2 ns.length c2) := (blk_cell BK1.out 2).trans rfl)
    | ((with_reducible refine gate_dst (N := 3) rfl ?_); refine box_event ?hgh1 (N := 3) ?hdh1 (cs := #[.string s, .slice A3 qs.length c3, .slice A4 ms.length c4]) (t := 27) ?hrh1 ?_; (case hdh1 => rfl); (case hgh1 => rfl); (case hrh1 => first | (go_simp; done) | (go_simp; rfl)); intro h1 hge w2 hbox hb; have BL1 := Aside0.mk hbox; have nb := Aside0.mk (below_step HB.out hb); have nk := Aside0.mk (blk_below BK1.out hb); clear BK1 HB hx0 hx1 hx2 hbox hge hb; have HB := nb; have BK1 := nk; clear nb nk; have hx0 : w2.cell? ⟨g1, 0, none⟩ = some (.string t) := (blk_cell BK1.out 0).trans rfl; have hx1 : w2.cell? ⟨g1, 1, none⟩ = some (.slice A1 ps.length c1) := (blk_cell BK1.out 1).trans rfl; have hx2 : w2.cell? ⟨g1, 2, none⟩ = some (.slice A2 ns.length c2) := (blk_cell BK1.out 2).trans rfl))
  refine (lent_calls t A1 c1 ps A2 c2 ns _ (Kd.C_below HR1.out HB.out) HC1.out HN1.out hb1 (Kd.C_below HR2.out HB.out) HC2.out HN2.out hb2).mono ?_
  rintro e w3 ⟨A, B, rfl, hL1, hL2, hb⟩
  have HL1 := Aside0.mk hL1
  have HL2 := Aside0.mk hL2
  have n1_ := Aside0.mk (blk_below BK1.out hb)
  have n2_ := Aside0.mk (below_step HB.out hb)
  have n3_ := Aside0.mk (blk_below BL1.out hb)
  clear BK1 BL1 HB hx0 hx1 hx2 hL1 hL2 hb
  go_upto_region 2 with (fail)
  have b2_ := blk_new w3 (.cells #[.string t, .slice A ps.length (ps.length + 2), .slice B ns.length (ns.length + 2)] 27)
  have ba := below_alloc (Below.refl w3.heap.size w3) (.cells #[.string t, .slice A ps.length (ps.length + 2), .slice B ns.length (ns.length + 2)] 27)
  generalize w3.alloc (.cells #[.string t, .slice A ps.length (ps.length + 2), .slice B ns.length (ns.length + 2)] 27) = w4 at b2_ ba ⊢
  generalize w3.heap.size = g2 at b2_ ⊢
  have BK1 := Aside0.mk (blk_below n1_.out ba)
  have BL1 := Aside0.mk (blk_below n3_.out ba)
  have HB := Aside0.mk (below_step n2_.out ba)
  have M1 := Aside0.mk (Kd.C_below HL1.out ba)
  have M2 := Aside0.mk (Kd.C_below HL2.out ba)
  have BK2 := Aside0.mk b2_
  clear n1_ n2_ n3_ HL1 HL2 ba b2_
  have hx0 : w4.cell? ⟨h1, 0, none⟩ = some (.string s) := (blk_cell BL1.out 0).trans rfl
  have hx1 : w4.cell? ⟨h1, 1, none⟩ = some (.slice A3 qs.length c3) := (blk_cell BL1.out 1).trans rfl
  have hx2 : w4.cell? ⟨h1, 2, none⟩ = some (.slice A4 ms.length c4) := (blk_cell BL1.out 2).trans rfl
  go_wp2_with (fail)
  refine (lent_calls s A3 c3 qs A4 c4 ms _ (Kd.C_below HR3.out HB.out) HC3.out HN3.out hb3 (Kd.C_below HR4.out HB.out) HC4.out HN4.out hb4).mono ?_
  rintro e w5 ⟨C, D, rfl, hL3, hL4, hb⟩
  have HL3 := Aside0.mk hL3
  have HL4 := Aside0.mk hL4
  have hH : Hold t A1 A2 A B c1 c2 ps ns g1 g2 w w5 := ⟨blk_below BK1.out hb, blk_below BK2.out hb, Kd.C_below (Kd.C_below HR1.out HB.out) hb, Kd.C_below (Kd.C_below HR2.out HB.out) hb, Kd.C_below M1.out hb, Kd.C_below M2.out hb, below_step HB.out hb⟩
  have n3_ := Aside0.mk (blk_below BL1.out hb)
  have H5 := Aside0.mk hH
  clear BK1 BK2 BL1 M1 M2 HB hx0 hx1 hx2 hL3 hL4 hb hH
  go_upto_region 3 with (fail)
  have b2_ := blk_new w5 (.cells #[.string s, .slice C qs.length (qs.length + 2), .slice D ms.length (ms.length + 2)] 27)
  have ba := below_alloc (Below.refl w5.heap.size w5) (.cells #[.string s, .slice C qs.length (qs.length + 2), .slice D ms.length (ms.length + 2)] 27)
  generalize w5.alloc (.cells #[.string s, .slice C qs.length (qs.length + 2), .slice D ms.length (ms.length + 2)] 27) = w6 at b2_ ba ⊢
  generalize w5.heap.size = h2 at b2_ ⊢
  have hH : Hold t A1 A2 A B c1 c2 ps ns g1 g2 w w6 := Hold.below H5.out ba
  have hG : Hold s A3 A4 C D c3 c4 qs ms h1 h2 w w6 := ⟨blk_below n3_.out ba, b2_, Kd.C_below (Kd.C_below HR3.out H5.out.be) ba, Kd.C_below (Kd.C_below HR4.out H5.out.be) ba, Kd.C_below HL3.out ba, Kd.C_below HL4.out ba, below_step H5.out.be ba⟩
  clear H5 n3_ HL3 HL4 ba b2_
  refine start_ (n := 30) (S := fun w' => Hold t A1 A2 A B c1 c2 ps ns g1 g2 w w' ∧ Hold s A3 A4 C D c3 c4 qs ms h1 h2 w w') (ds := []) #[false, false, false, false, false, false, false, false, false, false, false, false, false, false, false, false, false, false, false, false, false, false, false, false, false, false, false, false, false, false] (by kernel_rfl) rfl rfl ⟨hH.drew, hG.drew⟩ (fun hHeld => ?_)
  refine with_tabW sames_walk.tab3 sames_walk.bits3 (fun HT_ HW_ => ?_)
  generalize w6.drew = wa at hHeld ⊢
  refine pure_ (i := 0) (N := some 11) (v := ?_) (a' := ?_) #[true, false, false, false, false, false, false, false, false, false, false, false, false, false, false, false, false, false, false, false, false, false, false, false, false, false, false, false, false, false] rfl rfl (any_of HT_.out (by kernel_rfl)) (fun _ _ _ h => h) (Or.inl ⟨by rfl, ?_⟩) ?_ ?_
  rotate_left
  · intro w'
    go_simp
    with_reducible rfl
  rotate_left
  · simp only [Act.put, List.setIfInBounds_toArray, List.set_cons_zero, List.set_cons_succ, i64_w, i32_w]
    rfl
  refine pure_ (i := 2) (N := some 13) (v := ?_) (a' := ?_) #[true, false, true, false, false, false, false, false, false, false, false, false, false, false, false, false, false, false, false, false, false, false, false, false, false, false, false, false, false, false] rfl rfl (any_of HT_.out (by kernel_rfl)) (fun _ _ _ h => h) (Or.inl ⟨by rfl, ?_⟩) ?_ ?_
  rotate_left
  · intro w'
    go_simp
    with_reducible rfl
  rotate_left
  · simp only [Act.put, List.setIfInBounds_toArray, List.set_cons_zero, List.set_cons_succ, i64_w, i32_w]
    rfl
  refine pure_ (i := 4) (N := some 15) (v := ?_) (a' := ?_) #[true, false, true, false, true, false, false, false, false, false, false, false, false, false, false, false, false, false, false, false, false, false, false, false, false, false, false, false, false, false] rfl rfl (any_of HT_.out (by kernel_rfl)) (fun _ _ _ h => h) (Or.inl ⟨by rfl, ?_⟩) ?_ ?_
  rotate_left
  · intro w'
    go_simp
    with_reducible rfl
  rotate_left
  · simp only [Act.put, List.setIfInBounds_toArray, List.set_cons_zero, List.set_cons_succ, i64_w, i32_w]
    rfl
  refine pure_ (i := 6) (N := some 17) (v := ?_) (a' := ?_) #[true, false, true, false, true, false, true, false, false, false, false, false, false, false, false, false, false, false, false, false, false, false, false, false, false, false, false, false, false, false] rfl rfl (any_of HT_.out (by kernel_rfl)) (fun _ _ _ h => h) (Or.inl ⟨by rfl, ?_⟩) ?_ ?_
  rotate_left
  · intro w'
    go_simp
    with_reducible rfl
  rotate_left
  · simp only [Act.put, List.setIfInBounds_toArray, List.set_cons_zero, List.set_cons_succ, i64_w, i32_w]
    rfl
  refine pure_ (i := 9) (N := some 20) (v := ?_) (a' := ?_) #[true, false, true, false, true, false, true, false, false, true, false, false, false, false, false, false, false, false, false, false, false, false, false, false, false, false, false, false, false, false] rfl rfl (any_of HT_.out (by kernel_rfl)) (fun _ _ _ h => h) (Or.inl ⟨by rfl, ?_⟩) ?_ ?_
  rotate_left
  · intro w'
    go_simp
    with_reducible rfl
  rotate_left
  · simp only [Act.put, List.setIfInBounds_toArray, List.set_cons_zero, List.set_cons_succ, i64_w, i32_w]
    rfl
  refine pure_ (i := 11) (N := some 22) (v := ?_) (a' := ?_) #[true, false, true, false, true, false, true, false, false, true, false, true, false, false, false, false, false, false, false, false, false, false, false, false, false, false, false, false, false, false] rfl rfl (any_of HT_.out (by kernel_rfl)) (fun _ _ _ h => h) (Or.inl ⟨by rfl, ?_⟩) ?_ ?_
  rotate_left
  · intro w'
    go_simp
    with_reducible rfl
  rotate_left
  · simp only [Act.put, List.setIfInBounds_toArray, List.set_cons_zero, List.set_cons_succ, i64_w, i32_w]
    rfl
  refine pure_ (i := 13) (N := some 24) (v := ?_) (a' := ?_) #[true, false, true, false, true, false, true, false, false, true, false, true, false, true, false, false, false, false, false, false, false, false, false, false, false, false, false, false, false, false] rfl rfl (any_of HT_.out (by kernel_rfl)) (fun _ _ _ h => h) (Or.inl ⟨by rfl, ?_⟩) ?_ ?_
  rotate_left
  · intro w'
    go_simp
    with_reducible rfl
  rotate_left
  · simp only [Act.put, List.setIfInBounds_toArray, List.set_cons_zero, List.set_cons_succ, i64_w, i32_w]
    rfl
  refine pure_ (i := 15) (N := some 26) (v := ?_) (a' := ?_) #[true, false, true, false, true, false, true, false, false, true, false, true, false, true, false, true, false, false, false, false, false, false, false, false, false, false, false, false, false, false] rfl rfl (any_of HT_.out (by kernel_rfl)) (fun _ _ _ h => h) (Or.inl ⟨by rfl, ?_⟩) ?_ ?_
  rotate_left
  · intro w'
    go_simp
    with_reducible rfl
  rotate_left
  · simp only [Act.put, List.setIfInBounds_toArray, List.set_cons_zero, List.set_cons_succ, i64_w, i32_w]
    rfl
  refine take_ (i := 1) (N := some 12) (v := ?_) (a' := ?_) #[true, true, true, false, true, false, true, false, false, true, false, true, false, true, false, true, false, false, false, false, false, false, false, false, false, false, false, false, false, false] rfl rfl (take_ofW HT_.out HW_.out (by kernel_rfl)) (fun _ _ _ h => h) (Or.inl ⟨by rfl, ?_⟩) hHeld ?_ ?_
  rotate_left
  · intro w' hS
    have x0 : w'.cell? ⟨g1, 0, none⟩ = some (.string t) := (blk_cell hS.1.b1 0).trans rfl
    have x1 : w'.cell? ⟨g1, 1, none⟩ = some (.slice A1 ps.length c1) := (blk_cell hS.1.b1 1).trans rfl
    have x2 : w'.cell? ⟨g1, 2, none⟩ = some (.slice A2 ns.length c2) := (blk_cell hS.1.b1 2).trans rfl
    have y0 : w'.cell? ⟨g2, 0, none⟩ = some (.string t) := (blk_cell hS.1.b2 0).trans rfl
    have y1 : w'.cell? ⟨g2, 1, none⟩ = some (.slice A ps.length (ps.length + 2)) := (blk_cell hS.1.b2 1).trans rfl
    have y2 : w'.cell? ⟨g2, 2, none⟩ = some (.slice B ns.length (ns.length + 2)) := (blk_cell hS.1.b2 2).trans rfl
    have z0 : w'.cell? ⟨h1, 0, none⟩ = some (.string s) := (blk_cell hS.2.b1 0).trans rfl
    have z1 : w'.cell? ⟨h1, 1, none⟩ = some (.slice A3 qs.length c3) := (blk_cell hS.2.b1 1).trans rfl
    have z2 : w'.cell? ⟨h1, 2, none⟩ = some (.slice A4 ms.length c4) := (blk_cell hS.2.b1 2).trans rfl
    have v0 : w'.cell? ⟨h2, 0, none⟩ = some (.string s) := (blk_cell hS.2.b2 0).trans rfl
    have v1 : w'.cell? ⟨h2, 1, none⟩ = some (.slice C qs.length (qs.length + 2)) := (blk_cell hS.2.b2 1).trans rfl
    have v2 : w'.cell? ⟨h2, 2, none⟩ = some (.slice D ms.length (ms.length + 2)) := (blk_cell hS.2.b2 2).trans rfl
    clear hS
    go_simp
    with_reducible rfl
  rotate_left
  · simp only [Act.put, List.setIfInBounds_toArray, List.set_cons_zero, List.set_cons_succ, i64_w, i32_w]
    rfl
  refine take_ (i := 3) (N := some 14) (v := ?_) (a' := ?_) #[true, true, true, true, true, false, true, false, false, true, false, true, false, true, false, true, false, false, false, false, false, false, false, false, false, false, false, false, false, false] rfl rfl (take_ofW HT_.out HW_.out (by kernel_rfl)) (fun _ _ _ h => h) (Or.inl ⟨by rfl, ?_⟩) hHeld ?_ ?_
  rotate_left
  · intro w' hS
    have x0 : w'.cell? ⟨g1, 0, none⟩ = some (.string t) := (blk_cell hS.1.b1 0).trans rfl
    have x1 : w'.cell? ⟨g1, 1, none⟩ = some (.slice A1 ps.length c1) := (blk_cell hS.1.b1 1).trans rfl
    have x2 : w'.cell? ⟨g1, 2, none⟩ = some (.slice A2 ns.length c2) := (blk_cell hS.1.b1 2).trans rfl
    have y0 : w'.cell? ⟨g2, 0, none⟩ = some (.string t) := (blk_cell hS.1.b2 0).trans rfl
    have y1 : w'.cell? ⟨g2, 1, none⟩ = some (.slice A ps.length (ps.length + 2)) := (blk_cell hS.1.b2 1).trans rfl
    have y2 : w'.cell? ⟨g2, 2, none⟩ = some (.slice B ns.length (ns.length + 2)) := (blk_cell hS.1.b2 2).trans rfl
    have z0 : w'.cell? ⟨h1, 0, none⟩ = some (.string s) := (blk_cell hS.2.b1 0).trans rfl
    have z1 : w'.cell? ⟨h1, 1, none⟩ = some (.slice A3 qs.length c3) := (blk_cell hS.2.b1 1).trans rfl
    have z2 : w'.cell? ⟨h1, 2, none⟩ = some (.slice A4 ms.length c4) := (blk_cell hS.2.b1 2).trans rfl
    have v0 : w'.cell? ⟨h2, 0, none⟩ = some (.string s) := (blk_cell hS.2.b2 0).trans rfl
    have v1 : w'.cell? ⟨h2, 1, none⟩ = some (.slice C qs.length (qs.length + 2)) := (blk_cell hS.2.b2 1).trans rfl
    have v2 : w'.cell? ⟨h2, 2, none⟩ = some (.slice D ms.length (ms.length + 2)) := (blk_cell hS.2.b2 2).trans rfl
    clear hS
    go_simp
    with_reducible rfl
  rotate_left
  · simp only [Act.put, List.setIfInBounds_toArray, List.set_cons_zero, List.set_cons_succ, i64_w, i32_w]
    rfl
  refine take_ (i := 5) (N := some 16) (v := ?_) (a' := ?_) #[true, true, true, true, true, true, true, false, false, true, false, true, false, true, false, true, false, false, false, false, false, false, false, false, false, false, false, false, false, false] rfl rfl (take_ofW HT_.out HW_.out (by kernel_rfl)) (fun _ _ _ h => h) (Or.inl ⟨by rfl, ?_⟩) hHeld ?_ ?_
  rotate_left
  · intro w' hS
    have x0 : w'.cell? ⟨g1, 0, none⟩ = some (.string t) := (blk_cell hS.1.b1 0).trans rfl
    have x1 : w'.cell? ⟨g1, 1, none⟩ = some (.slice A1 ps.length c1) := (blk_cell hS.1.b1 1).trans rfl
    have x2 : w'.cell? ⟨g1, 2, none⟩ = some (.slice A2 ns.length c2) := (blk_cell hS.1.b1 2).trans rfl
    have y0 : w'.cell? ⟨g2, 0, none⟩ = some (.string t) := (blk_cell hS.1.b2 0).trans rfl
    have y1 : w'.cell? ⟨g2, 1, none⟩ = some (.slice A ps.length (ps.length + 2)) := (blk_cell hS.1.b2 1).trans rfl
    have y2 : w'.cell? ⟨g2, 2, none⟩ = some (.slice B ns.length (ns.length + 2)) := (blk_cell hS.1.b2 2).trans rfl
    have z0 : w'.cell? ⟨h1, 0, none⟩ = some (.string s) := (blk_cell hS.2.b1 0).trans rfl
    have z1 : w'.cell? ⟨h1, 1, none⟩ = some (.slice A3 qs.length c3) := (blk_cell hS.2.b1 1).trans rfl
    have z2 : w'.cell? ⟨h1, 2, none⟩ = some (.slice A4 ms.length c4) := (blk_cell hS.2.b1 2).trans rfl
    have v0 : w'.cell? ⟨h2, 0, none⟩ = some (.string s) := (blk_cell hS.2.b2 0).trans rfl
    have v1 : w'.cell? ⟨h2, 1, none⟩ = some (.slice C qs.length (qs.length + 2)) := (blk_cell hS.2.b2 1).trans rfl
    have v2 : w'.cell? ⟨h2, 2, none⟩ = some (.slice D ms.length (ms.length + 2)) := (blk_cell hS.2.b2 2).trans rfl
    clear hS
    go_simp
    with_reducible rfl
  rotate_left
  · simp only [Act.put, List.setIfInBounds_toArray, List.set_cons_zero, List.set_cons_succ, i64_w, i32_w]
    rfl
  refine take_ (i := 7) (N := some 18) (v := ?_) (a' := ?_) #[true, true, true, true, true, true, true, true, false, true, false, true, false, true, false, true, false, false, false, false, false, false, false, false, false, false, false, false, false, false] rfl rfl (take_ofW HT_.out HW_.out (by kernel_rfl)) (fun _ _ _ h => h) (Or.inl ⟨by rfl, ?_⟩) hHeld ?_ ?_
  rotate_left
  · intro w' hS
    have x0 : w'.cell? ⟨g1, 0, none⟩ = some (.string t) := (blk_cell hS.1.b1 0).trans rfl
    have x1 : w'.cell? ⟨g1, 1, none⟩ = some (.slice A1 ps.length c1) := (blk_cell hS.1.b1 1).trans rfl
    have x2 : w'.cell? ⟨g1, 2, none⟩ = some (.slice A2 ns.length c2) := (blk_cell hS.1.b1 2).trans rfl
    have y0 : w'.cell? ⟨g2, 0, none⟩ = some (.string t) := (blk_cell hS.1.b2 0).trans rfl
    have y1 : w'.cell? ⟨g2, 1, none⟩ = some (.slice A ps.length (ps.length + 2)) := (blk_cell hS.1.b2 1).trans rfl
    have y2 : w'.cell? ⟨g2, 2, none⟩ = some (.slice B ns.length (ns.length + 2)) := (blk_cell hS.1.b2 2).trans rfl
    have z0 : w'.cell? ⟨h1, 0, none⟩ = some (.string s) := (blk_cell hS.2.b1 0).trans rfl
    have z1 : w'.cell? ⟨h1, 1, none⟩ = some (.slice A3 qs.length c3) := (blk_cell hS.2.b1 1).trans rfl
    have z2 : w'.cell? ⟨h1, 2, none⟩ = some (.slice A4 ms.length c4) := (blk_cell hS.2.b1 2).trans rfl
    have v0 : w'.cell? ⟨h2, 0, none⟩ = some (.string s) := (blk_cell hS.2.b2 0).trans rfl
    have v1 : w'.cell? ⟨h2, 1, none⟩ = some (.slice C qs.length (qs.length + 2)) := (blk_cell hS.2.b2 1).trans rfl
    have v2 : w'.cell? ⟨h2, 2, none⟩ = some (.slice D ms.length (ms.length + 2)) := (blk_cell hS.2.b2 2).trans rfl
    clear hS
    go_simp
    with_reducible rfl
  rotate_left
  · simp only [Act.put, List.setIfInBounds_toArray, List.set_cons_zero, List.set_cons_succ, i64_w, i32_w]
    rfl
  refine take_ (i := 10) (N := some 21) (v := ?_) (a' := ?_) #[true, true, true, true, true, true, true, true, false, true, true, true, false, true, false, true, false, false, false, false, false, false, false, false, false, false, false, false, false, false] rfl rfl (take_ofW HT_.out HW_.out (by kernel_rfl)) (fun _ _ _ h => h) (Or.inl ⟨by rfl, ?_⟩) hHeld ?_ ?_
  rotate_left
  · intro w' hS
    have x0 : w'.cell? ⟨g1, 0, none⟩ = some (.string t) := (blk_cell hS.1.b1 0).trans rfl
    have x1 : w'.cell? ⟨g1, 1, none⟩ = some (.slice A1 ps.length c1) := (blk_cell hS.1.b1 1).trans rfl
    have x2 : w'.cell? ⟨g1, 2, none⟩ = some (.slice A2 ns.length c2) := (blk_cell hS.1.b1 2).trans rfl
    have y0 : w'.cell? ⟨g2, 0, none⟩ = some (.string t) := (blk_cell hS.1.b2 0).trans rfl
    have y1 : w'.cell? ⟨g2, 1, none⟩ = some (.slice A ps.length (ps.length + 2)) := (blk_cell hS.1.b2 1).trans rfl
    have y2 : w'.cell? ⟨g2, 2, none⟩ = some (.slice B ns.length (ns.length + 2)) := (blk_cell hS.1.b2 2).trans rfl
    have z0 : w'.cell? ⟨h1, 0, none⟩ = some (.string s) := (blk_cell hS.2.b1 0).trans rfl
    have z1 : w'.cell? ⟨h1, 1, none⟩ = some (.slice A3 qs.length c3) := (blk_cell hS.2.b1 1).trans rfl
    have z2 : w'.cell? ⟨h1, 2, none⟩ = some (.slice A4 ms.length c4) := (blk_cell hS.2.b1 2).trans rfl
    have v0 : w'.cell? ⟨h2, 0, none⟩ = some (.string s) := (blk_cell hS.2.b2 0).trans rfl
    have v1 : w'.cell? ⟨h2, 1, none⟩ = some (.slice C qs.length (qs.length + 2)) := (blk_cell hS.2.b2 1).trans rfl
    have v2 : w'.cell? ⟨h2, 2, none⟩ = some (.slice D ms.length (ms.length + 2)) := (blk_cell hS.2.b2 2).trans rfl
    clear hS
    go_simp
    with_reducible rfl
  rotate_left
  · simp only [Act.put, List.setIfInBounds_toArray, List.set_cons_zero, List.set_cons_succ, i64_w, i32_w]
    rfl
  refine take_ (i := 12) (N := some 23) (v := ?_) (a' := ?_) #[true, true, true, true, true, true, true, true, false, true, true, true, true, true, false, true, false, false, false, false, false, false, false, false, false, false, false, false, false, false] rfl rfl (take_ofW HT_.out HW_.out (by kernel_rfl)) (fun _ _ _ h => h) (Or.inl ⟨by rfl, ?_⟩) hHeld ?_ ?_
  rotate_left
  · intro w' hS
    have x0 : w'.cell? ⟨g1, 0, none⟩ = some (.string t) := (blk_cell hS.1.b1 0).trans rfl
    have x1 : w'.cell? ⟨g1, 1, none⟩ = some (.slice A1 ps.length c1) := (blk_cell hS.1.b1 1).trans rfl
    have x2 : w'.cell? ⟨g1, 2, none⟩ = some (.slice A2 ns.length c2) := (blk_cell hS.1.b1 2).trans rfl
    have y0 : w'.cell? ⟨g2, 0, none⟩ = some (.string t) := (blk_cell hS.1.b2 0).trans rfl
    have y1 : w'.cell? ⟨g2, 1, none⟩ = some (.slice A ps.length (ps.length + 2)) := (blk_cell hS.1.b2 1).trans rfl
    have y2 : w'.cell? ⟨g2, 2, none⟩ = some (.slice B ns.length (ns.length + 2)) := (blk_cell hS.1.b2 2).trans rfl
    have z0 : w'.cell? ⟨h1, 0, none⟩ = some (.string s) := (blk_cell hS.2.b1 0).trans rfl
    have z1 : w'.cell? ⟨h1, 1, none⟩ = some (.slice A3 qs.length c3) := (blk_cell hS.2.b1 1).trans rfl
    have z2 : w'.cell? ⟨h1, 2, none⟩ = some (.slice A4 ms.length c4) := (blk_cell hS.2.b1 2).trans rfl
    have v0 : w'.cell? ⟨h2, 0, none⟩ = some (.string s) := (blk_cell hS.2.b2 0).trans rfl
    have v1 : w'.cell? ⟨h2, 1, none⟩ = some (.slice C qs.length (qs.length + 2)) := (blk_cell hS.2.b2 1).trans rfl
    have v2 : w'.cell? ⟨h2, 2, none⟩ = some (.slice D ms.length (ms.length + 2)) := (blk_cell hS.2.b2 2).trans rfl
    clear hS
    go_simp
    with_reducible rfl
  rotate_left
  · simp only [Act.put, List.setIfInBounds_toArray, List.set_cons_zero, List.set_cons_succ, i64_w, i32_w]
    rfl
  refine take_ (i := 14) (N := some 25) (v := ?_) (a' := ?_) #[true, true, true, true, true, true, true, true, false, true, true, true, true, true, true, true, false, false, false, false, false, false, false, false, false, false, false, false, false, false] rfl rfl (take_ofW HT_.out HW_.out (by kernel_rfl)) (fun _ _ _ h => h) (Or.inl ⟨by rfl, ?_⟩) hHeld ?_ ?_
  rotate_left
  · intro w' hS
    have x0 : w'.cell? ⟨g1, 0, none⟩ = some (.string t) := (blk_cell hS.1.b1 0).trans rfl
    have x1 : w'.cell? ⟨g1, 1, none⟩ = some (.slice A1 ps.length c1) := (blk_cell hS.1.b1 1).trans rfl
    have x2 : w'.cell? ⟨g1, 2, none⟩ = some (.slice A2 ns.length c2) := (blk_cell hS.1.b1 2).trans rfl
    have y0 : w'.cell? ⟨g2, 0, none⟩ = some (.string t) := (blk_cell hS.1.b2 0).trans rfl
    have y1 : w'.cell? ⟨g2, 1, none⟩ = some (.slice A ps.length (ps.length + 2)) := (blk_cell hS.1.b2 1).trans rfl
    have y2 : w'.cell? ⟨g2, 2, none⟩ = some (.slice B ns.length (ns.length + 2)) := (blk_cell hS.1.b2 2).trans rfl
    have z0 : w'.cell? ⟨h1, 0, none⟩ = some (.string s) := (blk_cell hS.2.b1 0).trans rfl
    have z1 : w'.cell? ⟨h1, 1, none⟩ = some (.slice A3 qs.length c3) := (blk_cell hS.2.b1 1).trans rfl
    have z2 : w'.cell? ⟨h1, 2, none⟩ = some (.slice A4 ms.length c4) := (blk_cell hS.2.b1 2).trans rfl
    have v0 : w'.cell? ⟨h2, 0, none⟩ = some (.string s) := (blk_cell hS.2.b2 0).trans rfl
    have v1 : w'.cell? ⟨h2, 1, none⟩ = some (.slice C qs.length (qs.length + 2)) := (blk_cell hS.2.b2 1).trans rfl
    have v2 : w'.cell? ⟨h2, 2, none⟩ = some (.slice D ms.length (ms.length + 2)) := (blk_cell hS.2.b2 2).trans rfl
    clear hS
    go_simp
    with_reducible rfl
  rotate_left
  · simp only [Act.put, List.setIfInBounds_toArray, List.set_cons_zero, List.set_cons_succ, i64_w, i32_w]
    rfl
  refine take_ (i := 16) (N := some 27) (v := ?_) (a' := ?_) #[true, true, true, true, true, true, true, true, false, true, true, true, true, true, true, true, true, false, false, false, false, false, false, false, false, false, false, false, false, false] rfl rfl (take_ofW HT_.out HW_.out (by kernel_rfl)) (fun _ _ _ h => h) (Or.inl ⟨by rfl, ?_⟩) hHeld ?_ ?_
  rotate_left
  · intro w' hS
    have x0 : w'.cell? ⟨g1, 0, none⟩ = some (.string t) := (blk_cell hS.1.b1 0).trans rfl
    have x1 : w'.cell? ⟨g1, 1, none⟩ = some (.slice A1 ps.length c1) := (blk_cell hS.1.b1 1).trans rfl
    have x2 : w'.cell? ⟨g1, 2, none⟩ = some (.slice A2 ns.length c2) := (blk_cell hS.1.b1 2).trans rfl
    have y0 : w'.cell? ⟨g2, 0, none⟩ = some (.string t) := (blk_cell hS.1.b2 0).trans rfl
    have y1 : w'.cell? ⟨g2, 1, none⟩ = some (.slice A ps.length (ps.length + 2)) := (blk_cell hS.1.b2 1).trans rfl
    have y2 : w'.cell? ⟨g2, 2, none⟩ = some (.slice B ns.length (ns.length + 2)) := (blk_cell hS.1.b2 2).trans rfl
    have z0 : w'.cell? ⟨h1, 0, none⟩ = some (.string s) := (blk_cell hS.2.b1 0).trans rfl
    have z1 : w'.cell? ⟨h1, 1, none⟩ = some (.slice A3 qs.length c3) := (blk_cell hS.2.b1 1).trans rfl
    have z2 : w'.cell? ⟨h1, 2, none⟩ = some (.slice A4 ms.length c4) := (blk_cell hS.2.b1 2).trans rfl
    have v0 : w'.cell? ⟨h2, 0, none⟩ = some (.string s) := (blk_cell hS.2.b2 0).trans rfl
    have v1 : w'.cell? ⟨h2, 1, none⟩ = some (.slice C qs.length (qs.length + 2)) := (blk_cell hS.2.b2 1).trans rfl
    have v2 : w'.cell? ⟨h2, 2, none⟩ = some (.slice D ms.length (ms.length + 2)) := (blk_cell hS.2.b2 2).trans rfl
    clear hS
    go_simp
    with_reducible rfl
  rotate_left
  · simp only [Act.put, List.setIfInBounds_toArray, List.set_cons_zero, List.set_cons_succ, i64_w, i32_w]
    rfl
  refine one_ (i := 8) (N := some 19) #[true, true, true, true, true, true, true, true, true, true, true, true, true, true, true, true, true, false, false, false, false, false, false, false, false, false, false, false, false, false] rfl rfl (one_of HT_.out (by kernel_rfl)) (by decide) (fun K hK => ?_)
  refine goes_ Try.func33 (by kernel_rfl) rfl #[.slice A ps.length (ps.length + 2), .agg #[.slice B ns.length (ns.length + 2)], .slice C qs.length (qs.length + 2), .agg #[.slice D ms.length (ms.length + 2)]] (by rfl) rfl rfl (by (try simp only [List.map_toArray, List.map_cons, List.map_nil]); first | done | rfl) ?_
  refine (tree_Same.calls k A (ps.length + 2) ps B (ns.length + 2) ns C (qs.length + 2) qs D (ms.length + 2) ms r _ (C_lent61 hHeld.1.l1) (by omega) (C_lent47 hHeld.1.l2) (by omega) (C_lent61 hHeld.2.l1) (by omega) (C_lent47 hHeld.2.l2) (by omega) HK.out).mono ?_
  rintro e w' ⟨rfl, hb⟩
  refine ⟨_, rfl, ?_⟩
  have hH : Hold t A1 A2 A B c1 c2 ps ns g1 g2 w w' ∧ Hold s A3 A4 C D c3 c4 qs ms h1 h2 w w' := ⟨Hold.below hHeld.1 hb, Hold.below hHeld.2 hb⟩
  clear hHeld hb
  refine hK.out _ _ hH (fun hHeld => ?_)
  clear hH
  clear hK K
  refine norm_ (a' := ?_) ?_ ?_
  rotate_left
  · show Act.put _ (some 19) _ = _
    simp only [Act.put, List.setIfInBounds_toArray, List.set_cons_zero, List.set_cons_succ, i64_w, i32_w]
    rfl
  refine one_ (i := 17) (N := some 28) #[true, true, true, true, true, true, true, true, true, true, true, true, true, true, true, true, true, true, false, false, false, false, false, false, false, false, false, false, false, false] rfl rfl (one_of HT_.out (by kernel_rfl)) (by decide) (fun K hK => ?_)
  refine goes_ Try.func34 (by kernel_rfl) rfl #[.slice A1 ps.length c1, .agg #[.slice A2 ns.length c2], .slice A3 qs.length c3, .agg #[.slice A4 ms.length c4]] (by rfl) rfl rfl (by (try simp only [List.map_toArray, List.map_cons, List.map_nil]); first | done | rfl) ?_
  refine (monikerref4_Same.calls k' A1 c1 ps A2 c2 ns A3 c3 qs A4 c4 ms r _ hHeld.1.r1 HC1.out hHeld.1.r2 HC2.out hHeld.2.r1 HC3.out hHeld.2.r2 HC4.out HK'.out).mono ?_
  rintro e w' ⟨rfl, hb⟩
  refine ⟨_, rfl, ?_⟩
  have hH : Hold t A1 A2 A B c1 c2 ps ns g1 g2 w w' ∧ Hold s A3 A4 C D c3 c4 qs ms h1 h2 w w' := ⟨Hold.below hHeld.1 hb, Hold.below hHeld.2 hb⟩
  clear hHeld hb
  refine hK.out _ _ hH (fun hHeld => ?_)
  clear hH
  clear hK K
  refine norm_ (a' := ?_) ?_ ?_
  rotate_left
  · show Act.put _ (some 28) _ = _
    simp only [Act.put, List.setIfInBounds_toArray, List.set_cons_zero, List.set_cons_succ, i64_w, i32_w]
    rfl
  refine pure_ (i := 18) (N := some 29) (v := ?_) (a' := ?_) #[true, true, true, true, true, true, true, true, true, true, true, true, true, true, true, true, true, true, true, false, false, false, false, false, false, false, false, false, false, false] rfl rfl (any_of HT_.out (by kernel_rfl)) (fun _ _ _ h => h) (Or.inl ⟨by rfl, ?_⟩) ?_ ?_
  rotate_left
  · intro w'
    go_simp
    with_reducible rfl
  rotate_left
  · simp only [Act.put, List.setIfInBounds_toArray, List.set_cons_zero, List.set_cons_succ, i64_w, i32_w]
    rfl
  refine pure_ (i := 19) (N := some 30) (v := ?_) (a' := ?_) #[true, true, true, true, true, true, true, true, true, true, true, true, true, true, true, true, true, true, true, true, false, false, false, false, false, false, false, false, false, false] rfl rfl (any_of HT_.out (by kernel_rfl)) (fun _ _ _ h => h) (Or.inl ⟨by rfl, ?_⟩) ?_ ?_
  rotate_left
  · intro w'
    go_simp
    with_reducible rfl
  rotate_left
  · simp only [Act.put, List.setIfInBounds_toArray, List.set_cons_zero, List.set_cons_succ, i64_w, i32_w]
    rfl
  refine take_ (i := 20) (N := some 31) (v := ?_) (a' := ?_) #[true, true, true, true, true, true, true, true, true, true, true, true, true, true, true, true, true, true, true, true, true, false, false, false, false, false, false, false, false, false] rfl rfl (take_ofW HT_.out HW_.out (by kernel_rfl)) (fun _ _ _ h => h) (Or.inl ⟨by rfl, ?_⟩) hHeld ?_ ?_
  rotate_left
  · intro w' hS
    have x0 : w'.cell? ⟨g1, 0, none⟩ = some (.string t) := (blk_cell hS.1.b1 0).trans rfl
    have x1 : w'.cell? ⟨g1, 1, none⟩ = some (.slice A1 ps.length c1) := (blk_cell hS.1.b1 1).trans rfl
    have x2 : w'.cell? ⟨g1, 2, none⟩ = some (.slice A2 ns.length c2) := (blk_cell hS.1.b1 2).trans rfl
    have y0 : w'.cell? ⟨g2, 0, none⟩ = some (.string t) := (blk_cell hS.1.b2 0).trans rfl
    have y1 : w'.cell? ⟨g2, 1, none⟩ = some (.slice A ps.length (ps.length + 2)) := (blk_cell hS.1.b2 1).trans rfl
    have y2 : w'.cell? ⟨g2, 2, none⟩ = some (.slice B ns.length (ns.length + 2)) := (blk_cell hS.1.b2 2).trans rfl
    have z0 : w'.cell? ⟨h1, 0, none⟩ = some (.string s) := (blk_cell hS.2.b1 0).trans rfl
    have z1 : w'.cell? ⟨h1, 1, none⟩ = some (.slice A3 qs.length c3) := (blk_cell hS.2.b1 1).trans rfl
    have z2 : w'.cell? ⟨h1, 2, none⟩ = some (.slice A4 ms.length c4) := (blk_cell hS.2.b1 2).trans rfl
    have v0 : w'.cell? ⟨h2, 0, none⟩ = some (.string s) := (blk_cell hS.2.b2 0).trans rfl
    have v1 : w'.cell? ⟨h2, 1, none⟩ = some (.slice C qs.length (qs.length + 2)) := (blk_cell hS.2.b2 1).trans rfl
    have v2 : w'.cell? ⟨h2, 2, none⟩ = some (.slice D ms.length (ms.length + 2)) := (blk_cell hS.2.b2 2).trans rfl
    clear hS
    go_simp
    with_reducible rfl
  rotate_left
  · simp only [Act.put, List.setIfInBounds_toArray, List.set_cons_zero, List.set_cons_succ, i64_w, i32_w]
    rfl
  refine take_ (i := 21) (N := some 32) (v := ?_) (a' := ?_) #[true, true, true, true, true, true, true, true, true, true, true, true, true, true, true, true, true, true, true, true, true, true, false, false, false, false, false, false, false, false] rfl rfl (take_ofW HT_.out HW_.out (by kernel_rfl)) (fun _ _ _ h => h) (Or.inl ⟨by rfl, ?_⟩) hHeld ?_ ?_
  rotate_left
  · intro w' hS
    have x0 : w'.cell? ⟨g1, 0, none⟩ = some (.string t) := (blk_cell hS.1.b1 0).trans rfl
    have x1 : w'.cell? ⟨g1, 1, none⟩ = some (.slice A1 ps.length c1) := (blk_cell hS.1.b1 1).trans rfl
    have x2 : w'.cell? ⟨g1, 2, none⟩ = some (.slice A2 ns.length c2) := (blk_cell hS.1.b1 2).trans rfl
    have y0 : w'.cell? ⟨g2, 0, none⟩ = some (.string t) := (blk_cell hS.1.b2 0).trans rfl
    have y1 : w'.cell? ⟨g2, 1, none⟩ = some (.slice A ps.length (ps.length + 2)) := (blk_cell hS.1.b2 1).trans rfl
    have y2 : w'.cell? ⟨g2, 2, none⟩ = some (.slice B ns.length (ns.length + 2)) := (blk_cell hS.1.b2 2).trans rfl
    have z0 : w'.cell? ⟨h1, 0, none⟩ = some (.string s) := (blk_cell hS.2.b1 0).trans rfl
    have z1 : w'.cell? ⟨h1, 1, none⟩ = some (.slice A3 qs.length c3) := (blk_cell hS.2.b1 1).trans rfl
    have z2 : w'.cell? ⟨h1, 2, none⟩ = some (.slice A4 ms.length c4) := (blk_cell hS.2.b1 2).trans rfl
    have v0 : w'.cell? ⟨h2, 0, none⟩ = some (.string s) := (blk_cell hS.2.b2 0).trans rfl
    have v1 : w'.cell? ⟨h2, 1, none⟩ = some (.slice C qs.length (qs.length + 2)) := (blk_cell hS.2.b2 1).trans rfl
    have v2 : w'.cell? ⟨h2, 2, none⟩ = some (.slice D ms.length (ms.length + 2)) := (blk_cell hS.2.b2 2).trans rfl
    clear hS
    go_simp
    with_reducible rfl
  rotate_left
  · simp only [Act.put, List.setIfInBounds_toArray, List.set_cons_zero, List.set_cons_succ, i64_w, i32_w]
    rfl
  refine one_ (i := 22) (N := some 33) #[true, true, true, true, true, true, true, true, true, true, true, true, true, true, true, true, true, true, true, true, true, true, true, false, false, false, false, false, false, false] rfl rfl (one_of HT_.out (by kernel_rfl)) (by decide) (fun K hK => ?_)
  refine goes_ Try.func21 (by kernel_rfl) rfl #[.agg #[.string t, .slice A ps.length (ps.length + 2), .slice B ns.length (ns.length + 2)], .agg #[.string t, .slice A1 ps.length c1, .slice A2 ns.length c2]] (by rfl) rfl rfl (by (try simp only [List.map_toArray, List.map_cons, List.map_nil]); first | done | rfl) ?_
  refine (kept_calls t t A B A1 A2 c1 c2 ps ns _ hHeld.1.l1 hHeld.1.l2 hHeld.1.r1 HC1.out hHeld.1.r2 HC2.out (by omega) (by omega)).mono ?_
  rintro e w' ⟨rfl, hb⟩
  refine ⟨_, rfl, ?_⟩
  have hH : Hold t A1 A2 A B c1 c2 ps ns g1 g2 w w' ∧ Hold s A3 A4 C D c3 c4 qs ms h1 h2 w w' := ⟨Hold.below hHeld.1 hb, Hold.below hHeld.2 hb⟩
  clear hHeld hb
  refine hK.out _ _ hH (fun hHeld => ?_)
  clear hH
  clear hK K
  refine norm_ (a' := ?_) ?_ ?_
  rotate_left
  · show Act.put _ (some 33) _ = _
    simp only [Act.put, List.setIfInBounds_toArray, List.set_cons_zero, List.set_cons_succ, i64_w, i32_w]
    rfl
  refine pure_ (i := 23) (N := some 34) (v := ?_) (a' := ?_) #[true, true, true, true, true, true, true, true, true, true, true, true, true, true, true, true, true, true, true, true, true, true, true, true, false, false, false, false, false, false] rfl rfl (any_of HT_.out (by kernel_rfl)) (fun _ _ _ h => h) (Or.inl ⟨by rfl, ?_⟩) ?_ ?_
  rotate_left
  · intro w'
    go_simp
    with_reducible rfl
  rotate_left
  · simp only [Act.put, List.setIfInBounds_toArray, List.set_cons_zero, List.set_cons_succ, i64_w, i32_w]
    rfl
  refine pure_ (i := 24) (N := some 35) (v := ?_) (a' := ?_) #[true, true, true, true, true, true, true, true, true, true, true, true, true, true, true, true, true, true, true, true, true, true, true, true, true, false, false, false, false, false] rfl rfl (any_of HT_.out (by kernel_rfl)) (fun _ _ _ h => h) (Or.inl ⟨by rfl, ?_⟩) ?_ ?_
  rotate_left
  · intro w'
    go_simp
    with_reducible rfl
  rotate_left
  · simp only [Act.put, List.setIfInBounds_toArray, List.set_cons_zero, List.set_cons_succ, i64_w, i32_w]
    rfl
  refine take_ (i := 25) (N := some 36) (v := ?_) (a' := ?_) #[true, true, true, true, true, true, true, true, true, true, true, true, true, true, true, true, true, true, true, true, true, true, true, true, true, true, false, false, false, false] rfl rfl (take_ofW HT_.out HW_.out (by kernel_rfl)) (fun _ _ _ h => h) (Or.inl ⟨by rfl, ?_⟩) hHeld ?_ ?_
  rotate_left
  · intro w' hS
    have x0 : w'.cell? ⟨g1, 0, none⟩ = some (.string t) := (blk_cell hS.1.b1 0).trans rfl
    have x1 : w'.cell? ⟨g1, 1, none⟩ = some (.slice A1 ps.length c1) := (blk_cell hS.1.b1 1).trans rfl
    have x2 : w'.cell? ⟨g1, 2, none⟩ = some (.slice A2 ns.length c2) := (blk_cell hS.1.b1 2).trans rfl
    have y0 : w'.cell? ⟨g2, 0, none⟩ = some (.string t) := (blk_cell hS.1.b2 0).trans rfl
    have y1 : w'.cell? ⟨g2, 1, none⟩ = some (.slice A ps.length (ps.length + 2)) := (blk_cell hS.1.b2 1).trans rfl
    have y2 : w'.cell? ⟨g2, 2, none⟩ = some (.slice B ns.length (ns.length + 2)) := (blk_cell hS.1.b2 2).trans rfl
    have z0 : w'.cell? ⟨h1, 0, none⟩ = some (.string s) := (blk_cell hS.2.b1 0).trans rfl
    have z1 : w'.cell? ⟨h1, 1, none⟩ = some (.slice A3 qs.length c3) := (blk_cell hS.2.b1 1).trans rfl
    have z2 : w'.cell? ⟨h1, 2, none⟩ = some (.slice A4 ms.length c4) := (blk_cell hS.2.b1 2).trans rfl
    have v0 : w'.cell? ⟨h2, 0, none⟩ = some (.string s) := (blk_cell hS.2.b2 0).trans rfl
    have v1 : w'.cell? ⟨h2, 1, none⟩ = some (.slice C qs.length (qs.length + 2)) := (blk_cell hS.2.b2 1).trans rfl
    have v2 : w'.cell? ⟨h2, 2, none⟩ = some (.slice D ms.length (ms.length + 2)) := (blk_cell hS.2.b2 2).trans rfl
    clear hS
    go_simp
    with_reducible rfl
  rotate_left
  · simp only [Act.put, List.setIfInBounds_toArray, List.set_cons_zero, List.set_cons_succ, i64_w, i32_w]
    rfl
  refine take_ (i := 26) (N := some 37) (v := ?_) (a' := ?_) #[true, true, true, true, true, true, true, true, true, true, true, true, true, true, true, true, true, true, true, true, true, true, true, true, true, true, true, false, false, false] rfl rfl (take_ofW HT_.out HW_.out (by kernel_rfl)) (fun _ _ _ h => h) (Or.inl ⟨by rfl, ?_⟩) hHeld ?_ ?_
  rotate_left
  · intro w' hS
    have x0 : w'.cell? ⟨g1, 0, none⟩ = some (.string t) := (blk_cell hS.1.b1 0).trans rfl
    have x1 : w'.cell? ⟨g1, 1, none⟩ = some (.slice A1 ps.length c1) := (blk_cell hS.1.b1 1).trans rfl
    have x2 : w'.cell? ⟨g1, 2, none⟩ = some (.slice A2 ns.length c2) := (blk_cell hS.1.b1 2).trans rfl
    have y0 : w'.cell? ⟨g2, 0, none⟩ = some (.string t) := (blk_cell hS.1.b2 0).trans rfl
    have y1 : w'.cell? ⟨g2, 1, none⟩ = some (.slice A ps.length (ps.length + 2)) := (blk_cell hS.1.b2 1).trans rfl
    have y2 : w'.cell? ⟨g2, 2, none⟩ = some (.slice B ns.length (ns.length + 2)) := (blk_cell hS.1.b2 2).trans rfl
    have z0 : w'.cell? ⟨h1, 0, none⟩ = some (.string s) := (blk_cell hS.2.b1 0).trans rfl
    have z1 : w'.cell? ⟨h1, 1, none⟩ = some (.slice A3 qs.length c3) := (blk_cell hS.2.b1 1).trans rfl
    have z2 : w'.cell? ⟨h1, 2, none⟩ = some (.slice A4 ms.length c4) := (blk_cell hS.2.b1 2).trans rfl
    have v0 : w'.cell? ⟨h2, 0, none⟩ = some (.string s) := (blk_cell hS.2.b2 0).trans rfl
    have v1 : w'.cell? ⟨h2, 1, none⟩ = some (.slice C qs.length (qs.length + 2)) := (blk_cell hS.2.b2 1).trans rfl
    have v2 : w'.cell? ⟨h2, 2, none⟩ = some (.slice D ms.length (ms.length + 2)) := (blk_cell hS.2.b2 2).trans rfl
    clear hS
    go_simp
    with_reducible rfl
  rotate_left
  · simp only [Act.put, List.setIfInBounds_toArray, List.set_cons_zero, List.set_cons_succ, i64_w, i32_w]
    rfl
  refine one_ (i := 27) (N := some 38) #[true, true, true, true, true, true, true, true, true, true, true, true, true, true, true, true, true, true, true, true, true, true, true, true, true, true, true, true, false, false] rfl rfl (one_of HT_.out (by kernel_rfl)) (by decide) (fun K hK => ?_)
  refine goes_ Try.func21 (by kernel_rfl) rfl #[.agg #[.string s, .slice C qs.length (qs.length + 2), .slice D ms.length (ms.length + 2)], .agg #[.string s, .slice A3 qs.length c3, .slice A4 ms.length c4]] (by rfl) rfl rfl (by (try simp only [List.map_toArray, List.map_cons, List.map_nil]); first | done | rfl) ?_
  refine (kept_calls s s C D A3 A4 c3 c4 qs ms _ hHeld.2.l1 hHeld.2.l2 hHeld.2.r1 HC3.out hHeld.2.r2 HC4.out (by omega) (by omega)).mono ?_
  rintro e w' ⟨rfl, hb⟩
  refine ⟨_, rfl, ?_⟩
  have hH : Hold t A1 A2 A B c1 c2 ps ns g1 g2 w w' ∧ Hold s A3 A4 C D c3 c4 qs ms h1 h2 w w' := ⟨Hold.below hHeld.1 hb, Hold.below hHeld.2 hb⟩
  clear hHeld hb
  refine hK.out _ _ hH (fun hHeld => ?_)
  clear hH
  clear hK K
  refine norm_ (a' := ?_) ?_ ?_
  rotate_left
  · show Act.put _ (some 38) _ = _
    simp only [Act.put, List.setIfInBounds_toArray, List.set_cons_zero, List.set_cons_succ, i64_w, i32_w]
    rfl
  refine pure_ (i := 28) (N := some 39) (v := ?_) (a' := ?_) #[true, true, true, true, true, true, true, true, true, true, true, true, true, true, true, true, true, true, true, true, true, true, true, true, true, true, true, true, true, false] rfl rfl (any_of HT_.out (by kernel_rfl)) (fun _ _ _ h => h) (Or.inl ⟨by rfl, ?_⟩) ?_ ?_
  rotate_left
  · intro w'
    go_simp
    with_reducible rfl
  rotate_left
  · simp only [Act.put, List.setIfInBounds_toArray, List.set_cons_zero, List.set_cons_succ, i64_w, i32_w]
    rfl
  refine pure_ (i := 29) (N := some 4) (v := ?_) (a' := ?_) #[true, true, true, true, true, true, true, true, true, true, true, true, true, true, true, true, true, true, true, true, true, true, true, true, true, true, true, true, true, true] rfl rfl (any_of HT_.out (by kernel_rfl)) (fun _ _ _ h => h) (Or.inl ⟨by rfl, ?_⟩) ?_ ?_
  rotate_left
  · intro w'
    go_simp
    with_reducible rfl
  rotate_left
  · simp only [Act.put, List.setIfInBounds_toArray, List.set_cons_zero, List.set_cons_succ, i64_w, i32_w]
    rfl
  refine done_ (done_of HT_.out (by kernel_rfl)) ?_
  go_wp2
  go_ret
  exact ⟨rfl, hHeld.1.be⟩
end Go.Proofs.Ytodldpdnhcafpaa.L


namespace Go.Proofs.Ytodldpdnhcafpaa.treeSames
open Go.ChangeShapes Go.WideShapes Go.ChangeAt Go.RowKit Go.Proofs.Ytodldpdnhcafpaa
open Go.ChangeMaps (open_string shut_string)
set_option linter.unusedVariables false
theorem own : ownKnob Try.prog.godebug = none := by kernel_rfl
theorem laidOut : laidOutB Try.prog = true := by kernel_rfl
set_option maxRecDepth 100000 in
theorem lifted (os : Os) (started : os.Started) (H : Type) (enc : TypeId × Value → H) :
    ReturnsInHanded {} Try.checked os 10 .any (Rows.treeSamesSpec.pre6 enc Try.prog Try.f10 Rows.treeSamesRow.domain false) (Rows.treeSamesSpec.post enc Try.prog Try.f10 false true false false) := by
  refine returnsInHanded_of_change_sized (C := Try.checked) own started (by kernel_rfl) Try.func10
    (ChangeSpec.witness6 (enc := enc) (C := Try.checked) false ⟨#[], #[.agg #[.string ByteArray.empty, .slice none 0 0, .slice none 0 0], .agg #[.string ByteArray.empty, .slice none 0 0, .slice none 0 0]], []⟩ 8 (by kernel_rfl) (by kernel_rfl) (by kernel_rfl) (by kernel_rfl)) ?_
  intro W base args ds gs before hval0 hW hcnd hsz0 _
  have hsz : (DataW.weightsEach Try.prog (Try.f10.params.toList ++ Rows.treeSamesSpec.plain.varTypes Try.prog) (ds ++ gs)).all (· ≤ reachBytes) = true := hsz0
  have hval : ∀ (j : Nat) t v, Try.f10.params[j]? = some t → args[j]? = some v → Value.okWide Try.prog W .any base t v := hval0
  have hW' := hW
  obtain ⟨p, q, hA0, hV, rfl, hfz, hnd⟩ := hW
  have hA : DataW.TrodAll enc Try.prog W 0 (fun _ => true) true Try.f10.params.toList args.toList ds p := hA0
  rw [Try.params10] at hA hval hsz
  obtain ⟨v0, vs0, d0, ds0, p0, q0, hargs, rfl, rfl, h0, r0⟩ := trodAll_cons hA
  obtain ⟨v1, vs1, d1, ds1, p1, q1, rfl, rfl, rfl, h1, r1⟩ := trodAll_cons r0
  obtain ⟨rfl, rfl, rfl⟩ := trodAll_nil r1
  obtain rfl : args = #[v0, v1] := by cases args; simp_all
  obtain ⟨rfl, rfl⟩ := trodVars_none hV
  have k0 := h0
  have lt0 : ∀ x ∈ p0, x.block < W.heap.size := by obtain ⟨m, hm⟩ := k0; exact DataW.trod_lt m _ _ _ hm
  have hq0 : ∀ n ∈ DataW.weights Try.prog 27 d0, n ≤ reachBytes := fun n hn => of_decide_eq_true (List.all_eq_true.1 hsz n (DataW.weights_mem_each (j := 0) rfl rfl n hn))
  obtain ⟨t0, A0, c0, l0, B0, e0, m0, rfl, hf0_0, hf0_1, hf0_2, hf0_3, hf0_4, hf0_5, hf0_6, hf0_7, hf0_8, hf0_9, hf0_10⟩ := Go.Proofs.Ytodldpdnhcafpaa.H.open27 (hval 0 27 v0 rfl rfl) h0 hq0
  have k1 := h1
  have lt1 : ∀ x ∈ p1, x.block < W.heap.size := by obtain ⟨m, hm⟩ := k1; exact DataW.trod_lt m _ _ _ hm
  have hq1 : ∀ n ∈ DataW.weights Try.prog 27 d1, n ≤ reachBytes := fun n hn => of_decide_eq_true (List.all_eq_true.1 hsz n (DataW.weights_mem_each (j := 1) rfl rfl n hn))
  obtain ⟨t1, A1, c1, l1, B1, e1, m1, rfl, hf1_0, hf1_1, hf1_2, hf1_3, hf1_4, hf1_5, hf1_6, hf1_7, hf1_8, hf1_9, hf1_10⟩ := Go.Proofs.Ytodldpdnhcafpaa.H.open27 (hval 1 27 v1 rfl rfl) h1 hq1
  clear hA0 hval0 hsz0 hsz
  refine (L.sames_walk t0 A0 c0 l0 B0 e0 m0 t1 A1 c1 l1 B1 e1 m1 W hf0_0 hf0_1 hf0_2 hf0_3 hf0_4 hf0_5 hf0_6 hf0_7 hf0_8 hf0_9 hf0_10 hf1_0 hf1_1 hf1_2 hf1_3 hf1_4 hf1_5 hf1_6 hf1_7 hf1_8 hf1_9 hf1_10).mono fun e W' ⟨he, bel⟩ => ?_
  subst he
  exact ⟨_, rfl, _, _, _, [], _, [], hW', trodAll_mk1 (shut_bool Try.underlying4 _), (trodAll_cons_mk (Below.trod laidOut (by kernel_rfl) (of_decide_eq_true (by kernel_rfl)) k0 bel lt0) (trodAll_cons_mk (Below.trod laidOut (by kernel_rfl) (of_decide_eq_true (by kernel_rfl)) k1 bel lt1) trodAll_mk0)), rfl, bel.frame _, fun h => by cases h⟩
theorem over : Rows.treeSamesRow.holds Try.pinned (OpenSpec.ofChange Rows.treeSamesSpec) :=
  OpenClaim.holds_of_wide 10 Try.f10 rfl rfl rfl rfl rfl rfl rfl ⟨rfl, rfl, rfl, rfl, rfl⟩ rfl rfl rfl rfl rfl (by kernel_rfl) Try.func10 (by kernel_rfl)
    (of_decide_eq_true (by kernel_rfl)) (by unfold Func.isWrapper; first | (rw [if_pos (by decide +kernel)]; kernel_rfl) | (rw [if_neg (by decide +kernel)]; exact ⟨rfl, rfl⟩))
    (fun os started H enc _ => lifted os started H enc)
theorem proved : Rows.TreeSamesSaid := over
#print axioms proved
end Go.Proofs.Ytodldpdnhcafpaa.treeSames
namespace Go.Proofs.Ytodldpdnhcafpaa
/-- The row, under a short name, for the claim. -/
theorem treeSames_holds : Rows.TreeSamesSaid := treeSames.proved
end Go.Proofs.Ytodldpdnhcafpaa
