/- The law TreeBytes of package monikerlaw holds of the given program: called with any arguments that can be read as data it returns true, and its arguments read behind the call as before. Conditions: those of the given row, no others. -/
import Derived.Test.YtodldpdnhcafpaaZBytes1
import Derived.Test.YtodldpdnhcafpaaWMore
import Derived.SizedLaws
import Derived.ChangeSlices
import Derived.Deep.Slices
import Derived.ChangeArms
import Derived.Deep.LoopGhost
import Derived.Deep.DeepCutAuto
import Derived.Test.YtodldpdnhcafpaaRows
import Derived.WalkKit
import Derived.ProofKit
import Derived.OpenShut
import Derived.ShutString
import Derived.ChangeOld
import Derived.Below
-- A text of this session's own program (wip/myprint.sh over a changed print tool): functions and their walks
namespace Go.Proofs.Ytodldpdnhcafpaa.F
open Go.RowKit Go.Proofs.YtodldpdnhcafpaaW.PrintWords Go.Proofs.YtodldpdnhcafpaaW.PrintLast Go.Proofs.YtodldpdnhcafpaaW.PrintMore
attribute [local go_sem] max2_int min2_int max_two min_two max_three min_three max_four min_four   -- for this text's walks alone
set_option linter.unusedVariables false
set_option linter.unusedSimpArgs false

/-! ### monikerlaw4_following: function 41 -/
def monikerlaw4_following.l0 : Nat → ByteArray → Int → List (S61) → Int → Int → Option (Bool)
  | 0, _, _, _, _, _ => none
  | k + 1, x0, x5, x8, x9, x10 => if x10 < x9 then (if 0 ≤ x10 then (if x10 < (x8.length : Int) then (if ((rd_T61 x8 x10).f1) = x5 then (if ((rd_T61 x8 x10).f2) < ((rd_T61 x8 x10).f1) then (some false) else (if ((rd_T61 x8 x10).f2) > (x0.size : Int) then (some false) else (monikerlaw4_following.l0 k x0 ((rd_T61 x8 x10).f2) x8 x9 (wrap64 (x10 + 1))))) else (some false)) else (none)) else (none)) else (some true)
def monikerlaw4_following.f (k : Nat) (a0 : ByteArray) (l1 : List (S61)) : Option (Bool) := monikerlaw4_following.l0 k a0 0 l1 (l1.length : Int) 0
set_option maxHeartbeats 8000000 in
set_option maxRecDepth 100000 in
theorem monikerlaw4_following.calls (k : Nat) (a0 : ByteArray) (A1 : Option Addr) (c1 : Nat) (l1 : List (S61)) (r : Bool) (w : World) (hr1 : Kd.C k61 w A1 l1.length l1) (hc1 : l1.length ≤ c1) (h : monikerlaw4_following.f k a0 l1 = some r) :
    Calls Try.prog 41 #[.string a0, .slice A1 l1.length c1] w fun e w' => e = .returned (.bool r) ∧ Below w.heap.size w w' := by
  have hu61 := Try.underlying61
  have HR1 := Aside0.mk hr1
  have HC1 := Aside0.mk hc1
  clear hr1 hc1
  have HB := Aside0.mk (Below.refl w.heap.size w)
  have H : (monikerlaw4_following.l0 k a0 0 l1 (l1.length : Int) 0) = some r := h
  clear h
  have H' := Aside0.mk H
  clear H
  go_enter Try.func41, Try.ntmps41
  go_wp2
  go_loopg [5, 10] k (fun kq v5 v10 w' => ∃ (x5_1 : Int) (x10_1 : Int), v5 = .int .i64 x5_1 ∧ v10 = .int .i64 x10_1 ∧ Aside0 (monikerlaw4_following.l0 kq a0 x5_1 l1 (l1.length : Int) x10_1 = some r) ∧ Aside0 (kq ≤ k) ∧ Aside0 (Below w.heap.size w w'))
  case atStart => exact ⟨(0), (0), (by first | rfl | (simp; done) | (simp [*]; done)), (by first | rfl | (simp; done) | (simp [*]; done)), H', ⟨Nat.le_refl _⟩, ⟨by repeat (first | (with_reducible first | exact HB.out | apply below_alloc | apply pw_below_drewN | apply below_drew1) | exact HB.out)⟩⟩
  case round =>
    clear H'
    try clear c1
    try clear p2
    obtain ⟨x5_1, x10_1, rfl, rfl, HA, HK1, HB⟩ := hrel
    cases gk with
    | zero => exact absurd HA.out (by simp [monikerlaw4_following.l0])
    | succ k1 =>
      have H := HA.out
      clear HA
      simp only [monikerlaw4_following.l0] at H
      by_cases c3 : x10_1 < (l1.length : Int)
      · rw [if_pos c3] at H
        have c3b0 : decide (x10_1 < (l1.length : Int)) = true := decide_eq_true c3
        clear c3
        by_cases c4 : 0 ≤ x10_1
        · rw [if_pos c4] at H
          have c4b0 : decide (0 ≤ x10_1) = true := decide_eq_true c4
          clear c4
          by_cases c5 : x10_1 < (l1.length : Int)
          · rw [if_pos c5] at H
            have c5b0 : decide (x10_1 < (l1.length : Int)) = true := decide_eq_true c5
            clear c5
            by_cases c6 : ((rd_T61 l1 x10_1).f1) = x5_1
            · rw [if_pos c6] at H
              have c6b0 : (((rd_T61 l1 x10_1).f1) == x5_1) = true := beq_iff_eq.mpr c6
              have c6b1 : (((rd_T61 l1 x10_1).f1) != x5_1) = false := bne_eq_false_iff_eq.mpr c6
              clear c6
              by_cases c7 : ((rd_T61 l1 x10_1).f2) < ((rd_T61 l1 x10_1).f1)
              · rw [if_pos c7] at H
                have c7b0 : decide (((rd_T61 l1 x10_1).f2) < ((rd_T61 l1 x10_1).f1)) = true := decide_eq_true c7
                clear c7
                obtain rfl := Option.some.inj H
                have p288 : 0 ≤ (x10_1 : Int) := of_decide_eq_true (by first | (with_reducible assumption) | assumption)
                have q288 : x10_1 < (l1.length : Int) := of_decide_eq_true (by first | (with_reducible assumption) | assumption)
                obtain ⟨ad288, e288, hx288_0, hx288_1, hx288_2⟩ := at_T61 HR1.out x10_1 p288 q288
                cases e288
                replace hx288_0 := (HB.out.cell (World.block_lt_of_cell? w _ hx288_0)).trans hx288_0
                replace hx288_1 := (HB.out.cell (World.block_lt_of_cell? w _ hx288_1)).trans hx288_1
                replace hx288_2 := (HB.out.cell (World.block_lt_of_cell? w _ hx288_2)).trans hx288_2
                replace p288 := eq_true p288
                replace q288 := eq_true q288
                go_wp2_with (first | ((with_reducible refine gate_dst (N := 7) rfl ?_); (try (refine gate_guard (by rfl) ?_; dsimp only)); refine box_event ?hg (N := 7) ?hd (cs := #[.int .u8 0, .int .i64 0, .int .i64 0]) (t := 61) ?hr ?_; (case hd => rfl); (case hg => rfl); (case hr => first | (go_simp; done) | (go_simp; rfl)); intro gb289 hg w8 hbox hb; have n0_ := Aside0.mk (below_step (by repeat (first | (with_reducible first | exact HB.out | apply below_alloc | apply pw_below_drewN | apply below_drew1) | exact HB.out)) hb); have n1_ := Aside0.mk (hbox); have n2_ := Aside0.mk ((by rw [hg]; exact (below_size (by repeat (first | (with_reducible first | exact HB.out | apply below_alloc | apply pw_below_drewN | apply below_drew1) | exact HB.out))) : w.heap.size ≤ gb289)); have n3_ := Aside0.mk ((by rw [hg]; exact (below_size (by repeat (first | (with_reducible first | exact HB.out | apply below_alloc | apply pw_below_drewN | apply below_drew1) | exact HB.out))) : w.heap.size ≤ gb289)); clear HB; have HB := n0_; have BK289 := n1_; have GW289 := n2_; have GE289 := n3_; clear n0_ n1_ n2_ n3_; clear hb hbox hg; have hcz9_0 : w8.cell? ⟨gb289, 0, none⟩ = some (.int .u8 0) := (blk_cell BK289.out 0).trans rfl; have hcz9_1 : w8.cell? ⟨gb289, 1, none⟩ = some (.int .i64 0) := (blk_cell BK289.out 1).trans rfl; have hcz9_2 : w8.cell? ⟨gb289, 2, none⟩ = some (.int .i64 0) := (blk_cell BK289.out 2).trans rfl; have hfz9_0 := blk_frozen BK289.out 0; have hfz9_1 := blk_frozen BK289.out 1; have hfz9_2 := blk_frozen BK289.out 2))
                go_ret
                exact ⟨by first | rfl | (simp [errW_none, errW_some] <;> rfl) | (simp [*, errW_none, errW_some] <;> rfl), by repeat (first | (with_reducible first | exact HB.out | apply below_alloc | apply pw_below_drewN | apply below_drew1 | refine below_set ?_ GE289.out) | exact HB.out)⟩
              · rw [if_neg c7] at H
                have c7b0 : decide (((rd_T61 l1 x10_1).f2) < ((rd_T61 l1 x10_1).f1)) = false := decide_eq_false c7
                clear c7
                by_cases c10 : ((rd_T61 l1 x10_1).f2) > (a0.size : Int)
                · rw [if_pos c10] at H
                  have c10b0 : decide ((a0.size : Int) < ((rd_T61 l1 x10_1).f2)) = true := decide_eq_true c10
                  clear c10
                  obtain rfl := Option.some.inj H
                  have p288 : 0 ≤ (x10_1 : Int) := of_decide_eq_true (by first | (with_reducible assumption) | assumption)
                  have q288 : x10_1 < (l1.length : Int) := of_decide_eq_true (by first | (with_reducible assumption) | assumption)
                  obtain ⟨ad288, e288, hx288_0, hx288_1, hx288_2⟩ := at_T61 HR1.out x10_1 p288 q288
                  cases e288
                  replace hx288_0 := (HB.out.cell (World.block_lt_of_cell? w _ hx288_0)).trans hx288_0
                  replace hx288_1 := (HB.out.cell (World.block_lt_of_cell? w _ hx288_1)).trans hx288_1
                  replace hx288_2 := (HB.out.cell (World.block_lt_of_cell? w _ hx288_2)).trans hx288_2
                  replace p288 := eq_true p288
                  replace q288 := eq_true q288
                  go_wp2_with (first | ((with_reducible refine gate_dst (N := 7) rfl ?_); (try (refine gate_guard (by rfl) ?_; dsimp only)); refine box_event ?hg (N := 7) ?hd (cs := #[.int .u8 0, .int .i64 0, .int .i64 0]) (t := 61) ?hr ?_; (case hd => rfl); (case hg => rfl); (case hr => first | (go_simp; done) | (go_simp; rfl)); intro gb289 hg w11 hbox hb; have n0_ := Aside0.mk (below_step (by repeat (first | (with_reducible first | exact HB.out | apply below_alloc | apply pw_below_drewN | apply below_drew1) | exact HB.out)) hb); have n1_ := Aside0.mk (hbox); have n2_ := Aside0.mk ((by rw [hg]; exact (below_size (by repeat (first | (with_reducible first | exact HB.out | apply below_alloc | apply pw_below_drewN | apply below_drew1) | exact HB.out))) : w.heap.size ≤ gb289)); have n3_ := Aside0.mk ((by rw [hg]; exact (below_size (by repeat (first | (with_reducible first | exact HB.out | apply below_alloc | apply pw_below_drewN | apply below_drew1) | exact HB.out))) : w.heap.size ≤ gb289)); clear HB; have HB := n0_; have BK289 := n1_; have GW289 := n2_; have GE289 := n3_; clear n0_ n1_ n2_ n3_; clear hb hbox hg; have hcz12_0 : w11.cell? ⟨gb289, 0, none⟩ = some (.int .u8 0) := (blk_cell BK289.out 0).trans rfl; have hcz12_1 : w11.cell? ⟨gb289, 1, none⟩ = some (.int .i64 0) := (blk_cell BK289.out 1).trans rfl; have hcz12_2 : w11.cell? ⟨gb289, 2, none⟩ = some (.int .i64 0) := (blk_cell BK289.out 2).trans rfl; have hfz12_0 := blk_frozen BK289.out 0; have hfz12_1 := blk_frozen BK289.out 1; have hfz12_2 := blk_frozen BK289.out 2))
                  go_ret
                  exact ⟨by first | rfl | (simp [errW_none, errW_some] <;> rfl) | (simp [*, errW_none, errW_some] <;> rfl), by repeat (first | (with_reducible first | exact HB.out | apply below_alloc | apply pw_below_drewN | apply below_drew1 | refine below_set ?_ GE289.out) | exact HB.out)⟩
                · rw [if_neg c10] at H
                  have c10b0 : decide ((a0.size : Int) < ((rd_T61 l1 x10_1).f2)) = false := decide_eq_false c10
                  clear c10
                  have H' := Aside0.mk H
                  clear H
                  have p288 : 0 ≤ (x10_1 : Int) := of_decide_eq_true (by first | (with_reducible assumption) | assumption)
                  have q288 : x10_1 < (l1.length : Int) := of_decide_eq_true (by first | (with_reducible assumption) | assumption)
                  obtain ⟨ad288, e288, hx288_0, hx288_1, hx288_2⟩ := at_T61 HR1.out x10_1 p288 q288
                  cases e288
                  replace hx288_0 := (HB.out.cell (World.block_lt_of_cell? w _ hx288_0)).trans hx288_0
                  replace hx288_1 := (HB.out.cell (World.block_lt_of_cell? w _ hx288_1)).trans hx288_1
                  replace hx288_2 := (HB.out.cell (World.block_lt_of_cell? w _ hx288_2)).trans hx288_2
                  replace p288 := eq_true p288
                  replace q288 := eq_true q288
                  go_wp2_with (first | ((with_reducible refine gate_dst (N := 7) rfl ?_); (try (refine gate_guard (by rfl) ?_; dsimp only)); refine box_event ?hg (N := 7) ?hd (cs := #[.int .u8 0, .int .i64 0, .int .i64 0]) (t := 61) ?hr ?_; (case hd => rfl); (case hg => rfl); (case hr => first | (go_simp; done) | (go_simp; rfl)); intro gb289 hg w13 hbox hb; have n0_ := Aside0.mk (below_step (by repeat (first | (with_reducible first | exact HB.out | apply below_alloc | apply pw_below_drewN | apply below_drew1) | exact HB.out)) hb); have n1_ := Aside0.mk (hbox); have n2_ := Aside0.mk ((by rw [hg]; exact (below_size (by repeat (first | (with_reducible first | exact HB.out | apply below_alloc | apply pw_below_drewN | apply below_drew1) | exact HB.out))) : w.heap.size ≤ gb289)); have n3_ := Aside0.mk ((by rw [hg]; exact (below_size (by repeat (first | (with_reducible first | exact HB.out | apply below_alloc | apply pw_below_drewN | apply below_drew1) | exact HB.out))) : w.heap.size ≤ gb289)); clear HB; have HB := n0_; have BK289 := n1_; have GW289 := n2_; have GE289 := n3_; clear n0_ n1_ n2_ n3_; clear hb hbox hg; have hcz14_0 : w13.cell? ⟨gb289, 0, none⟩ = some (.int .u8 0) := (blk_cell BK289.out 0).trans rfl; have hcz14_1 : w13.cell? ⟨gb289, 1, none⟩ = some (.int .i64 0) := (blk_cell BK289.out 1).trans rfl; have hcz14_2 : w13.cell? ⟨gb289, 2, none⟩ = some (.int .i64 0) := (blk_cell BK289.out 2).trans rfl; have hfz14_0 := blk_frozen BK289.out 0; have hfz14_1 := blk_frozen BK289.out 1; have hfz14_2 := blk_frozen BK289.out 2))
                  go_roundg k1
                  case measure => have := HK1.out; omega
                  case rel => exact ⟨((rd_T61 l1 x10_1).f2), (wrap64 (x10_1 + 1)), (by first | rfl | (simp; done) | (simp [*]; done)), (by first | rfl | (simp; done) | (simp [*]; done)), H', ⟨by have := HK1.out; omega⟩, ⟨by repeat (first | (with_reducible first | exact HB.out | apply below_alloc | apply pw_below_drewN | apply below_drew1 | refine below_set ?_ GE289.out) | exact HB.out)⟩⟩
            · rw [if_neg c6] at H
              have c6b0 : (((rd_T61 l1 x10_1).f1) == x5_1) = false := beq_eq_false_iff_ne.mpr c6
              have c6b1 : (((rd_T61 l1 x10_1).f1) != x5_1) = true := bne_iff_ne.mpr c6
              obtain rfl := Option.some.inj H
              have p288 : 0 ≤ (x10_1 : Int) := of_decide_eq_true (by first | (with_reducible assumption) | assumption)
              have q288 : x10_1 < (l1.length : Int) := of_decide_eq_true (by first | (with_reducible assumption) | assumption)
              obtain ⟨ad288, e288, hx288_0, hx288_1, hx288_2⟩ := at_T61 HR1.out x10_1 p288 q288
              cases e288
              replace hx288_0 := (HB.out.cell (World.block_lt_of_cell? w _ hx288_0)).trans hx288_0
              replace hx288_1 := (HB.out.cell (World.block_lt_of_cell? w _ hx288_1)).trans hx288_1
              replace hx288_2 := (HB.out.cell (World.block_lt_of_cell? w _ hx288_2)).trans hx288_2
              replace p288 := eq_true p288
              replace q288 := eq_true q288
              go_wp2_with (first | ((with_reducible refine gate_dst (N := 7) rfl ?_); (try (refine gate_guard (by rfl) ?_; dsimp only)); refine box_event ?hg (N := 7) ?hd (cs := #[.int .u8 0, .int .i64 0, .int .i64 0]) (t := 61) ?hr ?_; (case hd => rfl); (case hg => rfl); (case hr => first | (go_simp; done) | (go_simp; rfl)); intro gb289 hg w15 hbox hb; have n0_ := Aside0.mk (below_step (by repeat (first | (with_reducible first | exact HB.out | apply below_alloc | apply pw_below_drewN | apply below_drew1) | exact HB.out)) hb); have n1_ := Aside0.mk (hbox); have n2_ := Aside0.mk ((by rw [hg]; exact (below_size (by repeat (first | (with_reducible first | exact HB.out | apply below_alloc | apply pw_below_drewN | apply below_drew1) | exact HB.out))) : w.heap.size ≤ gb289)); have n3_ := Aside0.mk ((by rw [hg]; exact (below_size (by repeat (first | (with_reducible first | exact HB.out | apply below_alloc | apply pw_below_drewN | apply below_drew1) | exact HB.out))) : w.heap.size ≤ gb289)); clear HB; have HB := n0_; have BK289 := n1_; have GW289 := n2_; have GE289 := n3_; clear n0_ n1_ n2_ n3_; clear hb hbox hg; have hcz16_0 : w15.cell? ⟨gb289, 0, none⟩ = some (.int .u8 0) := (blk_cell BK289.out 0).trans rfl; have hcz16_1 : w15.cell? ⟨gb289, 1, none⟩ = some (.int .i64 0) := (blk_cell BK289.out 1).trans rfl; have hcz16_2 : w15.cell? ⟨gb289, 2, none⟩ = some (.int .i64 0) := (blk_cell BK289.out 2).trans rfl; have hfz16_0 := blk_frozen BK289.out 0; have hfz16_1 := blk_frozen BK289.out 1; have hfz16_2 := blk_frozen BK289.out 2))
              go_ret
              exact ⟨by first | rfl | (simp [errW_none, errW_some] <;> rfl) | (simp [*, errW_none, errW_some] <;> rfl), by repeat (first | (with_reducible first | exact HB.out | apply below_alloc | apply pw_below_drewN | apply below_drew1 | refine below_set ?_ GE289.out) | exact HB.out)⟩
          · rw [if_neg c5] at H
            exact absurd H (by simp)
        · rw [if_neg c4] at H
          exact absurd H (by simp)
      · rw [if_neg c3] at H
        have c3b0 : decide (x10_1 < (l1.length : Int)) = false := decide_eq_false c3
        clear c3
        obtain rfl := Option.some.inj H
        go_wp2
        go_ret
        exact ⟨by first | rfl | (simp [errW_none, errW_some] <;> rfl) | (simp [*, errW_none, errW_some] <;> rfl), by repeat (first | (with_reducible first | exact HB.out | apply below_alloc | apply pw_below_drewN | apply below_drew1) | exact HB.out)⟩

end Go.Proofs.Ytodldpdnhcafpaa.F

-- TreeBytes, plainly: the node at a byte is the deepest that holds it, and each around it holds it too
namespace Go.Proofs.Ytodldpdnhcafpaa.Q
open Go.RowKit Go.Proofs.YtodldpdnhcafpaaW.PrintWords Go.Proofs.YtodldpdnhcafpaaW.PrintLast Go.Proofs.YtodldpdnhcafpaaW.PrintMore
open Go.Proofs.Ytodldpdnhcafpaa.F
set_option linter.unusedSimpArgs false
set_option linter.unusedVariables false

/-- Does node n hold the byte at? -/
def holdB (ps : List S61) (ns : List S47) (n off : Int) : Bool := decide ((rd_T47 ns n).f1 < (rd_T47 ns n).f2) && (decide ((rd_T61 ps (rd_T47 ns n).f1).f1 ≤ off) && decide (off < (rd_T61 ps ((rd_T47 ns n).f2 - 1)).f2))
/-- The pieces follow one another. -/
def followB (t : ByteArray) (ps : List S61) : Nat → Int → Int → Bool
  | 0, _, _ => true
  | f + 1, at_, i => decide ((rd_T61 ps i).f1 = at_) && (decide ((rd_T61 ps i).f1 ≤ (rd_T61 ps i).f2) && (decide ((rd_T61 ps i).f2 ≤ (t.size : Int)) && followB t ps f (rd_T61 ps i).f2 (i + 1)))
theorem follow_loop (t : ByteArray) (ps : List S61) (hl : ps.length ≤ 9223372036854775806) (d : Nat) : ∀ (i : Nat) (x : Int), ps.length - i = d → i ≤ ps.length →
    Ev (fun k => monikerlaw4_following.l0 k t x ps (ps.length : Int) (i : Int)) (followB t ps d x (i : Int)) := by
  induction d with
  | zero =>
    intro i x h1 h2
    refine ⟨1, fun n hn => ?_⟩
    obtain ⟨k, rfl⟩ : ∃ m, n = m + 1 := ⟨n - 1, by omega⟩
    simp only [monikerlaw4_following.l0]
    rw [if_neg (by omega)]
    rfl
  | succ d ih =>
    intro i x h1 h2
    obtain ⟨K, hK⟩ := ih (i + 1) (rd_T61 ps (i : Int)).f2 (by omega) (by omega)
    refine ⟨K + 1, fun n hn => ?_⟩
    obtain ⟨k, rfl⟩ : ∃ m, n = m + 1 := ⟨n - 1, by omega⟩
    have g := hK k (by omega)
    simp only at g
    simp only [monikerlaw4_following.l0, followB]
    rw [if_pos (by omega), if_pos (by omega), if_pos (by omega), w64 (x := (i : Int) + 1) (by omega) (by omega)]
    by_cases c1 : (rd_T61 ps (i : Int)).f1 = x
    · rw [if_pos c1, decide_eq_true c1]
      by_cases c2 : (rd_T61 ps (i : Int)).f2 < (rd_T61 ps (i : Int)).f1
      · rw [if_pos c2, decide_eq_false (show ¬ (rd_T61 ps (i : Int)).f1 ≤ (rd_T61 ps (i : Int)).f2 by omega)]
        rfl
      · rw [if_neg c2, decide_eq_true (show (rd_T61 ps (i : Int)).f1 ≤ (rd_T61 ps (i : Int)).f2 by omega)]
        by_cases c3 : (rd_T61 ps (i : Int)).f2 > (t.size : Int)
        · rw [if_pos c3, decide_eq_false (show ¬ (rd_T61 ps (i : Int)).f2 ≤ (t.size : Int) by omega)]
          rfl
        · rw [if_neg c3, decide_eq_true (show (rd_T61 ps (i : Int)).f2 ≤ (t.size : Int) by omega)]
          simp only [Bool.true_and]
          exact g
    · rw [if_neg c1, decide_eq_false c1]
      rfl
theorem following_is (t : ByteArray) (ps : List S61) (hl : ps.length ≤ 9223372036854775806) : Ev (fun k => monikerlaw4_following.f k t ps) (followB t ps ps.length 0 0) := by
  unfold monikerlaw4_following.f
  exact follow_loop t ps hl ps.length 0 0 (by omega) (by omega)
theorem follow_at (t : ByteArray) (ps : List S61) : ∀ (f : Nat) (x i : Int), followB t ps f x i = true → ∀ m, i ≤ m → m < i + f → x ≤ (rd_T61 ps m).f1 ∧ (rd_T61 ps m).f1 ≤ (rd_T61 ps m).f2 ∧ (m + 1 < i + f → (rd_T61 ps (m + 1)).f1 = (rd_T61 ps m).f2)
  | 0, x, i, _, m, h1, h2 => by omega
  | f + 1, x, i, h, m, h1, h2 => by
    simp only [followB, Bool.and_eq_true, decide_eq_true_eq] at h
    obtain ⟨a1, a2, a3, a4⟩ := h
    by_cases c : i = m
    · subst c
      refine ⟨by omega, a2, fun h3 => ?_⟩
      cases f with
      | zero => omega
      | succ f =>
        simp only [followB, Bool.and_eq_true, decide_eq_true_eq] at a4
        exact a4.1
    · obtain ⟨b1, b2, b3⟩ := follow_at t ps f _ _ a4 m (by omega) (by omega)
      exact ⟨by omega, b2, fun h3 => b3 (by omega)⟩
theorem follow_top (t : ByteArray) (ps : List S61) : ∀ (f : Nat) (x i : Int), followB t ps f x i = true → ∀ m, i ≤ m → m < i + f → (rd_T61 ps m).f2 ≤ (t.size : Int)
  | 0, x, i, _, m, h1, h2 => by omega
  | f + 1, x, i, h, m, h1, h2 => by
    simp only [followB, Bool.and_eq_true, decide_eq_true_eq] at h
    obtain ⟨a1, a2, a3, a4⟩ := h
    by_cases c : i = m
    · subst c
      exact a3
    · exact follow_top t ps f _ _ a4 m (by omega) (by omega)
/-- The size that the pieces tell. -/
def sizeP (ps : List S61) : Int := if ps.length = 0 then 0 else (rd_T61 ps ((ps.length : Int) - 1)).f2
theorem follow_mono (t : ByteArray) (ps : List S61) (h : followB t ps ps.length 0 0 = true) (d : Nat) : ∀ (i j : Int), 0 ≤ i → i + d = j → j < (ps.length : Int) → (rd_T61 ps i).f1 ≤ (rd_T61 ps j).f1 ∧ (rd_T61 ps i).f2 ≤ (rd_T61 ps j).f2 := by
  induction d with
  | zero =>
    intro i j h0 h1 h2
    obtain rfl : i = j := by omega
    exact ⟨Int.le_refl _, Int.le_refl _⟩
  | succ d ih =>
    intro i j h0 h1 h2
    obtain ⟨c1, c2⟩ := ih i (j - 1) h0 (by omega) (by omega)
    obtain ⟨_, b2, b3⟩ := follow_at t ps ps.length 0 0 h (j - 1) (by omega) (by omega)
    have b4 := b3 (by omega)
    rw [show j - 1 + 1 = j by omega] at b4
    obtain ⟨_, b5, _⟩ := follow_at t ps ps.length 0 0 h j (by omega) (by omega)
    exact ⟨by omega, by omega⟩
theorem follow_le (t : ByteArray) (ps : List S61) (h : followB t ps ps.length 0 0 = true) (i j : Int) (h0 : 0 ≤ i) (h1 : i ≤ j) (h2 : j < (ps.length : Int)) : (rd_T61 ps i).f1 ≤ (rd_T61 ps j).f1 ∧ (rd_T61 ps i).f2 ≤ (rd_T61 ps j).f2 :=
  follow_mono t ps h (j - i).toNat i j h0 (by omega) h2
theorem last_spec (ps : List S61) (off : Int) (ns : List S47) : ∀ i : Nat, -1 ≤ lastAt ps off ns i ∧ lastAt ps off ns i < (i : Int) ∧ (0 ≤ lastAt ps off ns i → holdsAt ps off (rd_T47 ns (lastAt ps off ns i))) ∧ ∀ m : Int, 0 ≤ m → lastAt ps off ns i < m → m < (i : Int) → ¬ holdsAt ps off (rd_T47 ns m)
  | 0 => ⟨by simp [lastAt], by simp [lastAt], fun h => by simp [lastAt] at h, fun m h0 h1 h2 => by omega⟩
  | i + 1 => by
    obtain ⟨a1, a2, a3, a4⟩ := last_spec ps off ns i
    simp only [lastAt]
    by_cases c : holdsAt ps off (rd_T47 ns (i : Int))
    · rw [if_pos c]
      exact ⟨by omega, by omega, fun _ => c, fun m h0 h1 h2 => by omega⟩
    · rw [if_neg c]
      refine ⟨a1, by omega, a3, fun m h0 h1 h2 => ?_⟩
      by_cases e : m = (i : Int)
      · rw [e]; exact c
      · exact a4 m h0 h1 (by omega)
/-- What is known where the pieces follow and the tree is one. -/
structure Sound (t : ByteArray) (ps : List S61) (ns : List S47) : Prop where
  fol : followB t ps ps.length 0 0 = true
  ok : ∀ m, 0 ≤ m → m < (ns.length : Int) → okS ns (ps.length : Int) m = true ∧ rf ns (rd_T47 ns m) (kidsOf ns m) (rd_T47 ns m).f1 = true
  pos : 0 < ns.length
theorem sound_of (t : ByteArray) (ps : List S61) (ns : List S47) (h1 : followB t ps ps.length 0 0 = true) (h2 : validB ns (ps.length : Int) = true) : Sound t ps ns := by
  unfold validB shapedB at h2
  simp only [Bool.and_eq_true, decide_eq_true_eq] at h2
  exact ⟨h1, fun m a b => allR_at ns _ ns.length 0 h2.2 m a (by omega), h2.1.1⟩
theorem Sound.in_ {t : ByteArray} {ps : List S61} {ns : List S47} (h : Sound t ps ns) {m : Int} (h0 : 0 ≤ m) (h1 : m < (ns.length : Int)) : 0 ≤ (rd_T47 ns m).f1 ∧ (rd_T47 ns m).f1 ≤ (rd_T47 ns m).f2 ∧ (rd_T47 ns m).f2 ≤ (ps.length : Int) := by
  have := (h.ok m h0 h1).1
  unfold okS at this
  simpa only [Bool.and_eq_true, decide_eq_true_eq] using this
theorem Sound.hold {t : ByteArray} {ps : List S61} {ns : List S47} (h : Sound t ps ns) {m : Int} (h0 : 0 ≤ m) (h1 : m < (ns.length : Int)) (off : Int) : holdB ps ns m off = decide (holdsAt ps off (rd_T47 ns m)) := by
  obtain ⟨a1, a2, a3⟩ := h.in_ h0 h1
  unfold holdB
  by_cases c : holdsAt ps off (rd_T47 ns m)
  · rw [decide_eq_true c, decide_eq_true c.2.1, decide_eq_true c.2.2.2.1, decide_eq_true c.2.2.2.2]
    rfl
  · rw [decide_eq_false c]
    cases hh : (decide ((rd_T47 ns m).f1 < (rd_T47 ns m).f2) && (decide ((rd_T61 ps (rd_T47 ns m).f1).f1 ≤ off) && decide (off < (rd_T61 ps ((rd_T47 ns m).f2 - 1)).f2))) with
    | false => rfl
    | true =>
      simp only [Bool.and_eq_true, decide_eq_true_eq] at hh
      exact absurd ⟨a1, hh.1, a3, hh.2.1, hh.2.2⟩ c
theorem Sound.none {t : ByteArray} {ps : List S61} {ns : List S47} (h : Sound t ps ns) (off : Int) (ho : off < 0 ∨ ∀ i, 0 ≤ i → i < (ps.length : Int) → (rd_T61 ps i).f2 ≤ off) : lastAt ps off ns ns.length = -1 := by
  obtain ⟨a1, a2, a3, _⟩ := last_spec ps off ns ns.length
  by_cases c : 0 ≤ lastAt ps off ns ns.length
  · obtain ⟨b1, b2, b3, b4, b5⟩ := a3 c
    rcases ho with ho | ho
    · have := (follow_at t ps ps.length 0 0 h.fol (rd_T47 ns (lastAt ps off ns ns.length)).f1 b1 (by omega)).1
      omega
    · have := ho ((rd_T47 ns (lastAt ps off ns ns.length)).f2 - 1) (by omega) (by omega)
      omega
  · omega
theorem Sound.size {t : ByteArray} {ps : List S61} {ns : List S47} (h : Sound t ps ns) : 0 ≤ sizeP ps ∧ sizeP ps ≤ (t.size : Int) := by
  unfold sizeP
  by_cases c : ps.length = 0
  · rw [if_pos c]
    exact ⟨Int.le_refl _, by omega⟩
  · rw [if_neg c]
    have h1 := follow_top t ps ps.length 0 0 h.fol ((ps.length : Int) - 1) (by omega) (by omega)
    have h2 := follow_at t ps ps.length 0 0 h.fol ((ps.length : Int) - 1) (by omega) (by omega)
    exact ⟨by omega, h1⟩
theorem Sound.low {t : ByteArray} {ps : List S61} {ns : List S47} (h : Sound t ps ns) : lastAt ps (-1) ns ns.length = -1 := h.none (-1) (.inl (by omega))
theorem Sound.high {t : ByteArray} {ps : List S61} {ns : List S47} (h : Sound t ps ns) : lastAt ps (sizeP ps) ns ns.length = -1 := h.none (sizeP ps) (.inr (fun i h0 h1 => by
  unfold sizeP
  rw [if_neg (by omega)]
  exact (follow_le t ps h.fol i ((ps.length : Int) - 1) h0 (by omega) (by omega)).2))
theorem kids_gt (ns : List S47) (n k : Int) (h : k ∈ kidsOf ns n) : n < k ∧ 0 ≤ n ∧ n < (ns.length : Int) := by
  unfold kidsOf at h
  split at h
  · unfold kspec at h
    split at h
    · rename_i hs
      unfold sizedB at hs
      simp only [Bool.and_eq_true, decide_eq_true_eq] at hs
      have := kgo_mem ns _ _ [] (n + 1) (n + 1) (Int.le_refl _) (fun y hy => by cases hy) k h
      omega
    · cases h
  · cases h
/-- The kids of the node at a byte don't hold it. -/
theorem Sound.kid {t : ByteArray} {ps : List S61} {ns : List S47} (h : Sound t ps ns) (off k : Int) (hk : k ∈ kidsOf ns (lastAt ps off ns ns.length)) : holdB ps ns k off = false := by
  have hm := kidsOf_mem ns _ k hk
  rw [h.hold hm.1 hm.2]
  exact decide_eq_false ((last_spec ps off ns ns.length).2.2.2 k hm.1 (kids_gt ns _ k hk).1 hm.2)
theorem rf_in (ns : List S47) (nd : S47) : ∀ (ks : List Int) (a : Int), nd.f1 ≤ a → (∀ k ∈ ks, (rd_T47 ns k).f1 ≤ (rd_T47 ns k).f2) → rf ns nd ks a = true → ∀ k ∈ ks, (rd_T47 ns k).f1 < (rd_T47 ns k).f2 → nd.f1 ≤ (rd_T47 ns k).f1 ∧ (rd_T47 ns k).f2 ≤ nd.f2
  | [], a, _, _, _, k, hk, _ => by cases hk
  | x :: ks, a, ha, hok, h, k, hk, hne => by
    simp only [rf] at h
    have hx := hok x List.mem_cons_self
    have hok' := fun y hy => hok y (List.mem_cons_of_mem x hy)
    by_cases c1 : (rd_T47 ns x).f1 = (rd_T47 ns x).f2
    · rw [if_pos c1] at h
      by_cases c2 : (rd_T47 ns x).f1 < nd.f1
      · rw [if_pos c2] at h; cases h
      · rw [if_neg c2] at h
        rcases List.mem_cons.1 hk with rfl | hk
        · omega
        · exact rf_in ns nd ks a ha hok' h k hk hne
    · rw [if_neg c1] at h
      by_cases c2 : (rd_T47 ns x).f1 < a
      · rw [if_pos c2] at h; cases h
      · rw [if_neg c2] at h
        by_cases c3 : (rd_T47 ns x).f2 > nd.f2
        · rw [if_pos c3] at h; cases h
        · rw [if_neg c3] at h
          rcases List.mem_cons.1 hk with rfl | hk
          · exact ⟨by omega, by omega⟩
          · exact rf_in ns nd ks _ (by omega) hok' h k hk hne
theorem upGo_spec (ns : List S47) (n : Int) : ∀ d : Nat, -1 ≤ upGo ns n d ∧ upGo ns n d < (d : Int) ∧ (0 ≤ upGo ns n d → metOf n (kidsOf ns (upGo ns n d)) = true)
  | 0 => ⟨by simp [upGo], by simp [upGo], fun h => by simp [upGo] at h⟩
  | d + 1 => by
    obtain ⟨a1, a2, a3⟩ := upGo_spec ns n d
    simp only [upGo]
    split
    · exact ⟨a1, by omega, a3⟩
    · split
      · rename_i hm
        exact ⟨by omega, by omega, fun _ => hm⟩
      · exact ⟨a1, by omega, a3⟩
theorem up_spec (ns : List S47) (n : Int) (h0 : 0 ≤ n) (h1 : n < (ns.length : Int)) : -1 ≤ upOf ns n ∧ upOf ns n < n ∧ (0 ≤ upOf ns n → metOf n (kidsOf ns (upOf ns n)) = true) := by
  unfold upOf
  rw [if_neg (by omega), if_neg (by omega)]
  have := upGo_spec ns n n.toNat
  exact ⟨this.1, by omega, this.2.2⟩
theorem met_mem {n : Int} {l : List Int} (h : metOf n l = true) : n ∈ l := by
  unfold metOf at h
  obtain ⟨x, hx, e⟩ := List.any_eq_true.1 h
  rw [decide_eq_true_eq] at e
  exact e ▸ hx
/-- What is around a node that holds a byte holds it. -/
theorem Sound.up {t : ByteArray} {ps : List S61} {ns : List S47} (h : Sound t ps ns) (off n : Int) (h0 : 0 ≤ n) (h1 : n < (ns.length : Int)) (hh : holdB ps ns n off = true) (hu : 0 ≤ upOf ns n) (hmet : n ∈ kidsOf ns (upOf ns n)) : holdB ps ns (upOf ns n) off = true := by
  have hup := up_spec ns n h0 h1
  have hq1 : upOf ns n < (ns.length : Int) := by omega
  have hr := (h.ok (upOf ns n) hu hq1).2
  rw [h.hold h0 h1, decide_eq_true_eq] at hh
  obtain ⟨b1, b2, b3, b4, b5⟩ := hh
  obtain ⟨r1, r2⟩ := rf_in ns _ _ _ (Int.le_refl _) (fun k hk => (h.in_ (kidsOf_mem ns _ k hk).1 (kidsOf_mem ns _ k hk).2).2.1) hr n hmet b2
  obtain ⟨q1, q2, q3⟩ := h.in_ hu hq1
  rw [h.hold hu hq1, decide_eq_true_eq]
  refine ⟨q1, by omega, q3, ?_, ?_⟩
  · have := (follow_le t ps h.fol (rd_T47 ns (upOf ns n)).f1 (rd_T47 ns n).f1 q1 r1 (by omega)).1
    omega
  · have := (follow_le t ps h.fol ((rd_T47 ns n).f2 - 1) ((rd_T47 ns (upOf ns n)).f2 - 1) (by omega) (by omega) (by omega)).2
    omega
theorem Sound.root {t : ByteArray} {ps : List S61} {ns : List S47} (h : Sound t ps ns) (off : Int) (hl : lastAt ps off ns ns.length < 0) : holdB ps ns 0 off = false := by
  have hp := h.pos
  rw [h.hold (Int.le_refl _) (by omega)]
  exact decide_eq_false ((last_spec ps off ns ns.length).2.2.2 0 (Int.le_refl _) hl (by omega))
theorem Sound.self {t : ByteArray} {ps : List S61} {ns : List S47} (h : Sound t ps ns) (off : Int) (hl : 0 ≤ lastAt ps off ns ns.length) : holdB ps ns (lastAt ps off ns ns.length) off = true := by
  obtain ⟨_, a2, a3, _⟩ := last_spec ps off ns ns.length
  rw [h.hold hl a2]
  exact decide_eq_true (a3 hl)
theorem Sound.upw {t : ByteArray} {ps : List S61} {ns : List S47} (h : Sound t ps ns) (off n : Int) (h0 : 0 ≤ n) (h1 : n < (ns.length : Int)) (hh : holdB ps ns n off = true) : upOf ns n < n ∧ -1 ≤ upOf ns n ∧ (0 ≤ upOf ns n → holdB ps ns (upOf ns n) off = true) := by
  have hu := up_spec ns n h0 h1
  exact ⟨hu.2.1, hu.1, fun hq => h.up off n h0 h1 hh hq (met_mem (hu.2.2 hq))⟩
end Go.Proofs.Ytodldpdnhcafpaa.Q

-- Walk (25, 50): the iterator's contract
namespace Go.Proofs.Ytodldpdnhcafpaa.K
open Go.RowKit Go.Shelf Go.Proofs.YtodldpdnhcafpaaW.PrintWords Go.Proofs.YtodldpdnhcafpaaW.PrintLast Go.Proofs.YtodldpdnhcafpaaW.PrintMore
open Go.Proofs.Ytodldpdnhcafpaa.F
attribute [local go_sem] Oper.semAt_some max2_int min2_int max_two min_two
set_option linter.unusedVariables false
set_option linter.unusedSimpArgs false

def KpW (n₀ b1 b2 b3 : Nat) (W W' : World) : Prop := Below n₀ W W' ∧ W'.heap[b1]? = W.heap[b1]? ∧ W'.heap[b2]? = W.heap[b2]? ∧ W'.heap[b3]? = W.heap[b3]?
theorem KpW.trans {n₀ b1 b2 b3 : Nat} {A B C : World} (h : KpW n₀ b1 b2 b3 A B) (k : KpW n₀ b1 b2 b3 B C) : KpW n₀ b1 b2 b3 A C := ⟨h.1.trans k.1, k.2.1.trans h.2.1, k.2.2.1.trans h.2.2.1, k.2.2.2.trans h.2.2.2⟩

end Go.Proofs.Ytodldpdnhcafpaa.K

-- TreeBytes' closure (43): does a node hold a byte
namespace Go.Proofs.Ytodldpdnhcafpaa.K
open Go.RowKit Go.Shelf Go.Proofs.YtodldpdnhcafpaaW.PrintWords Go.Proofs.YtodldpdnhcafpaaW.PrintLast Go.Proofs.YtodldpdnhcafpaaW.PrintMore
open Go.Proofs.Ytodldpdnhcafpaa.F
set_option linter.unusedVariables false
set_option linter.unusedSimpArgs false

/-- A box of a node, filled. -/
theorem box47 {W : World} {g : Nat} (v0 v1 v2 v3 : Value) (h : W.heap[g]? = some (.cells #[.int .u8 0, .int .i64 0, .int .i64 0, .int .i64 0] 47 (0, 0))) :
    ((((W.setCell ⟨g, 0, none⟩ v0).setCell ⟨g, 1, none⟩ v1).setCell ⟨g, 2, none⟩ v2).setCell ⟨g, 3, none⟩ v3).heap[g]? = some (.cells #[v0, v1, v2, v3] 47 (0, 0)) ∧
    (∀ k, k ≠ g → ((((W.setCell ⟨g, 0, none⟩ v0).setCell ⟨g, 1, none⟩ v1).setCell ⟨g, 2, none⟩ v2).setCell ⟨g, 3, none⟩ v3).heap[k]? = W.heap[k]?) ∧
    (∀ w : World, w.heap.size ≤ g → Below w.heap.size w W → Below w.heap.size w ((((W.setCell ⟨g, 0, none⟩ v0).setCell ⟨g, 1, none⟩ v1).setCell ⟨g, 2, none⟩ v2).setCell ⟨g, 3, none⟩ v3)) :=
  ⟨blk_put (cs := #[v0, v1, v2, .int .i64 0]) (blk_put (cs := #[v0, v1, .int .i64 0, .int .i64 0]) (blk_put (cs := #[v0, .int .i64 0, .int .i64 0, .int .i64 0]) (blk_put h 0 _ rfl) 1 _ rfl) 2 _ rfl) 3 _ rfl,
   fun k hk => (Below.heap_setCell _ ⟨g, 3, none⟩ _ k hk).trans ((Below.heap_setCell _ ⟨g, 2, none⟩ _ k hk).trans ((Below.heap_setCell _ ⟨g, 1, none⟩ _ k hk).trans (Below.heap_setCell _ ⟨g, 0, none⟩ _ k hk))),
   fun w hn hb => below_set (below_set (below_set (below_set hb hn) hn) hn) hn⟩
set_option maxHeartbeats 2000000 in
set_option maxRecDepth 100000 in
theorem holds.calls (t : ByteArray) (A1 : Option Addr) (c1' : Nat) (ps : List S61) (A2 : Option Addr) (c2 : Nat) (ns : List S47) (n off : Int) (gt gf : Nat) (w : World) (hr1 : Kd.C k61 w A1 ps.length ps) (hr2 : Kd.C k47 w A2 ns.length ns)
    (hgt : w.heap[gt]? = some (.cells #[.slice A2 ns.length c2] 25 (0, 0))) (hgf : w.heap[gf]? = some (.cells #[.string t, .slice A1 ps.length c1', .slice A2 ns.length c2] 27 (0, 0)))
    (h0 : 0 ≤ n) (h1 : n < (ns.length : Int)) (hin : 0 ≤ (rd_T47 ns n).f1 ∧ (rd_T47 ns n).f1 ≤ (rd_T47 ns n).f2 ∧ (rd_T47 ns n).f2 ≤ (ps.length : Int)) (hpl : ps.length ≤ 9223372036854775806) :
    Calls Try.prog 43 #[.int .i64 n, .int .i64 off, .pointer (some ⟨gt, 0, none⟩), .pointer (some ⟨gf, 0, none⟩)] w fun e w' => e = .returned (.bool (Q.holdB ps ns n off)) ∧ Below w.heap.size w w' := by
  have hu22 := Try.underlying22
  have hu23 := Try.underlying23
  have hu25 := Try.underlying25
  have hu27 := Try.underlying27
  have hu47 := Try.underlying47
  have hu61 := Try.underlying61
  have HB := Aside0.mk (Below.refl w.heap.size w)
  have HR1 := Aside0.mk hr1
  have HR2 := Aside0.mk hr2
  have HGT := Aside0.mk hgt
  have HGF := Aside0.mk hgf
  have HIN := Aside0.mk hin
  have HPL := Aside0.mk hpl
  obtain ⟨ad2, rfl, y0, y1, y2, y3⟩ := at_T47 hr2 n h0 h1
  have q1 : w.cell? ⟨gt, 0, none⟩ = some (.slice (some ad2) ns.length c2) := (blk_cell hgt 0).trans rfl
  clear hr1 hr2 hgt hgf hin hpl
  generalize hx : rd_T47 ns n = x at *
  have p0 := eq_true h0
  have p1 := eq_true h1
  go_enter Try.func43, Try.ntmps43
  go_upto_region 2 with (first
    | ((with_reducible refine gate_dst (N := 7) rfl ?_); refine box_event ?hg7 (N := 7) ?hd7 (cs := #[.int .u8 0, .int .i64 0, .int .i64 0, .int .i64 0]) (t := 47) ?hr7 ?_; (case hd7 => rfl); (case hg7 => rfl); (case hr7 => first | (go_simp; done) | (go_simp; rfl)); intro g7 hg wb hbox hb; have hs0 : wb.cell? ⟨g7, 0, none⟩ = some (.int .u8 0) := (blk_cell hbox 0).trans rfl; have hf0 := blk_frozen hbox 0; have hs1 : wb.cell? ⟨g7, 1, none⟩ = some (.int .i64 0) := (blk_cell hbox 1).trans rfl; have hf1 := blk_frozen hbox 1; have hs2 : wb.cell? ⟨g7, 2, none⟩ = some (.int .i64 0) := (blk_cell hbox 2).trans rfl; have hf2 := blk_frozen hbox 2; have hs3 : wb.cell? ⟨g7, 3, none⟩ = some (.int .i64 0) := (blk_cell hbox 3).trans rfl; have hf3 := blk_frozen hbox 3; have NB := Aside0.mk hbox; have GEb := Aside0.mk (show w.heap.size ≤ g7 by rw [hg]; exact HB.out.size); have n0_ := Aside0.mk (below_step HB.out hb); have NEF := Aside0.mk (show gf ≠ g7 by rw [hg]; exact Nat.ne_of_lt (blk_lt HGF.out)); have n1_ := Aside0.mk (blk_below HGF.out hb); clear HB HGF; have HB := n0_; have HGF := n1_; clear n0_ n1_ hb hbox hg))
  obtain ⟨st1, st2, st3⟩ := box47 (.int .u8 x.f0) (.int .i64 x.f1) (.int .i64 x.f2) (.int .i64 x.f3) NB.out
  have HB5 := Aside0.mk (st3 w GEb.out HB.out)
  have BF := Aside0.mk ((st2 gf (fun e => NEF.out e)).trans HGF.out)
  have BG := Aside0.mk st1
  clear st1 st2 st3 NB hs0 hf0 hs1 hf1 hs2 hf2 hs3 hf3 HB HGF NEF GEb q1 y0 y1 y2 y3 p0 p1
  generalize ((((wb.setCell ⟨g7, 0, none⟩ (.int .u8 x.f0)).setCell ⟨g7, 1, none⟩ (.int .i64 x.f1)).setCell ⟨g7, 2, none⟩ (.int .i64 x.f2)).setCell ⟨g7, 3, none⟩ (.int .i64 x.f3)) = W5 at HB5 BF BG ⊢
  have qg1 : W5.cell? ⟨g7, 1, none⟩ = some (.int .i64 x.f1) := (blk_cell BG.out 1).trans rfl
  have qg2 : W5.cell? ⟨g7, 2, none⟩ = some (.int .i64 x.f2) := (blk_cell BG.out 2).trans rfl
  by_cases c1 : x.f1 < x.f2
  · have hr1 := Kd.C_below HR1.out HB5.out
    have hi0 := HIN.out
    have hw : wrap64 (x.f2 - 1) = x.f2 - 1 := by have := HPL.out; unfold wrap64; omega
    obtain ⟨ad1, e1, z0, z1, z2⟩ := at_T61 hr1 x.f1 hi0.1 (by omega)
    subst e1
    obtain ⟨ad1', e2, u0, u1, u2⟩ := at_T61 hr1 (x.f2 - 1) (by omega) (by omega)
    cases e2
    have tn : (x.f2 - 1).toNat = x.f2.toNat - 1 := by omega
    rw [tn] at u0 u1 u2
    have qf1 : W5.cell? ⟨gf, 1, none⟩ = some (.slice (some ad1) ps.length c1') := (blk_cell BF.out 1).trans rfl
    have k1 : (0 ≤ x.f1) = True := eq_true hi0.1
    have k2 : (x.f1 < (ps.length : Int)) = True := eq_true (by omega)
    have k3 : (0 ≤ x.f2 - 1) = True := eq_true (by omega)
    have k4 : (x.f2 - 1 < (ps.length : Int)) = True := eq_true (by omega)
    have k5 : (1 ≤ x.f2) = True := eq_true (by omega)
    have k6 : (x.f2 < 1) = False := eq_false (by omega)
    have b1 : decide (x.f1 < x.f2) = true := decide_eq_true c1
    clear hr1 hi0
    by_cases c2 : (rd_T61 ps x.f1).f1 ≤ off
    · have b2 : decide ((rd_T61 ps x.f1).f1 ≤ off) = true := decide_eq_true c2
      by_cases c3 : off < (rd_T61 ps (x.f2 - 1)).f2
      · have b3 : decide (off < (rd_T61 ps (x.f2 - 1)).f2) = true := decide_eq_true c3
        have hv : Q.holdB ps ns n off = true := by unfold Q.holdB; rw [hx, b1, b2, b3]; rfl
        have HV := Aside0.mk hv
        clear hv c1 c2 c3
        go_wp2
        go_ret
        exact ⟨by rw [HV.out]; rfl, HB5.out⟩
      · have b3 : decide (off < (rd_T61 ps (x.f2 - 1)).f2) = false := decide_eq_false c3
        have hv : Q.holdB ps ns n off = false := by unfold Q.holdB; rw [hx, b1, b2, b3]; rfl
        have HV := Aside0.mk hv
        clear hv c1 c2 c3
        go_wp2
        go_ret
        exact ⟨by rw [HV.out]; rfl, HB5.out⟩
    · have b2 : decide ((rd_T61 ps x.f1).f1 ≤ off) = false := decide_eq_false c2
      have hv : Q.holdB ps ns n off = false := by unfold Q.holdB; rw [hx, b1, b2]; rfl
      have HV := Aside0.mk hv
      clear hv c1 c2
      go_wp2
      go_ret
      exact ⟨by rw [HV.out]; rfl, HB5.out⟩
  · have b1 : decide (x.f1 < x.f2) = false := decide_eq_false c1
    have hv : Q.holdB ps ns n off = false := by unfold Q.holdB; rw [hx, b1]; rfl
    have HV := Aside0.mk hv
    clear hv c1
    go_wp2
    go_ret
    exact ⟨by rw [HV.out]; rfl, HB5.out⟩
end Go.Proofs.Ytodldpdnhcafpaa.K

namespace Go.Proofs.Ytodldpdnhcafpaa.O
open Go.ChangeShapes Go.WideShapes Go.Deep Go.Proofs.YtodldpdnhcafpaaW.PrintWords

/-- What a value of type t that came in is, as a Lean value of kind d; and what is known of it. -/
def Opens {α : Type} (P : Program) (t : TypeId) (d : Kd α) (B : α → Prop) : Prop :=
  ∀ {H : Type} {enc : TypeId × Value → H} {w : World} {base : Nat} {spare : Nat → Bool} {held : Bool} {fuel : Nat} {cs : List Value} {x : DataW H × List MemPlace},
    DataW.trod enc P w base spare held fuel t cs = some x → (∀ n ∈ x.1.weights P t, n ≤ reachBytes) → ∃ a, d.K w a cs ∧ B a

theorem opens_int {P : Program} {t : TypeId} {k : IntKind} (hu : P.underlying t = some (.int k)) : Opens P t (Kd.int k) (fun n => (Lit.int k n).wf = true) := fun h _ => by
  obtain ⟨n, rfl, rfl, hw⟩ := DataW.trod_int hu h
  exact ⟨n, rfl, hw⟩
theorem opens_string {P : Program} {t : TypeId} (hu : P.underlying t = some .string) : Opens P t Kd.string (fun s => s.size ≤ 140737488351232) := fun h hw => by
  obtain ⟨s, rfl, rfl, _⟩ := DataW.trod_string hu h
  refine ⟨s, rfl, ?_⟩
  have := hw s.data.toList.length (by simp [DataW.weights])
  rw [Array.length_toList] at this
  exact this

theorem mem_weightsAll {H : Type} {P : Program} {e : TypeId} : ∀ {l : List (DataW H)} {y : DataW H}, y ∈ l → ∀ n ∈ y.weights P e, n ∈ DataW.weightsAll P e l
  | y0 :: l, y, h, n, hn => by
    simp only [DataW.weightsAll, List.mem_append]
    rcases List.mem_cons.1 h with rfl | h
    · exact .inl hn
    · exact .inr (mem_weightsAll h n hn)

/-- A slice that came in, its address and capacity told. -/
theorem open_row {α : Type} {P : Program} {t e : TypeId} {d : Kd α} {B : α → Prop} (hu : P.underlying t = some (.slice e)) (he : Opens P e d B) (hc : P.cellsOf e = d.sz)
    {H : Type} {enc : TypeId × Value → H} {w : World} {base : Nat} {spare : Nat → Bool} {held : Bool} {fuel : Nat} {A : Option Addr} {n c : Nat} {x : DataW H × List MemPlace}
    (h : DataW.trod enc P w base spare held fuel t [.slice A n c] = some x) (hw : ∀ n ∈ x.1.weights P t, n ≤ reachBytes) :
    ∃ xs : List α, xs.length = n ∧ d.C w A n xs ∧ n ≤ c ∧ (A = none → c = 0) ∧ (∀ a ∈ xs, B a) ∧ n * P.bytesOf e ≤ 140737488351232 := by
  rcases open_slice hu h with ⟨hcs, rfl⟩ | ⟨a, len, cap, m, fu, D, Pl, hcs, hb, hl, hm, hmm, rfl, hel⟩
  · simp only [List.cons.injEq, Value.slice.injEq, and_true] at hcs
    obtain ⟨rfl, rfl, rfl⟩ := hcs
    exact ⟨[], rfl, ⟨rfl, by omega, fun h0 => absurd h0 (by omega)⟩, by omega, fun _ => rfl, (fun a ha => by cases ha), by omega⟩
  · simp only [List.cons.injEq, Value.slice.injEq, and_true] at hcs
    obtain ⟨rfl, rfl, rfl⟩ := hcs
    have hlm : n ≤ m := by rw [hmm]; split <;> omega
    have hex : ∀ i, i < n → ∃ v : α, (∃ cs, d.K w v cs ∧ ∀ j u, cs[j]? = some u → w.cell? (a.add (i * d.sz + j)) = some u) ∧ B v := by
      intro i hi
      obtain ⟨cs', hc1, hc2⟩ := hel i (by omega)
      have hmem : D i ∈ (List.range n).map D := List.mem_map.2 ⟨i, List.mem_range.2 hi, rfl⟩
      obtain ⟨v, hv, hB⟩ := he hc2 (fun q hq => hw q (by
        simp only [DataW.weights, hu, List.mem_cons, List.mem_append]
        exact .inr (.inl (mem_weightsAll hmem q hq))))
      refine ⟨v, ⟨cs', hv, fun j u hj => ?_⟩, hB⟩
      obtain ⟨_, hcl, hat⟩ := World.cells?_some hc1
      have hjl : j < cs'.length := (List.getElem?_eq_some_iff.1 hj).1
      have := hat j (by omega)
      rw [hc] at this
      rw [← Go.Deep.add_add, this, hj]
    have key : ∀ k, k ≤ n → ∃ xs : List α, xs.length = k ∧ (∀ j p, xs[j]? = some p → (∃ cs, cs.length = d.sz ∧ d.K w p cs ∧ ∀ i u, cs[i]? = some u → w.cell? (a.add (j * d.sz + i)) = some u) ∧ B p) := by
      intro k
      induction k with
      | zero => intro _; exact ⟨[], rfl, fun j p hj => by simp at hj⟩
      | succ k ih =>
        intro hk
        obtain ⟨xs, hx, hxs⟩ := ih (by omega)
        obtain ⟨v, ⟨cs, hv, hcell⟩, hB⟩ := hex k (by omega)
        refine ⟨xs ++ [v], by simp [hx], fun j p hj => ?_⟩
        rcases Nat.lt_or_ge j k with hjk | hjk
        · rw [List.getElem?_append_left (by omega)] at hj
          exact hxs j p hj
        · have hjl := (List.getElem?_eq_some_iff.1 hj).1
          rw [List.length_append, List.length_singleton] at hjl
          obtain rfl : j = k := by omega
          have hp : v = p := by simpa [List.getElem?_append_right, hx] using hj
          subst hp
          exact ⟨⟨cs, d.K_len hv, hv, hcell⟩, hB⟩
    obtain ⟨xs, hx, hxs⟩ := key n (Nat.le_refl _)
    refine ⟨xs, hx, ⟨hx, by have : maxLen = 9223372036854775807 := rfl; omega, fun _ => ⟨a, rfl, fun j p hj => (hxs j p hj).1⟩⟩, hl, (fun h => by cases h), fun v hv => ?_, ?_⟩
    · obtain ⟨j, hj, rfl⟩ := List.mem_iff_getElem.1 hv
      exact (hxs j _ (List.getElem?_eq_getElem hj)).2
    · have := hw ((((List.range n).map D).length + ((List.range (m - n)).map fun j => D (n + j)).length) * P.bytesOf e) (by
        simp only [DataW.weights, hu]
        exact List.mem_cons_self)
      simp only [List.length_map, List.length_range] at this
      have h2 : n * P.bytesOf e ≤ (n + (m - n)) * P.bytesOf e := Nat.mul_le_mul_right _ (by omega)
      have h3 : reachBytes = 140737488351232 := rfl
      omega

end Go.Proofs.Ytodldpdnhcafpaa.O

namespace Go.Proofs.Ytodldpdnhcafpaa.H
open Go.ChangeShapes Go.WideShapes Go.Deep Go.Proofs.YtodldpdnhcafpaaW.PrintWords Go.Proofs.Ytodldpdnhcafpaa.F

theorem cells3 : Try.prog.cellsOf 3 = 1 := by kernel_rfl
theorem cells9 : Try.prog.cellsOf 9 = 1 := by kernel_rfl
theorem cells22 : Try.prog.cellsOf 22 = 1 := by kernel_rfl
theorem cells23 : Try.prog.cellsOf 23 = 1 := by kernel_rfl
theorem cells25 : Try.prog.cellsOf 25 = 1 := by kernel_rfl
theorem cells27 : Try.prog.cellsOf 27 = 3 := by kernel_rfl
theorem cells45 : Try.prog.cellsOf 45 = 1 := by kernel_rfl
theorem cells59 : Try.prog.cellsOf 59 = 1 := by kernel_rfl
theorem bytes61 : Try.prog.bytesOf 61 = 24 := by kernel_rfl
theorem bytes47 : Try.prog.bytesOf 47 = 32 := by kernel_rfl
def B61 (x : S61) : Prop := (Lit.int .u8 x.f0).wf = true ∧ (Lit.int .i64 x.f1).wf = true ∧ (Lit.int .i64 x.f2).wf = true
theorem cells61 : Try.prog.cellsOf 61 = 3 := by kernel_rfl
theorem opens61 : O.Opens Try.prog 61 k61 B61 := by
  intro H enc w base spare held fuel cs x h hw
  obtain ⟨ys, n, rfl, rfl, hlen, hyl, hf⟩ := DataW.trod_struct Try.underlying61 h
  rw [cells61] at hlen
  obtain ⟨c0, c1, c2, rfl⟩ : ∃ c0 c1 c2, cs = [c0, c1, c2] := by
    match cs, hlen with
    | [c0, c1, c2], _ => exact ⟨c0, c1, c2, rfl⟩
  obtain ⟨y0, y1, y2, rfl⟩ : ∃ y0 y1 y2, ys = [y0, y1, y2] := by
    match ys, hyl with
    | [y0, y1, y2], _ => exact ⟨y0, y1, y2, rfl⟩
  have f0 := hf 0 { name := "Kind", type := 59, offset := 0, embedded := false, tag := "", pkgPath := "", byteOffset := 0 } rfl
  have f1 := hf 1 { name := "From", type := 3, offset := 1, embedded := false, tag := "", pkgPath := "", byteOffset := 8 } rfl
  have f2 := hf 2 { name := "To", type := 3, offset := 2, embedded := false, tag := "", pkgPath := "", byteOffset := 16 } rfl
  simp only [cells3, cells59, List.drop_zero, List.drop_succ_cons, List.take_succ_cons, List.take_zero, List.getElem?_cons_zero, List.getElem?_cons_succ] at f0 f1 f2
  have hq : ∀ (j : Nat) (t : TypeId) (d : DataW H), [59, 3, 3][j]? = some t → [y0.1, y1.1, y2.1][j]? = some d → ∀ n ∈ d.weights Try.prog t, n ≤ reachBytes := by
    intro j t d h1 h2 q hq
    refine hw q ?_
    simp only [DataW.weights, Try.underlying61]
    exact DataW.weights_mem_each (j := j) h1 h2 q hq
  obtain ⟨a0, e0, w0⟩ := O.opens_int Try.underlying59 f0 (hq 0 _ _ rfl rfl)
  obtain rfl : c0 = .int .u8 a0 := (List.cons.inj e0).1
  obtain ⟨a1, e1, w1⟩ := O.opens_int Try.underlying3 f1 (hq 1 _ _ rfl rfl)
  obtain rfl : c1 = .int .i64 a1 := (List.cons.inj e1).1
  obtain ⟨a2, e2, w2⟩ := O.opens_int Try.underlying3 f2 (hq 2 _ _ rfl rfl)
  obtain rfl : c2 = .int .i64 a2 := (List.cons.inj e2).1
  exact ⟨⟨a0, a1, a2⟩, k61_mk w _, w0, w1, w2⟩
def B47 (x : S47) : Prop := (Lit.int .u8 x.f0).wf = true ∧ (Lit.int .i64 x.f1).wf = true ∧ (Lit.int .i64 x.f2).wf = true ∧ (Lit.int .i64 x.f3).wf = true
theorem cells47 : Try.prog.cellsOf 47 = 4 := by kernel_rfl
theorem opens47 : O.Opens Try.prog 47 k47 B47 := by
  intro H enc w base spare held fuel cs x h hw
  obtain ⟨ys, n, rfl, rfl, hlen, hyl, hf⟩ := DataW.trod_struct Try.underlying47 h
  rw [cells47] at hlen
  obtain ⟨c0, c1, c2, c3, rfl⟩ : ∃ c0 c1 c2 c3, cs = [c0, c1, c2, c3] := by
    match cs, hlen with
    | [c0, c1, c2, c3], _ => exact ⟨c0, c1, c2, c3, rfl⟩
  obtain ⟨y0, y1, y2, y3, rfl⟩ : ∃ y0 y1 y2 y3, ys = [y0, y1, y2, y3] := by
    match ys, hyl with
    | [y0, y1, y2, y3], _ => exact ⟨y0, y1, y2, y3, rfl⟩
  have f0 := hf 0 { name := "Kind", type := 45, offset := 0, embedded := false, tag := "", pkgPath := "", byteOffset := 0 } rfl
  have f1 := hf 1 { name := "First", type := 3, offset := 1, embedded := false, tag := "", pkgPath := "", byteOffset := 8 } rfl
  have f2 := hf 2 { name := "End", type := 3, offset := 2, embedded := false, tag := "", pkgPath := "", byteOffset := 16 } rfl
  have f3 := hf 3 { name := "Size", type := 3, offset := 3, embedded := false, tag := "", pkgPath := "", byteOffset := 24 } rfl
  simp only [cells3, cells45, List.drop_zero, List.drop_succ_cons, List.take_succ_cons, List.take_zero, List.getElem?_cons_zero, List.getElem?_cons_succ] at f0 f1 f2 f3
  have hq : ∀ (j : Nat) (t : TypeId) (d : DataW H), [45, 3, 3, 3][j]? = some t → [y0.1, y1.1, y2.1, y3.1][j]? = some d → ∀ n ∈ d.weights Try.prog t, n ≤ reachBytes := by
    intro j t d h1 h2 q hq
    refine hw q ?_
    simp only [DataW.weights, Try.underlying47]
    exact DataW.weights_mem_each (j := j) h1 h2 q hq
  obtain ⟨a0, e0, w0⟩ := O.opens_int Try.underlying45 f0 (hq 0 _ _ rfl rfl)
  obtain rfl : c0 = .int .u8 a0 := (List.cons.inj e0).1
  obtain ⟨a1, e1, w1⟩ := O.opens_int Try.underlying3 f1 (hq 1 _ _ rfl rfl)
  obtain rfl : c1 = .int .i64 a1 := (List.cons.inj e1).1
  obtain ⟨a2, e2, w2⟩ := O.opens_int Try.underlying3 f2 (hq 2 _ _ rfl rfl)
  obtain rfl : c2 = .int .i64 a2 := (List.cons.inj e2).1
  obtain ⟨a3, e3, w3⟩ := O.opens_int Try.underlying3 f3 (hq 3 _ _ rfl rfl)
  obtain rfl : c3 = .int .i64 a3 := (List.cons.inj e3).1
  exact ⟨⟨a0, a1, a2, a3⟩, k47_mk w _, w0, w1, w2, w3⟩

theorem slice_cells {P : Program} {t e : TypeId} (hu : P.underlying t = some (.slice e)) {H : Type} {enc : TypeId × Value → H} {w : World} {base : Nat} {spare : Nat → Bool} {held : Bool} {fuel : Nat} {cs : List Value} {x : DataW H × List MemPlace}
    (h : DataW.trod enc P w base spare held fuel t cs = some x) : ∃ A n c, cs = [.slice A n c] := by
  rcases open_slice hu h with ⟨hcs, _⟩ | ⟨a, len, cap, m, fu, D, Pl, hcs, _⟩
  · exact ⟨_, _, _, hcs⟩
  · exact ⟨_, _, _, hcs⟩

/-- A Forest that came in. -/
theorem open27 {H : Type} {enc : TypeId × Value → H} {W : World} {base b0 : Nat} {r : Reach} {spare : Nat → Bool} {held : Bool} {v : Value} {d : DataW H} {p : List MemPlace} (hv : Value.okWide Try.prog W r b0 27 v) (h : DataW.Trod enc Try.prog W base spare held 27 v d p) (hw : ∀ n ∈ d.weights Try.prog 27, n ≤ reachBytes) :
    ∃ (t : ByteArray) (A1 : Option Addr) (c1 : Nat) (ps : List S61) (A2 : Option Addr) (c2 : Nat) (ns : List S47), v = .agg #[.string t, .slice A1 ps.length c1, .slice A2 ns.length c2] ∧ t.size ≤ 140737488351232 ∧
      Kd.C k61 W A1 ps.length ps ∧ ps.length ≤ c1 ∧ (A1 = none → c1 = 0) ∧ (∀ x ∈ ps, B61 x) ∧ ps.length * 24 ≤ 140737488351232 ∧ Kd.C k47 W A2 ns.length ns ∧ ns.length ≤ c2 ∧ (A2 = none → c2 = 0) ∧ (∀ x ∈ ns, B47 x) ∧ ns.length * 32 ≤ 140737488351232 := by
  obtain ⟨cs, rfl, hsz⟩ := okWide_struct Try.underlying27 hv
  rw [cells27] at hsz
  obtain ⟨l⟩ := cs
  obtain ⟨c0, c1, c2, rfl⟩ : ∃ a b c, l = [a, b, c] := by
    match l, hsz with
    | [a, b, c], _ => exact ⟨a, b, c, rfl⟩
  obtain ⟨fuel, hf⟩ := h
  obtain ⟨ys, n, _, hd, _, hyl, hg⟩ := DataW.trod_struct Try.underlying27 hf
  obtain ⟨y0, y1, y2, rfl⟩ : ∃ a b c, ys = [a, b, c] := by
    match ys, hyl with
    | [a, b, c], _ => exact ⟨a, b, c, rfl⟩
  obtain ⟨rfl, rfl⟩ := Prod.mk.inj hd
  have f0 := hg 0 { name := "Text", type := 9, offset := 0, embedded := false, tag := "", pkgPath := "", byteOffset := 0 } rfl
  have f1 := hg 1 { name := "Pieces", type := 22, offset := 1, embedded := false, tag := "", pkgPath := "", byteOffset := 16 } rfl
  have f2 := hg 2 { name := "Tree", type := 25, offset := 2, embedded := false, tag := "", pkgPath := "", byteOffset := 40 } rfl
  simp only [Value.cells, cells9, cells22, cells25, List.drop_zero, List.drop_succ_cons, List.take_succ_cons, List.take_zero, List.getElem?_cons_zero, List.getElem?_cons_succ] at f0 f1 f2
  have hq : ∀ (j : Nat) (t : TypeId) (d : DataW H), [9, 22, 25][j]? = some t → [y0.1, y1.1, y2.1][j]? = some d → ∀ n ∈ d.weights Try.prog t, n ≤ reachBytes := by
    intro j t d h1 h2 q hq
    refine hw q ?_
    simp only [DataW.weights, Try.underlying27]
    exact DataW.weights_mem_each (j := j) h1 h2 q hq
  obtain ⟨t, e0, ht⟩ := O.opens_string Try.underlying9 f0 (hq 0 _ _ rfl rfl)
  obtain rfl : c0 = .string t := (List.cons.inj e0).1
  obtain ⟨A1, n1, k1, e1⟩ := slice_cells Try.underlying22 f1
  obtain rfl : c1 = .slice A1 n1 k1 := (List.cons.inj e1).1
  obtain ⟨ps, rfl, p1, p2, p3, p4, p5⟩ := O.open_row Try.underlying22 opens61 cells61 f1 (hq 1 _ _ rfl rfl)
  obtain ⟨zs, n', _, hz, _, hzl, hg2⟩ := DataW.trod_struct Try.underlying25 f2
  obtain ⟨z0, rfl⟩ : ∃ a, zs = [a] := by
    match zs, hzl with
    | [a], _ => exact ⟨a, rfl⟩
  have f3 := hg2 0 { name := "Nodes", type := 23, offset := 0, embedded := false, tag := "", pkgPath := "", byteOffset := 0 } rfl
  simp only [cells23, List.drop_zero, List.take_succ_cons, List.take_zero, List.getElem?_cons_zero] at f3
  obtain ⟨A2, n2, k2, e2⟩ := slice_cells Try.underlying23 f3
  obtain rfl : c2 = .slice A2 n2 k2 := (List.cons.inj e2).1
  have hq3 : ∀ n ∈ z0.1.weights Try.prog 23, n ≤ reachBytes := by
    intro q hq1
    refine hq 2 _ _ rfl rfl q ?_
    rw [hz]
    simp only [List.map_cons, List.map_nil, DataW.weights, Try.underlying25]
    exact DataW.weights_mem_each (j := 0) (ts := [23]) (ds := [z0.1]) rfl rfl q hq1
  obtain ⟨ns, rfl, q1, q2, q3, q4, q5⟩ := O.open_row Try.underlying23 opens47 cells47 f3 hq3
  rw [bytes61] at p5
  rw [bytes47] at q5
  exact ⟨t, A1, k1, ps, A2, k2, ns, rfl, ht, p1, p2, p3, p4, p5, q1, q2, q3, q4, q5⟩
end Go.Proofs.Ytodldpdnhcafpaa.H

-- made by wip/mklbytes.py: the law TreeBytes
namespace Go.Proofs.Ytodldpdnhcafpaa.L
open Go.RowKit Go.Shelf Go.Proofs.YtodldpdnhcafpaaW.PrintWords Go.Proofs.YtodldpdnhcafpaaW.PrintLast Go.Proofs.YtodldpdnhcafpaaW.PrintMore
open Go.Proofs.Ytodldpdnhcafpaa.F Go.Proofs.Ytodldpdnhcafpaa.H Go.Proofs.Ytodldpdnhcafpaa.K
set_option linter.unusedVariables false
set_option linter.unusedSimpArgs false
set_option maxHeartbeats 4000000 in
set_option maxRecDepth 100000 in
theorem bytes_walk (t : ByteArray) (A1 : Option Addr) (c1 : Nat) (ps : List S61) (A2 : Option Addr) (c2 : Nat) (ns : List S47) (w : World)
    (hs : t.size ≤ 140737488351232) (hr1 : Kd.C k61 w A1 ps.length ps) (hc1 : ps.length ≤ c1) (hn1 : A1 = none → c1 = 0) (hB1 : ∀ x ∈ ps, B61 x) (hb1 : ps.length * 24 ≤ 140737488351232)
    (hr2 : Kd.C k47 w A2 ns.length ns) (hc2 : ns.length ≤ c2) (hn2 : A2 = none → c2 = 0) (hB2 : ∀ x ∈ ns, B47 x) (hb2 : ns.length * 32 ≤ 140737488351232) :
    Calls Try.prog 13 #[.agg #[.string t, .slice A1 ps.length c1, .slice A2 ns.length c2]] w fun e w' => e = .returned (.bool true) ∧ Below w.heap.size w w' := by
  have hu22 := Try.underlying22
  have hu25 := Try.underlying25
  have hu27 := Try.underlying27
  have hu33 := Try.underlying33
  have hu61 := Try.underlying61
  have hu8 : ∀ x ∈ ns, 0 ≤ x.f0 ∧ x.f0 ≤ 255 := fun x hx => by
    have h := (hB2 x hx).1
    simp [Lit.wf, IntKind.min, IntKind.max, IntKind.bits, IntKind.signed] at h
    omega
  have HPL := Aside0.mk (show ps.length ≤ 8796093022208 ∧ ns.length ≤ 4398046511104 ∧ t.size ≤ 140737488351232 by omega)
  obtain ⟨k1, hk1⟩ := (Q.following_is t ps (by omega)).rounds
  obtain ⟨k2, hk2⟩ := (Q.RValid_is ns (by omega) hu8 (ps.length : Int)).rounds
  have HK1 := Aside0.mk hk1
  have HK2 := Aside0.mk hk2
  have HR1 := Aside0.mk hr1
  have HR2 := Aside0.mk hr2
  have HC1 := Aside0.mk hc1
  have HC2 := Aside0.mk hc2
  have HB := Aside0.mk (Below.refl w.heap.size w)
  clear hs hr1 hc1 hn1 hB1 hb1 hr2 hc2 hn2 hB2 hb2 hu8 hk1 hk2
  go_enter Try.func13, Try.ntmps13
  go_upto_region 2 with (first
    | ((with_reducible refine gate_dst (N := 1) rfl ?_); refine box_event ?hg1 (N := 1) ?hd1 (cs := #[.string t, .slice A1 ps.length c1, .slice A2 ns.length c2]) (t := 27) ?hr1 ?_; (case hd1 => rfl); (case hg1 => rfl); (case hr1 => first | (go_simp; done) | (go_simp; rfl)); intro gf hg w1 hbox hb; have hx2 : w1.cell? ⟨gf, 2, none⟩ = some (.slice A2 ns.length c2) := (blk_cell hbox 2).trans rfl; have BKF := Aside0.mk hbox; have n0_ := Aside0.mk (below_step HB.out hb); clear HB; have HB := n0_; clear n0_ hb hbox hg)
    | ((with_reducible refine gate_dst (N := 3) rfl ?_); refine box_event ?hg3 (N := 3) ?hd3 (cs := #[.slice none 0 0]) (t := 25) ?hr3 ?_; (case hd3 => rfl); (case hg3 => rfl); (case hr3 => first | (go_simp; done) | (go_simp; rfl)); intro gt hg w2 hbox hb; have hs0 : w2.cell? ⟨gt, 0, none⟩ = some (.slice none 0 0) := (blk_cell hbox 0).trans rfl; have hf0 := blk_frozen hbox 0; have NB := Aside0.mk hbox; have GET := Aside0.mk (show w.heap.size ≤ gt by rw [hg]; exact HB.out.size); have NEF := Aside0.mk (show gf ≠ gt by rw [hg]; exact Nat.ne_of_lt (blk_lt BKF.out)); have n0_ := Aside0.mk (below_step HB.out hb); have n1_ := Aside0.mk (blk_below BKF.out hb); clear HB BKF hx2; have HB := n0_; have BKF := n1_; clear n0_ n1_ hb hbox hg))
  have n0_ := Aside0.mk (show Below w.heap.size w (w2.setCell ⟨gt, 0, none⟩ (.slice A2 ns.length c2)) from below_set HB.out GET.out)
  have n1_ := Aside0.mk (show (w2.setCell ⟨gt, 0, none⟩ (.slice A2 ns.length c2)).heap[gt]? = some (.cells #[.slice A2 ns.length c2] 25 (0, 0)) from blk_put NB.out 0 _ rfl)
  have n2_ := Aside0.mk (show (w2.setCell ⟨gt, 0, none⟩ (.slice A2 ns.length c2)).heap[gf]? = some (.cells #[.string t, .slice A1 ps.length c1, .slice A2 ns.length c2] 27 (0, 0)) from (Below.heap_setCell w2 ⟨gt, 0, none⟩ _ gf NEF.out).trans BKF.out)
  clear HB BKF NB hs0 hf0 NEF
  generalize w2.setCell ⟨gt, 0, none⟩ (.slice A2 ns.length c2) = w3 at n0_ n1_ n2_ ⊢
  have HB := n0_
  have BKT := n1_
  have BKF := n2_
  clear n0_ n1_ n2_
  obtain ⟨fol, hfol⟩ : ∃ b, Q.followB t ps ps.length 0 0 = b := ⟨_, rfl⟩
  obtain ⟨val, hval⟩ : ∃ b, Q.validB ns (ps.length : Int) = b := ⟨_, rfl⟩
  rw [hfol] at HK1
  rw [hval] at HK2
  have HFOL := Aside0.mk hfol
  have HVAL := Aside0.mk hval
  clear hfol hval
  have q0 : w3.cell? ⟨gf, 0, none⟩ = some (.string t) := (blk_cell BKF.out 0).trans rfl
  have q1 : w3.cell? ⟨gf, 1, none⟩ = some (.slice A1 ps.length c1) := (blk_cell BKF.out 1).trans rfl
  have q2 : w3.cell? ⟨gf, 2, none⟩ = some (.slice A2 ns.length c2) := (blk_cell BKF.out 2).trans rfl
  have qt : w3.cell? ⟨gt, 0, none⟩ = some (.slice A2 ns.length c2) := (blk_cell BKT.out 0).trans rfl
  go_wp2_with (fail)
  refine (monikerlaw4_following.calls k1 t A1 c1 ps fol _ (Kd.C_below HR1.out HB.out) HC1.out HK1.out).mono ?_
  rintro e wk ⟨rfl, hb⟩
  clear q0 q1 q2 qt
  have n0_ := Aside0.mk (blk_below BKF.out hb)
  have n1_ := Aside0.mk (blk_below BKT.out hb)
  have n2_ := Aside0.mk (below_step HB.out hb)
  clear BKF BKT HB hb
  have BKF := n0_
  have BKT := n1_
  have HB := n2_
  clear n0_ n1_ n2_
  cases fol
  · go_wp2
    go_ret
    exact ⟨rfl, HB.out⟩
  have q0 : wk.cell? ⟨gf, 0, none⟩ = some (.string t) := (blk_cell BKF.out 0).trans rfl
  have q1 : wk.cell? ⟨gf, 1, none⟩ = some (.slice A1 ps.length c1) := (blk_cell BKF.out 1).trans rfl
  have q2 : wk.cell? ⟨gf, 2, none⟩ = some (.slice A2 ns.length c2) := (blk_cell BKF.out 2).trans rfl
  have qt : wk.cell? ⟨gt, 0, none⟩ = some (.slice A2 ns.length c2) := (blk_cell BKT.out 0).trans rfl
  go_wp2_with (fail)
  refine (monikerref4_Valid.calls k2 A2 c2 ns (ps.length : Int) val _ (Kd.C_below HR2.out HB.out) HC2.out HK2.out).mono ?_
  rintro e wk ⟨rfl, hb⟩
  clear q0 q1 q2 qt
  have n0_ := Aside0.mk (blk_below BKF.out hb)
  have n1_ := Aside0.mk (blk_below BKT.out hb)
  have n2_ := Aside0.mk (below_step HB.out hb)
  clear BKF BKT HB hb
  have BKF := n0_
  have BKT := n1_
  have HB := n2_
  clear n0_ n1_ n2_
  cases val
  · go_wp2
    go_ret
    exact ⟨rfl, HB.out⟩
  have SD := Aside0.mk (Q.sound_of t ps ns HFOL.out HVAL.out)
  clear HFOL HVAL HK1 HK2
  have q0 : wk.cell? ⟨gf, 0, none⟩ = some (.string t) := (blk_cell BKF.out 0).trans rfl
  have q1 : wk.cell? ⟨gf, 1, none⟩ = some (.slice A1 ps.length c1) := (blk_cell BKF.out 1).trans rfl
  have q2 : wk.cell? ⟨gf, 2, none⟩ = some (.slice A2 ns.length c2) := (blk_cell BKF.out 2).trans rfl
  have qt : wk.cell? ⟨gt, 0, none⟩ = some (.slice A2 ns.length c2) := (blk_cell BKT.out 0).trans rfl
  go_upto_if 31 with (fail)
  clear q0 q1 q2 qt
  go_cut [5] (fun v5_ wc => v5_ = .int .i64 (Q.sizeP ps) ∧ Aside0 (wc.heap[gt]? = some (.cells #[.slice A2 ns.length c2] 25 (0, 0))) ∧ Aside0 (wc.heap[gf]? = some (.cells #[.string t, .slice A1 ps.length c1, .slice A2 ns.length c2] 27 (0, 0))) ∧ Aside0 (Below w.heap.size w wc))
  case first =>
    have q0 : wk.cell? ⟨gf, 0, none⟩ = some (.string t) := (blk_cell BKF.out 0).trans rfl
    have q1 : wk.cell? ⟨gf, 1, none⟩ = some (.slice A1 ps.length c1) := (blk_cell BKF.out 1).trans rfl
    have q2 : wk.cell? ⟨gf, 2, none⟩ = some (.slice A2 ns.length c2) := (blk_cell BKF.out 2).trans rfl
    have qt : wk.cell? ⟨gt, 0, none⟩ = some (.slice A2 ns.length c2) := (blk_cell BKT.out 0).trans rfl
    by_cases hz : ps.length = 0
    · have hsz : Q.sizeP ps = 0 := by unfold Q.sizeP; rw [if_pos hz]
      have b1 : decide ((0 : Int) < (ps.length : Int)) = false := decide_eq_false (by omega)
      have b0 : decide (0 < ps.length) = false := decide_eq_false (by omega)
      have HSZ := Aside0.mk hsz
      clear hsz hz
      (first | rw [b1] | rw [b0] | skip)
      go_wp2
      go_meet
      case rel => exact ⟨by rw [HSZ.out], BKT, BKF, HB⟩
    · have hlp := HPL.out.1
      obtain ⟨jm, hjm⟩ : ∃ j_ : Int, wrap64 ((ps.length : Int) - 1) = j_ := ⟨_, rfl⟩
      have hjmw : (IntKind.i64.wrap ((ps.length : Int) - 1)) = jm := (i64_w _).trans hjm
      have hje : jm = (ps.length : Int) - 1 := by rw [← hjm]; unfold wrap64; omega
      have hsz : Q.sizeP ps = (rd_T61 ps jm).f2 := by unfold Q.sizeP; rw [if_neg hz, hje]
      obtain ⟨ad, e1, z0, z1, z2⟩ := at_T61 (Kd.C_below HR1.out HB.out) jm (by omega) (by omega)
      subst e1
      have b0 : decide (0 < (ps.length : Int)) = true := decide_eq_true (by omega)
      have b1 : decide (0 < ps.length) = true := decide_eq_true (by omega)
      have b2 : decide (0 ≤ jm) = true := decide_eq_true (by omega)
      have b3 : decide (jm < (ps.length : Int)) = true := decide_eq_true (by omega)
      have k3 : (0 ≤ jm) = True := eq_true (by omega)
      have k4 : (jm < (ps.length : Int)) = True := eq_true (by omega)
      have HSZ := Aside0.mk hsz
      clear hsz hz hlp hje
      (first | rw [b0] | rw [b1] | skip)
      go_wp2
      go_meet
      case rel => exact ⟨by rw [HSZ.out], BKT, BKF, HB⟩
  case rest =>
    obtain ⟨rfl, BKT, BKF, HB⟩ := hcut
    obtain ⟨ka, hka⟩ := (Q.At_is ps ns (-1) (by have := HPL.out; omega) (by have := HPL.out; omega)).rounds
    rw [SD.out.low] at hka
    obtain ⟨kb, hkb⟩ := (Q.At_is ps ns (Q.sizeP ps) (by have := HPL.out; omega) (by have := HPL.out; omega)).rounds
    rw [SD.out.high] at hkb
    have HKA := Aside0.mk hka
    have HKB := Aside0.mk hkb
    clear hka hkb
    obtain ⟨sz, hsz⟩ : ∃ z, Q.sizeP ps = z := ⟨_, rfl⟩
    have HSZ := Aside0.mk (show 0 ≤ sz ∧ sz ≤ 140737488351232 by rw [← hsz]; have := SD.out.size; have := HPL.out; omega)
    rw [hsz] at HKB
    simp only [hsz]
    clear hsz
    have q0 : wc.cell? ⟨gf, 0, none⟩ = some (.string t) := (blk_cell BKF.out 0).trans rfl
    have q1 : wc.cell? ⟨gf, 1, none⟩ = some (.slice A1 ps.length c1) := (blk_cell BKF.out 1).trans rfl
    have q2 : wc.cell? ⟨gf, 2, none⟩ = some (.slice A2 ns.length c2) := (blk_cell BKF.out 2).trans rfl
    have qt : wc.cell? ⟨gt, 0, none⟩ = some (.slice A2 ns.length c2) := (blk_cell BKT.out 0).trans rfl
    go_wp2_with (fail)
    refine (tree_At.calls ka A1 c1 ps A2 c2 ns (-1) (-1) _ (Kd.C_below HR1.out HB.out) HC1.out (Kd.C_below HR2.out HB.out) HC2.out HKA.out).mono ?_
    rintro e wk ⟨rfl, hb⟩
    clear q0 q1 q2 qt
    have n0_ := Aside0.mk (blk_below BKF.out hb)
    have n1_ := Aside0.mk (blk_below BKT.out hb)
    have n2_ := Aside0.mk (below_step HB.out hb)
    clear BKF BKT HB hb
    have BKF := n0_
    have BKT := n1_
    have HB := n2_
    clear n0_ n1_ n2_
    have q0 : wk.cell? ⟨gf, 0, none⟩ = some (.string t) := (blk_cell BKF.out 0).trans rfl
    have q1 : wk.cell? ⟨gf, 1, none⟩ = some (.slice A1 ps.length c1) := (blk_cell BKF.out 1).trans rfl
    have q2 : wk.cell? ⟨gf, 2, none⟩ = some (.slice A2 ns.length c2) := (blk_cell BKF.out 2).trans rfl
    have qt : wk.cell? ⟨gt, 0, none⟩ = some (.slice A2 ns.length c2) := (blk_cell BKT.out 0).trans rfl
    go_wp2_with (fail)
    refine (tree_At.calls kb A1 c1 ps A2 c2 ns sz (-1) _ (Kd.C_below HR1.out HB.out) HC1.out (Kd.C_below HR2.out HB.out) HC2.out HKB.out).mono ?_
    rintro e wk ⟨rfl, hb⟩
    clear q0 q1 q2 qt
    have n0_ := Aside0.mk (blk_below BKF.out hb)
    have n1_ := Aside0.mk (blk_below BKT.out hb)
    have n2_ := Aside0.mk (below_step HB.out hb)
    clear BKF BKT HB hb
    have BKF := n0_
    have BKT := n1_
    have HB := n2_
    clear n0_ n1_ n2_
    go_wp2_with (fail)
    go_loopg [6] (sz.toNat) (fun gk v6 w' => ∃ x : Int, v6 = .int .i64 x ∧ Aside0 (0 ≤ x ∧ x ≤ sz ∧ (sz - x).toNat ≤ gk) ∧ Aside0 (w'.heap[gt]? = some (.cells #[.slice A2 ns.length c2] 25 (0, 0))) ∧ Aside0 (w'.heap[gf]? = some (.cells #[.string t, .slice A1 ps.length c1, .slice A2 ns.length c2] 27 (0, 0))) ∧ Aside0 (Below w.heap.size w w'))
    case atStart => exact ⟨0, rfl, ⟨⟨Int.le_refl _, HSZ.out.1, by have := HSZ.out; omega⟩⟩, BKT, BKF, HB⟩
    case round =>
      clear BKT BKF HB HKA HKB
      obtain ⟨x, rfl, HX, BKT, BKF, HB⟩ := hrel
      by_cases hx : x < sz
      · obtain ⟨kc, hkc⟩ := (Q.At_is ps ns x (by have := HPL.out; omega) (by have := HPL.out; omega)).rounds
        obtain ⟨r, hr⟩ : ∃ r, Q.lastAt ps x ns ns.length = r := ⟨_, rfl⟩
        rw [hr] at hkc
        have HKC := Aside0.mk hkc
        have HRR := Aside0.mk hr
        have b1 : decide (x < sz) = true := decide_eq_true hx
        have HXS := Aside0.mk hx
        clear hkc hr hx
        have q0 : wr.cell? ⟨gf, 0, none⟩ = some (.string t) := (blk_cell BKF.out 0).trans rfl
        have q1 : wr.cell? ⟨gf, 1, none⟩ = some (.slice A1 ps.length c1) := (blk_cell BKF.out 1).trans rfl
        have q2 : wr.cell? ⟨gf, 2, none⟩ = some (.slice A2 ns.length c2) := (blk_cell BKF.out 2).trans rfl
        have qt : wr.cell? ⟨gt, 0, none⟩ = some (.slice A2 ns.length c2) := (blk_cell BKT.out 0).trans rfl
        go_wp2_with (fail)
        refine (tree_At.calls kc A1 c1 ps A2 c2 ns x r _ (Kd.C_below HR1.out HB.out) HC1.out (Kd.C_below HR2.out HB.out) HC2.out HKC.out).mono ?_
        rintro e wk ⟨rfl, hb⟩
        clear q0 q1 q2 qt
        have n0_ := Aside0.mk (blk_below BKF.out hb)
        have n1_ := Aside0.mk (blk_below BKT.out hb)
        have n2_ := Aside0.mk (below_step HB.out hb)
        clear BKF BKT HB hb
        have BKF := n0_
        have BKT := n1_
        have HB := n2_
        clear n0_ n1_ n2_
        by_cases hr0 : r < 0
        · have b2 : decide (r < 0) = true := decide_eq_true hr0
          have hroot := Aside0.mk (SD.out.root x (by rw [HRR.out]; exact hr0))
          have HPO := Aside0.mk (show (0 : Int) < (ns.length : Int) by have := SD.out.pos; omega)
          clear hr0
          have q0 : wk.cell? ⟨gf, 0, none⟩ = some (.string t) := (blk_cell BKF.out 0).trans rfl
          have q1 : wk.cell? ⟨gf, 1, none⟩ = some (.slice A1 ps.length c1) := (blk_cell BKF.out 1).trans rfl
          have q2 : wk.cell? ⟨gf, 2, none⟩ = some (.slice A2 ns.length c2) := (blk_cell BKF.out 2).trans rfl
          have qt : wk.cell? ⟨gt, 0, none⟩ = some (.slice A2 ns.length c2) := (blk_cell BKT.out 0).trans rfl
          go_wp2_with (fail)
          refine (holds.calls t A1 c1 ps A2 c2 ns 0 x gt gf _ (Kd.C_below HR1.out HB.out) (Kd.C_below HR2.out HB.out) BKT.out BKF.out (Int.le_refl _) HPO.out (SD.out.in_ (Int.le_refl _) HPO.out) (by have := HPL.out; omega)).mono ?_
          rintro e wh ⟨rfl, hb⟩
          clear q0 q1 q2 qt
          have n0_ := Aside0.mk (blk_below BKF.out hb)
          have n1_ := Aside0.mk (blk_below BKT.out hb)
          have n2_ := Aside0.mk (below_step HB.out hb)
          clear BKF BKT HB hb
          have BKF := n0_
          have BKT := n1_
          have HB := n2_
          clear n0_ n1_ n2_
          rw [hroot.out]
          have hw1 : wrap64 (x + 1) = x + 1 := by unfold wrap64; have := HX.out; have := HXS.out; have := HSZ.out; omega
          go_wp2
          go_roundg (sz - (x + 1)).toNat
          case measure => have := HX.out; have := HXS.out; omega
          case rel => exact ⟨x + 1, by first | rfl | (rw [show wrap64 (x + 1) = x + 1 by unfold wrap64; have := HX.out; have := HXS.out; have := HSZ.out; omega]), ⟨⟨by have := HX.out; omega, by have := HXS.out; omega, by omega⟩⟩, BKT, BKF, HB⟩
        · have b2 : decide (r < 0) = false := decide_eq_false hr0
          have HR0 := Aside0.mk (show 0 ≤ r ∧ r < (ns.length : Int) from ⟨by omega, by rw [← HRR.out]; exact (Q.last_spec ps x ns ns.length).2.1⟩)
          clear hr0
          obtain ⟨kd, hkd⟩ := (Q.Kids_is ns (by have := HPL.out; omega) r).rounds
          have HKD := Aside0.mk hkd
          clear hkd
          have q0 : wk.cell? ⟨gf, 0, none⟩ = some (.string t) := (blk_cell BKF.out 0).trans rfl
          have q1 : wk.cell? ⟨gf, 1, none⟩ = some (.slice A1 ps.length c1) := (blk_cell BKF.out 1).trans rfl
          have q2 : wk.cell? ⟨gf, 2, none⟩ = some (.slice A2 ns.length c2) := (blk_cell BKF.out 2).trans rfl
          have qt : wk.cell? ⟨gt, 0, none⟩ = some (.slice A2 ns.length c2) := (blk_cell BKT.out 0).trans rfl
          go_wp2_with (fail)
          refine (tree_Kids.calls kd A2 c2 ns r (Q.kidsOf ns r) _ (Kd.C_below HR2.out HB.out) HC2.out HKD.out).mono ?_
          rintro e wm ⟨vm, rfl, hvm, hb⟩
          clear q0 q1 q2 qt
          have n0_ := Aside0.mk (blk_below BKF.out hb)
          have n1_ := Aside0.mk (blk_below BKT.out hb)
          have n2_ := Aside0.mk (below_step HB.out hb)
          clear BKF BKT HB hb
          have BKF := n0_
          have BKT := n1_
          have HB := n2_
          clear n0_ n1_ n2_
          obtain ⟨Am, cm, rfl, hcm, hCm⟩ := Kd.R_reads hvm
          have HCM := Aside0.mk hCm
          have HKN := Aside0.mk (show ∀ k ∈ Q.kidsOf ns r, 0 ≤ k ∧ k < (ns.length : Int) ∧ Q.holdB ps ns k x = false from fun k hk => ⟨(Q.kidsOf_mem ns r k hk).1, (Q.kidsOf_mem ns r k hk).2, SD.out.kid x k (by rw [HRR.out]; exact hk)⟩)
          have HKL := Aside0.mk (show (Q.kidsOf ns r).length ≤ 9223372036854775807 from by have := Kd.C_max HCM.out; omega)
          clear hvm hcm hCm
          generalize Q.kidsOf ns r = ks at HCM HKN HKL HKD ⊢
          go_wp2_with (fail)
          go_loopg [73] (ks.length) (fun gk2 v73 w' => ∃ j : Int, v73 = .int .i64 j ∧ Aside0 (0 ≤ j ∧ j ≤ (ks.length : Int) ∧ ((ks.length : Int) - j).toNat ≤ gk2) ∧ Aside0 (Kd.C (Kd.int .i64) w' Am ks.length ks) ∧ Aside0 (w'.heap[gt]? = some (.cells #[.slice A2 ns.length c2] 25 (0, 0))) ∧ Aside0 (w'.heap[gf]? = some (.cells #[.string t, .slice A1 ps.length c1, .slice A2 ns.length c2] 27 (0, 0))) ∧ Aside0 (Below w.heap.size w w'))
          case atStart => exact ⟨0, rfl, ⟨⟨Int.le_refl _, by omega, by omega⟩⟩, HCM, BKT, BKF, HB⟩
          case round =>
            clear BKT BKF HB HCM
            obtain ⟨j, rfl, HJ, HCM, BKT, BKF, HB⟩ := hrel
            by_cases hj : j < (ks.length : Int)
            · have hj0 := HJ.out.1
              have hjn : j.toNat < ks.length := by omega
              have hmem : rd ks j ∈ ks := by
                have e : rd ks j = ks[j.toNat] := by simp [rd, List.getD_eq_getElem?_getD, hjn]
                rw [e]
                exact List.getElem_mem _
              have HM := Aside0.mk (HKN.out _ hmem)
              obtain ⟨adm, em, hxm⟩ := Kd.at_int HCM.out j hj0 hj
              subst em
              have k1_ : (0 ≤ j) = True := eq_true hj0
              have k2_ : (j < (ks.length : Int)) = True := eq_true hj
              have HJL := Aside0.mk hj
              clear hmem hjn hj0 hj
              have q0 : wr.cell? ⟨gf, 0, none⟩ = some (.string t) := (blk_cell BKF.out 0).trans rfl
              have q1 : wr.cell? ⟨gf, 1, none⟩ = some (.slice A1 ps.length c1) := (blk_cell BKF.out 1).trans rfl
              have q2 : wr.cell? ⟨gf, 2, none⟩ = some (.slice A2 ns.length c2) := (blk_cell BKF.out 2).trans rfl
              have qt : wr.cell? ⟨gt, 0, none⟩ = some (.slice A2 ns.length c2) := (blk_cell BKT.out 0).trans rfl
              go_wp2_with (fail)
              refine (holds.calls t A1 c1 ps A2 c2 ns (rd ks j) x gt gf _ (Kd.C_below HR1.out HB.out) (Kd.C_below HR2.out HB.out) BKT.out BKF.out HM.out.1 HM.out.2.1 (SD.out.in_ HM.out.1 HM.out.2.1) (by have := HPL.out; omega)).mono ?_
              rintro e wh ⟨rfl, hb⟩
              rw [HM.out.2.2]
              have n3_ := Aside0.mk (Kd.C_below HCM.out hb)
              clear HCM hxm
              clear q0 q1 q2 qt
              have n0_ := Aside0.mk (blk_below BKF.out hb)
              have n1_ := Aside0.mk (blk_below BKT.out hb)
              have n2_ := Aside0.mk (below_step HB.out hb)
              clear BKF BKT HB hb
              have BKF := n0_
              have BKT := n1_
              have HB := n2_
              clear n0_ n1_ n2_
              have HCM := n3_
              clear n3_
              have hw2 : wrap64 (j + 1) = j + 1 := by unfold wrap64; have := HJ.out; have := HJL.out; have := HKL.out; omega
              go_wp2
              go_roundg ((ks.length : Int) - (j + 1)).toNat
              case measure => have := HJ.out; have := HJL.out; omega
              case rel => exact ⟨j + 1, by first | rfl | (rw [show wrap64 (j + 1) = j + 1 by unfold wrap64; have := HJ.out; have := HJL.out; have := HKL.out; omega]), ⟨⟨by have := HJ.out; omega, by have := HJL.out; omega, by omega⟩⟩, HCM, BKT, BKF, HB⟩
            · have k2_ : (j < (ks.length : Int)) = False := eq_false hj
              clear hj
              have HSELF := Aside0.mk (show Q.holdB ps ns r x = true by have := SD.out.self x (by rw [HRR.out]; exact HR0.out.1); rw [HRR.out] at this; exact this)
              go_wp2_with (fail)
              go_loopg [10] (r.toNat + 1) (fun gk3 v10 w' => ∃ p : Int, v10 = .int .i64 p ∧ Aside0 (-1 ≤ p ∧ p < (ns.length : Int) ∧ (p + 1).toNat ≤ gk3 ∧ (0 ≤ p → Q.holdB ps ns p x = true)) ∧ Aside0 (w'.heap[gt]? = some (.cells #[.slice A2 ns.length c2] 25 (0, 0))) ∧ Aside0 (w'.heap[gf]? = some (.cells #[.string t, .slice A1 ps.length c1, .slice A2 ns.length c2] 27 (0, 0))) ∧ Aside0 (Below w.heap.size w w'))
              case atStart => exact ⟨r, rfl, ⟨⟨by have := HR0.out; omega, HR0.out.2, by have := HR0.out; omega, fun _ => HSELF.out⟩⟩, BKT, BKF, HB⟩
              case round =>
                clear BKT BKF HB
                obtain ⟨p, rfl, HP, BKT, BKF, HB⟩ := hrel
                by_cases hp : 0 ≤ p
                · have k3_ : decide (0 ≤ p) = true := decide_eq_true hp
                  have HP0 := Aside0.mk hp
                  have HUP := Aside0.mk (SD.out.upw x p hp HP.out.2.1 (HP.out.2.2.2 hp))
                  obtain ⟨ke, hke⟩ := (Q.Up_is ns (by have := HPL.out; omega) p).rounds
                  have HKE := Aside0.mk hke
                  clear hp hke
                  have q0 : wr.cell? ⟨gf, 0, none⟩ = some (.string t) := (blk_cell BKF.out 0).trans rfl
                  have q1 : wr.cell? ⟨gf, 1, none⟩ = some (.slice A1 ps.length c1) := (blk_cell BKF.out 1).trans rfl
                  have q2 : wr.cell? ⟨gf, 2, none⟩ = some (.slice A2 ns.length c2) := (blk_cell BKF.out 2).trans rfl
                  have qt : wr.cell? ⟨gt, 0, none⟩ = some (.slice A2 ns.length c2) := (blk_cell BKT.out 0).trans rfl
                  go_wp2_with (fail)
                  refine (holds.calls t A1 c1 ps A2 c2 ns p x gt gf _ (Kd.C_below HR1.out HB.out) (Kd.C_below HR2.out HB.out) BKT.out BKF.out HP0.out HP.out.2.1 (SD.out.in_ HP0.out HP.out.2.1) (by have := HPL.out; omega)).mono ?_
                  rintro e wh ⟨rfl, hb⟩
                  rw [HP.out.2.2.2 HP0.out]
                  clear q0 q1 q2 qt
                  have n0_ := Aside0.mk (blk_below BKF.out hb)
                  have n1_ := Aside0.mk (blk_below BKT.out hb)
                  have n2_ := Aside0.mk (below_step HB.out hb)
                  clear BKF BKT HB hb
                  have BKF := n0_
                  have BKT := n1_
                  have HB := n2_
                  clear n0_ n1_ n2_
                  have q0 : wh.cell? ⟨gf, 0, none⟩ = some (.string t) := (blk_cell BKF.out 0).trans rfl
                  have q1 : wh.cell? ⟨gf, 1, none⟩ = some (.slice A1 ps.length c1) := (blk_cell BKF.out 1).trans rfl
                  have q2 : wh.cell? ⟨gf, 2, none⟩ = some (.slice A2 ns.length c2) := (blk_cell BKF.out 2).trans rfl
                  have qt : wh.cell? ⟨gt, 0, none⟩ = some (.slice A2 ns.length c2) := (blk_cell BKT.out 0).trans rfl
                  go_wp2_with (fail)
                  refine (tree_Up.calls ke A2 c2 ns p (Q.upOf ns p) _ (Kd.C_below HR2.out HB.out) HC2.out HKE.out).mono ?_
                  rintro e wu ⟨rfl, hb⟩
                  clear q0 q1 q2 qt
                  have n0_ := Aside0.mk (blk_below BKF.out hb)
                  have n1_ := Aside0.mk (blk_below BKT.out hb)
                  have n2_ := Aside0.mk (below_step HB.out hb)
                  clear BKF BKT HB hb
                  have BKF := n0_
                  have BKT := n1_
                  have HB := n2_
                  clear n0_ n1_ n2_
                  go_wp2
                  go_roundg (Q.upOf ns p + 1).toNat
                  case measure => have := HUP.out; have := HP.out; have := HP0.out; omega
                  case rel => exact ⟨Q.upOf ns p, rfl, ⟨⟨HUP.out.2.1, by have := HUP.out; have := HP.out; omega, by omega, HUP.out.2.2⟩⟩, BKT, BKF, HB⟩
                · have k3_ : decide (0 ≤ p) = false := decide_eq_false hp
                  clear hp
                  have hw1 : wrap64 (x + 1) = x + 1 := by unfold wrap64; have := HX.out; have := HXS.out; have := HSZ.out; omega
                  go_wp2
                  go_roundg (sz - (x + 1)).toNat
                  case measure => have := HX.out; have := HXS.out; omega
                  case rel => exact ⟨x + 1, by first | rfl | (rw [show wrap64 (x + 1) = x + 1 by unfold wrap64; have := HX.out; have := HXS.out; have := HSZ.out; omega]), ⟨⟨by have := HX.out; omega, by have := HXS.out; omega, by omega⟩⟩, BKT, BKF, HB⟩
      · have b1 : decide (x < sz) = false := decide_eq_false hx
        clear hx
        go_wp2
        go_ret
        exact ⟨rfl, HB.out⟩
end Go.Proofs.Ytodldpdnhcafpaa.L


namespace Go.Proofs.Ytodldpdnhcafpaa.treeBytes
open Go.ChangeShapes Go.WideShapes Go.ChangeAt Go.RowKit Go.Proofs.Ytodldpdnhcafpaa
open Go.ChangeMaps (open_string shut_string)
set_option linter.unusedVariables false
theorem own : ownKnob Try.prog.godebug = none := by kernel_rfl
theorem laidOut : laidOutB Try.prog = true := by kernel_rfl
set_option maxRecDepth 100000 in
theorem lifted (os : Os) (started : os.Started) (H : Type) (enc : TypeId × Value → H) :
    ReturnsInHanded {} Try.checked os 13 .any (Rows.treeBytesSpec.pre6 enc Try.prog Try.f13 Rows.treeBytesRow.domain false) (Rows.treeBytesSpec.post enc Try.prog Try.f13 false true false false) := by
  refine returnsInHanded_of_change_sized (C := Try.checked) own started (by kernel_rfl) Try.func13
    (ChangeSpec.witness6 (enc := enc) (C := Try.checked) false ⟨#[], #[.agg #[.string ByteArray.empty, .slice none 0 0, .slice none 0 0]], []⟩ 8 (by kernel_rfl) (by kernel_rfl) (by kernel_rfl) (by kernel_rfl)) ?_
  intro W base args ds gs before hval0 hW hcnd hsz0 _
  have hsz : (DataW.weightsEach Try.prog (Try.f13.params.toList ++ Rows.treeBytesSpec.plain.varTypes Try.prog) (ds ++ gs)).all (· ≤ reachBytes) = true := hsz0
  have hval : ∀ (j : Nat) t v, Try.f13.params[j]? = some t → args[j]? = some v → Value.okWide Try.prog W .any base t v := hval0
  have hW' := hW
  obtain ⟨p, q, hA0, hV, rfl, hfz, hnd⟩ := hW
  have hA : DataW.TrodAll enc Try.prog W 0 (fun _ => true) true Try.f13.params.toList args.toList ds p := hA0
  rw [Try.params13] at hA hval hsz
  obtain ⟨v0, vs0, d0, ds0, p0, q0, hargs, rfl, rfl, h0, r0⟩ := trodAll_cons hA
  obtain ⟨rfl, rfl, rfl⟩ := trodAll_nil r0
  obtain rfl : args = #[v0] := by cases args; simp_all
  obtain ⟨rfl, rfl⟩ := trodVars_none hV
  have k0 := h0
  have lt0 : ∀ x ∈ p0, x.block < W.heap.size := by obtain ⟨m, hm⟩ := k0; exact DataW.trod_lt m _ _ _ hm
  have hq0 : ∀ n ∈ DataW.weights Try.prog 27 d0, n ≤ reachBytes := fun n hn => of_decide_eq_true (List.all_eq_true.1 hsz n (DataW.weights_mem_each (j := 0) rfl rfl n hn))
  obtain ⟨t0, A0, c0, l0, B0, e0, m0, rfl, hf0_0, hf0_1, hf0_2, hf0_3, hf0_4, hf0_5, hf0_6, hf0_7, hf0_8, hf0_9, hf0_10⟩ := Go.Proofs.Ytodldpdnhcafpaa.H.open27 (hval 0 27 v0 rfl rfl) h0 hq0
  clear hA0 hval0 hsz0 hsz
  refine (Go.Proofs.Ytodldpdnhcafpaa.L.bytes_walk t0 A0 c0 l0 B0 e0 m0 W hf0_0 hf0_1 hf0_2 hf0_3 hf0_4 hf0_5 hf0_6 hf0_7 hf0_8 hf0_9 hf0_10).mono fun e W' ⟨he, bel⟩ => ?_
  subst he
  exact ⟨_, rfl, _, _, _, [], _, [], hW', trodAll_mk1 (shut_bool Try.underlying4 _), (trodAll_cons_mk (Below.trod laidOut (by kernel_rfl) (of_decide_eq_true (by kernel_rfl)) k0 bel lt0) trodAll_mk0), rfl, bel.frame _, fun h => by cases h⟩
theorem over : Rows.treeBytesRow.holds Try.pinned (OpenSpec.ofChange Rows.treeBytesSpec) :=
  OpenClaim.holds_of_wide 13 Try.f13 rfl rfl rfl rfl rfl rfl rfl ⟨rfl, rfl, rfl, rfl, rfl⟩ rfl rfl rfl rfl rfl (by kernel_rfl) Try.func13 (by kernel_rfl)
    (of_decide_eq_true (by kernel_rfl)) (by unfold Func.isWrapper; first | (rw [if_pos (by decide +kernel)]; kernel_rfl) | (rw [if_neg (by decide +kernel)]; exact ⟨rfl, rfl⟩))
    (fun os started H enc _ => lifted os started H enc)
theorem proved : Rows.TreeBytesSaid := over
#print axioms proved
end Go.Proofs.Ytodldpdnhcafpaa.treeBytes
namespace Go.Proofs.Ytodldpdnhcafpaa
/-- The row, under a short name, for the claim. -/
theorem treeBytes_holds : Rows.TreeBytesSaid := treeBytes.proved
end Go.Proofs.Ytodldpdnhcafpaa
