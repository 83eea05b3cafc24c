-- A text of this session's own program (wip/myprint.sh over a changed print tool): functions and their walks
import Derived.Test.YtodldpdnhcafpaaF0
import Derived.Test.YtodldpdnhcafpaaF11
namespace Go.Proofs.Ytodldpdnhcafpaa.F
open Go.RowKit Go.Proofs.YtodldpdnhcafpaaW.PrintWords Go.Proofs.YtodldpdnhcafpaaW.PrintLast Go.Proofs.YtodldpdnhcafpaaW.PrintMore
attribute [local go_sem] max2_int min2_int max_two min_two max_three min_three max_four min_four   -- for this text's walks alone
set_option linter.unusedVariables false
set_option linter.unusedSimpArgs false

/-! ### tree_Names: function 23 -/
mutual
def tree_Names.l0 : Nat → ByteArray → List (S61) → List Int → List (S47) → Int → Int → Option (List Int)
  | 0, _, _, _, _, _, _ => none
  | k + 1, x0, x1, x7, x12, x13, x14 => if x14 < x13 then (if 0 ≤ x14 then (if x14 < (x12.length : Int) then (if ((rd_T47 x12 x14).f0) = 45 then (if ((rd_T47 x12 x14).f1) < 0 then (tree_Names.j1 k x0 x1 x7 x12 x13 x14 true ((rd_T47 x12 x14).f0) ((rd_T47 x12 x14).f1) ((rd_T47 x12 x14).f2) ((rd_T47 x12 x14).f3)) else (if ((rd_T47 x12 x14).f1) ≥ (x1.length : Int) then (tree_Names.j1 k x0 x1 x7 x12 x13 x14 true ((rd_T47 x12 x14).f0) ((rd_T47 x12 x14).f1) ((rd_T47 x12 x14).f2) ((rd_T47 x12 x14).f3)) else (if 0 ≤ ((rd_T47 x12 x14).f1) then (if ((rd_T47 x12 x14).f1) < (x1.length : Int) then (tree_Names.j1 k x0 x1 x7 x12 x13 x14 (((rd_T61 x1 ((rd_T47 x12 x14).f1)).f0) != 2) ((rd_T47 x12 x14).f0) ((rd_T47 x12 x14).f1) ((rd_T47 x12 x14).f2) ((rd_T47 x12 x14).f3)) else (none)) else (none)))) else (tree_Names.j1 k x0 x1 x7 x12 x13 x14 true ((rd_T47 x12 x14).f0) ((rd_T47 x12 x14).f1) ((rd_T47 x12 x14).f2) ((rd_T47 x12 x14).f3))) else (none)) else (none)) else (some x7)
def tree_Names.j1 : Nat → ByteArray → List (S61) → List Int → List (S47) → Int → Int → Bool → Int → Int → Int → Int → Option (List Int)
  | 0, _, _, _, _, _, _, _, _, _, _, _ => none
  | k + 1, x0, x1, x7, x12, x13, x14, x41, x174000, x174001, x174002, x174003 => if x41 = true then (tree_Names.l0 k x0 x1 x7 x12 x13 (wrap64 (x14 + 1))) else (if 0 ≤ x174001 then (if x174001 < (x1.length : Int) then ((tree_word.f x0 ((rd_T61 x1 x174001).f0) ((rd_T61 x1 x174001).f1) ((rd_T61 x1 x174001).f2)).bind fun t176 => (if t176.toList = ([] : List UInt8) then (tree_Names.l0 k x0 x1 x7 x12 x13 (wrap64 (x14 + 1))) else (if t176.toList = ([95] : List UInt8) then (tree_Names.l0 k x0 x1 x7 x12 x13 (wrap64 (x14 + 1))) else (if x7.length < 17592186044416 then (tree_Names.l0 k x0 x1 (x7 ++ [x174001]) x12 x13 (wrap64 (x14 + 1))) else (none))))) else (none)) else (none))
end
def tree_Names.f (k : Nat) (a0 : ByteArray) (l1 : List (S61)) (l2_0 : List (S47)) : Option (List Int) := tree_Names.l0 k a0 l1 ([] : List Int) l2_0 (l2_0.length : Int) 0
theorem tree_Names.mono_l : ∀ k, (∀ y0 y1 y2 y3 y4 y5, LeO (tree_Names.l0 k y0 y1 y2 y3 y4 y5) (tree_Names.l0 (k + 1) y0 y1 y2 y3 y4 y5)) ∧ (∀ y0 y1 y2 y3 y4 y5 y6 y7 y8 y9 y10, LeO (tree_Names.j1 k y0 y1 y2 y3 y4 y5 y6 y7 y8 y9 y10) (tree_Names.j1 (k + 1) y0 y1 y2 y3 y4 y5 y6 y7 y8 y9 y10))
  | 0 => ⟨fun _ _ _ _ _ _ r h => by simp [tree_Names.l0] at h, fun _ _ _ _ _ _ _ _ _ _ _ r h => by simp [tree_Names.j1] at h⟩
  | k + 1 => by
    obtain ⟨ih0, ih1⟩ := tree_Names.mono_l k
    refine ⟨?_, ?_⟩
    · intro y0 y1 y2 y3 y4 y5
      unfold tree_Names.l0
      repeat' first
      | (with_reducible exact ih0 _ _ _ _ _ _)
      | (with_reducible exact ih1 _ _ _ _ _ _ _ _ _ _ _)
      | (with_reducible exact LeO.refl _)
      | (with_reducible exact LeO.none _)
      | (with_reducible refine LeO.ite ?_ ?_)
      | (with_reducible refine LeO.bind ?_ (fun _ => ?_))
      | exact ih0 _ _ _ _ _ _
      | exact ih1 _ _ _ _ _ _ _ _ _ _ _
      | exact LeO.none _
      | refine LeO.ite ?_ ?_
      | refine LeO.bind ?_ (fun _ => ?_)
    · intro y0 y1 y2 y3 y4 y5 y6 y7 y8 y9 y10
      unfold tree_Names.j1
      repeat' first
      | (with_reducible exact ih0 _ _ _ _ _ _)
      | (with_reducible exact ih1 _ _ _ _ _ _ _ _ _ _ _)
      | (with_reducible exact LeO.refl _)
      | (with_reducible exact LeO.none _)
      | (with_reducible refine LeO.ite ?_ ?_)
      | (with_reducible refine LeO.bind ?_ (fun _ => ?_))
      | exact ih0 _ _ _ _ _ _
      | exact ih1 _ _ _ _ _ _ _ _ _ _ _
      | exact LeO.none _
      | refine LeO.ite ?_ ?_
      | refine LeO.bind ?_ (fun _ => ?_)
theorem tree_Names.mono : ∀ a0 a1 a2 k, LeO (tree_Names.f k a0 a1 a2) (tree_Names.f (k + 1) a0 a1 a2) := by
  intro a0 a1 a2 k
  obtain ⟨ih0, ih1⟩ := tree_Names.mono_l k
  unfold tree_Names.f
  repeat' first
      | (with_reducible exact ih0 _ _ _ _ _ _)
      | (with_reducible exact ih1 _ _ _ _ _ _ _ _ _ _ _)
      | (with_reducible exact LeO.refl _)
      | (with_reducible exact LeO.none _)
      | (with_reducible refine LeO.ite ?_ ?_)
      | (with_reducible refine LeO.bind ?_ (fun _ => ?_))
      | exact ih0 _ _ _ _ _ _
      | exact ih1 _ _ _ _ _ _ _ _ _ _ _
      | exact LeO.none _
      | refine LeO.ite ?_ ?_
      | refine LeO.bind ?_ (fun _ => ?_)
set_option maxHeartbeats 8000000 in
set_option maxRecDepth 100000 in
theorem tree_Names.calls (k : Nat) (a0 : ByteArray) (A1 : Option Addr) (c1 : Nat) (l1 : List (S61)) (A2_0 : Option Addr) (c2_0 : Nat) (l2_0 : List (S47)) (r : List Int) (w : World) (hr1 : Kd.C k61 w A1 l1.length l1) (hc1 : l1.length ≤ c1) (hr2_0 : Kd.C k47 w A2_0 l2_0.length l2_0) (hc2_0 : l2_0.length ≤ c2_0) (h : tree_Names.f k a0 l1 l2_0 = some r) :
    Calls Try.prog 23 #[.string a0, .slice A1 l1.length c1, .agg #[.slice A2_0 l2_0.length c2_0]] w fun e w' => ∃ v0_ : Value, e = .returned (v0_) ∧ Kd.R (Kd.int .i64) 3 w' w.heap.size (fun _ => True) v0_ r ∧ Below w.heap.size w w' := by
  have hu25 := Try.underlying25
  have hu47 := Try.underlying47
  have hu61 := Try.underlying61
  have HR1 := Aside0.mk hr1
  have HC1 := Aside0.mk hc1
  clear hr1 hc1
  have HR2_0 := Aside0.mk hr2_0
  have HC2_0 := Aside0.mk hc2_0
  clear hr2_0 hc2_0
  have HB := Aside0.mk (Below.refl w.heap.size w)
  have H : (tree_Names.l0 k a0 l1 ([] : List Int) l2_0 (l2_0.length : Int) 0) = some r := h
  clear h
  have H' := Aside0.mk H
  clear H
  go_enter Try.func23, Try.ntmps23
  go_wp2_with (first | ((with_reducible refine gate_dst (N := 5) rfl ?_); (try (refine gate_guard (by rfl) ?_; dsimp only)); refine box_event ?hg (N := 5) ?hd (cs := #[.slice A2_0 l2_0.length c2_0]) (t := 25) ?hr ?_; (case hd => rfl); (case hg => rfl); (case hr => first | (go_simp; done) | (go_simp; rfl)); intro gb171 hg w4 hbox hb; have n0_ := Aside0.mk (below_step (by repeat (first | (with_reducible first | exact HB.out | apply below_alloc | apply pw_below_drewN | apply below_drew1) | exact HB.out)) hb); have n1_ := Aside0.mk (hbox); have n2_ := Aside0.mk ((by rw [hg]; exact (below_size (by repeat (first | (with_reducible first | exact HB.out | apply below_alloc | apply pw_below_drewN | apply below_drew1) | exact HB.out))) : w.heap.size ≤ gb171)); have n3_ := Aside0.mk ((by rw [hg]; exact (below_size (by repeat (first | (with_reducible first | exact HB.out | apply below_alloc | apply pw_below_drewN | apply below_drew1) | exact HB.out))) : w.heap.size ≤ gb171)); clear HB; have HB := n0_; have BK171 := n1_; have GW171 := n2_; have GE171 := n3_; clear n0_ n1_ n2_ n3_; clear hb hbox hg; have hcz5_0 : w4.cell? ⟨gb171, 0, none⟩ = some (.slice A2_0 l2_0.length c2_0) := (blk_cell BK171.out 0).trans rfl; have hfz5_0 := blk_frozen BK171.out 0))
  go_loopg [7, 14] k (fun kq v7 v14 w' => ∃ (x7_1 : List Int) (x14_1 : Int), v14 = .int .i64 x14_1 ∧ Aside0 (tree_Names.l0 kq a0 l1 x7_1 l2_0 (l2_0.length : Int) x14_1 = some r) ∧ Aside0 (kq ≤ k) ∧ Aside0 (Kd.R (Kd.int .i64) 3 w' w.heap.size (fun _ => True) v7 x7_1) ∧ Aside0 (w'.heap[gb171]? = some (.cells #[(.slice A2_0 l2_0.length c2_0)] 25 (0, 0))) ∧ Aside0 (Below w.heap.size w w'))
  case atStart => exact ⟨(([] : List Int)), (0), (by first | rfl | (simp; done) | (simp [*]; done)), H', ⟨Nat.le_refl _⟩, ⟨by first | exact Kd.R_nil _ _ _ _ _ | exact Kd.N_nil _ _ _ _ _ | exact Kd.V_nil _ _ _ _ _ | exact Kd.Q_nil _ _ _ _ _ | exact Kd.S_nil _ _ _ _ _⟩, ⟨by (with_reducible repeat (first | refine blk_drewN ?_ _ | refine blk_drew ?_ | refine blk_alloc ?_ _)); exact BK171.out⟩, ⟨by repeat (first | (with_reducible first | exact HB.out | apply below_alloc | apply pw_below_drewN | apply below_drew1 | refine below_set ?_ GE171.out) | exact HB.out)⟩⟩
  case round =>
    clear H'
    try clear c1
    try clear c2
    try clear p2
    try clear hcz5_0
    try clear hfz5_0
    obtain ⟨x7_1, x14_1, rfl, HA, HK1, HO_7, BK171, HB⟩ := hrel
    cases gk with
    | zero => exact absurd HA.out (by simp [tree_Names.l0])
    | succ k1 =>
      have H := HA.out
      clear HA
      simp only [tree_Names.l0] at H
      by_cases c6 : x14_1 < (l2_0.length : Int)
      · rw [if_pos c6] at H
        have c6b0 : decide (x14_1 < (l2_0.length : Int)) = true := decide_eq_true c6
        clear c6
        by_cases c7 : 0 ≤ x14_1
        · rw [if_pos c7] at H
          have c7b0 : decide (0 ≤ x14_1) = true := decide_eq_true c7
          clear c7
          by_cases c8 : x14_1 < (l2_0.length : Int)
          · rw [if_pos c8] at H
            have c8b0 : decide (x14_1 < (l2_0.length : Int)) = true := decide_eq_true c8
            clear c8
            have HC9 := Aside0.mk H
            clear H
            have p172 : 0 ≤ (x14_1 : Int) := of_decide_eq_true (by first | (with_reducible assumption) | assumption)
            have q172 : x14_1 < (l2_0.length : Int) := of_decide_eq_true (by first | (with_reducible assumption) | assumption)
            obtain ⟨ad172, e172, hx172_0, hx172_1, hx172_2, hx172_3⟩ := at_T47 HR2_0.out x14_1 p172 q172
            cases e172
            replace hx172_0 := (HB.out.cell (World.block_lt_of_cell? w _ hx172_0)).trans hx172_0
            replace hx172_1 := (HB.out.cell (World.block_lt_of_cell? w _ hx172_1)).trans hx172_1
            replace hx172_2 := (HB.out.cell (World.block_lt_of_cell? w _ hx172_2)).trans hx172_2
            replace hx172_3 := (HB.out.cell (World.block_lt_of_cell? w _ hx172_3)).trans hx172_3
            replace p172 := eq_true p172
            replace q172 := eq_true q172
            go_upto_region 5 with (first | ((with_reducible refine gate_dst (N := 9) rfl ?_); (try (refine gate_guard (by rfl) ?_; dsimp only)); refine box_event ?hg (N := 9) ?hd (cs := #[.int .u8 0, .int .i64 0, .int .i64 0, .int .i64 0]) (t := 47) ?hr ?_; (case hd => rfl); (case hg => rfl); (case hr => first | (go_simp; done) | (go_simp; rfl)); intro gb173 hg w10 hbox hb; have n0_ := Aside0.mk (Kd.R_below (by (with_reducible repeat (first | apply Kd.R_alloc | apply Kd.R_drewN | apply Kd.R_drew)); exact HO_7.out) hb); have n1_ := Aside0.mk (blk_below (g := gb171) (o := .cells #[.slice (some ad172) l2_0.length c2_0] 25 (0, 0)) (by (with_reducible repeat (first | refine blk_drewN ?_ _ | refine blk_drew ?_ | refine blk_alloc ?_ _)); exact BK171.out) hb); have n2_ := Aside0.mk (below_step (by repeat (first | (with_reducible first | exact HB.out | apply below_alloc | apply pw_below_drewN | apply below_drew1 | refine below_set ?_ GE171.out) | exact HB.out)) hb); have n3_ := Aside0.mk (hbox); have n4_ := Aside0.mk ((by rw [hg]; exact (below_size (by repeat (first | (with_reducible first | exact HB.out | apply below_alloc | apply pw_below_drewN | apply below_drew1 | refine below_set ?_ GE171.out) | exact HB.out))) : w.heap.size ≤ gb173)); have n5_ := Aside0.mk ((by rw [hg]; exact (below_size (by repeat (first | (with_reducible first | exact HB.out | apply below_alloc | apply pw_below_drewN | apply below_drew1 | refine below_set ?_ GE171.out) | exact HB.out))) : w.heap.size ≤ gb173)); have n6_ := Aside0.mk ((by rw [hg]; exact Nat.ne_of_lt (blk_lt (g := gb171) (o := .cells #[.slice (some ad172) l2_0.length c2_0] 25 (0, 0)) (by (with_reducible repeat (first | refine blk_drewN ?_ _ | refine blk_drew ?_ | refine blk_alloc ?_ _)); exact BK171.out)) : gb171 ≠ gb173)); have n7_ := Aside0.mk ((by rw [hg]; exact Nat.ne_of_gt (blk_lt (g := gb171) (o := .cells #[.slice (some ad172) l2_0.length c2_0] 25 (0, 0)) (by (with_reducible repeat (first | refine blk_drewN ?_ _ | refine blk_drew ?_ | refine blk_alloc ?_ _)); exact BK171.out)) : gb173 ≠ gb171)); clear HO_7; clear BK171; clear HB; have HO_7 := n0_; have BK171 := n1_; have HB := n2_; have BK173 := n3_; have GW173 := n4_; have GE173 := n5_; have NB171_173 := n6_; have NB173_171 := n7_; clear n0_ n1_ n2_ n3_ n4_ n5_ n6_ n7_; clear hb hbox hg; have hnb11 := NB173_171.out; have hnc11 := NB171_173.out; have hcz12_0 : w10.cell? ⟨gb173, 0, none⟩ = some (.int .u8 0) := (blk_cell BK173.out 0).trans rfl; have hcz12_1 : w10.cell? ⟨gb173, 1, none⟩ = some (.int .i64 0) := (blk_cell BK173.out 1).trans rfl; have hcz12_2 : w10.cell? ⟨gb173, 2, none⟩ = some (.int .i64 0) := (blk_cell BK173.out 2).trans rfl; have hcz12_3 : w10.cell? ⟨gb173, 3, none⟩ = some (.int .i64 0) := (blk_cell BK173.out 3).trans rfl; have hfz12_0 := blk_frozen BK173.out 0; have hfz12_1 := blk_frozen BK173.out 1; have hfz12_2 := blk_frozen BK173.out 2; have hfz12_3 := blk_frozen BK173.out 3))
            (try simp only [Act.put, List.setIfInBounds_toArray, List.set_cons_zero, List.set_cons_succ])
            go_cut [41] (fun v41 wc => ∃ (kq : Nat) (x41_8 : Bool), v41 = .bool x41_8 ∧ Aside0 (tree_Names.j1 kq a0 l1 x7_1 l2_0 (l2_0.length : Int) x14_1 x41_8 ((rd_T47 l2_0 x14_1).f0) ((rd_T47 l2_0 x14_1).f1) ((rd_T47 l2_0 x14_1).f2) ((rd_T47 l2_0 x14_1).f3) = some r) ∧ Aside0 (kq ≤ k1) ∧ Aside0 (Kd.R (Kd.int .i64) 3 wc w.heap.size (fun _ => True) u7 x7_1) ∧ Aside0 (wc.heap[gb171]? = some (.cells #[(.slice (some ad172) l2_0.length c2_0)] 25 (0, 0))) ∧ Aside0 (wc.heap[gb173]? = some (.cells #[.int .u8 ((rd_T47 l2_0 x14_1).f0), .int .i64 ((rd_T47 l2_0 x14_1).f1), .int .i64 ((rd_T47 l2_0 x14_1).f2), .int .i64 ((rd_T47 l2_0 x14_1).f3)] 47 (0, 0))) ∧ Aside0 (Below w.heap.size w wc))
            case first =>
              have H := HC9.out
              clear HC9
              by_cases c13 : ((rd_T47 l2_0 x14_1).f0) = 45
              · rw [if_pos c13] at H
                have c13b0 : (((rd_T47 l2_0 x14_1).f0) == 45) = true := beq_iff_eq.mpr c13
                have c13b1 : (((rd_T47 l2_0 x14_1).f0) != 45) = false := bne_eq_false_iff_eq.mpr c13
                clear c13
                (first | rw [c13b0] | (simp only [i64_w, i32_w]; rw [c13b0]) | skip)
                by_cases c14 : ((rd_T47 l2_0 x14_1).f1) < 0
                · rw [if_pos c14] at H
                  have c14b0 : decide (((rd_T47 l2_0 x14_1).f1) < 0) = true := decide_eq_true c14
                  clear c14
                  have H' := Aside0.mk H
                  clear H
                  have hnb15 := NB173_171.out
                  have hnc15 := NB171_173.out
                  have hcz16_0 : w10.cell? ⟨gb173, 0, none⟩ = some (.int .u8 0) := (blk_cell BK173.out 0).trans rfl
                  have hcz16_1 : w10.cell? ⟨gb173, 1, none⟩ = some (.int .i64 0) := (blk_cell BK173.out 1).trans rfl
                  have hcz16_2 : w10.cell? ⟨gb173, 2, none⟩ = some (.int .i64 0) := (blk_cell BK173.out 2).trans rfl
                  have hcz16_3 : w10.cell? ⟨gb173, 3, none⟩ = some (.int .i64 0) := (blk_cell BK173.out 3).trans rfl
                  have hfz16_0 := blk_frozen BK173.out 0
                  have hfz16_1 := blk_frozen BK173.out 1
                  have hfz16_2 := blk_frozen BK173.out 2
                  have hfz16_3 := blk_frozen BK173.out 3
                  go_wp2
                  go_meet
                  case rel => exact ⟨_, (true), (by first | rfl | (simp; done) | (simp [*]; done)), H', ⟨by have := HK1.out; first | omega | exact Nat.le_refl _⟩, ⟨by (with_reducible repeat (first | apply Kd.R_alloc | apply Kd.R_drewN | apply Kd.R_drew)); exact Kd.R_mono (Kd.R_far (p := ⟨gb173, 3, none⟩) (Kd.R_far (p := ⟨gb173, 2, none⟩) (Kd.R_far (p := ⟨gb173, 1, none⟩) (Kd.R_far (p := ⟨gb173, 0, none⟩) (Kd.R_types HO_7.out BK173.out (by decide)) (fun _ hk => hk.2) (.int .u8 ((rd_T47 l2_0 x14_1).f0))) (fun _ hk => hk.2) (.int .i64 ((rd_T47 l2_0 x14_1).f1))) (fun _ hk => hk.2) (.int .i64 ((rd_T47 l2_0 x14_1).f2))) (fun _ hk => hk.2) (.int .i64 ((rd_T47 l2_0 x14_1).f3))) (fun _ hk => trivial)⟩, ⟨by (with_reducible repeat (first | refine blk_drewN ?_ _ | refine blk_drew ?_ | refine blk_alloc ?_ _)); refine blk_far ?_ NB171_173.out _; (with_reducible repeat (first | refine blk_drewN ?_ _ | refine blk_drew ?_ | refine blk_alloc ?_ _)); refine blk_far ?_ NB171_173.out _; (with_reducible repeat (first | refine blk_drewN ?_ _ | refine blk_drew ?_ | refine blk_alloc ?_ _)); refine blk_far ?_ NB171_173.out _; (with_reducible repeat (first | refine blk_drewN ?_ _ | refine blk_drew ?_ | refine blk_alloc ?_ _)); refine blk_far ?_ NB171_173.out _; (with_reducible repeat (first | refine blk_drewN ?_ _ | refine blk_drew ?_ | refine blk_alloc ?_ _)); exact BK171.out⟩, ⟨by (with_reducible repeat (first | refine blk_drewN ?_ _ | refine blk_drew ?_ | refine blk_alloc ?_ _)); refine blk_put (cs := #[.int .u8 ((rd_T47 l2_0 x14_1).f0), .int .i64 ((rd_T47 l2_0 x14_1).f1), .int .i64 ((rd_T47 l2_0 x14_1).f2), .int .i64 0]) ?_ 3 _ rfl; (with_reducible repeat (first | refine blk_drewN ?_ _ | refine blk_drew ?_ | refine blk_alloc ?_ _)); refine blk_put (cs := #[.int .u8 ((rd_T47 l2_0 x14_1).f0), .int .i64 ((rd_T47 l2_0 x14_1).f1), .int .i64 0, .int .i64 0]) ?_ 2 _ rfl; (with_reducible repeat (first | refine blk_drewN ?_ _ | refine blk_drew ?_ | refine blk_alloc ?_ _)); refine blk_put (cs := #[.int .u8 ((rd_T47 l2_0 x14_1).f0), .int .i64 0, .int .i64 0, .int .i64 0]) ?_ 1 _ rfl; (with_reducible repeat (first | refine blk_drewN ?_ _ | refine blk_drew ?_ | refine blk_alloc ?_ _)); refine blk_put (cs := #[.int .u8 0, .int .i64 0, .int .i64 0, .int .i64 0]) ?_ 0 _ rfl; (with_reducible repeat (first | refine blk_drewN ?_ _ | refine blk_drew ?_ | refine blk_alloc ?_ _)); exact BK173.out⟩, ⟨by repeat (first | (with_reducible first | exact HB.out | apply below_alloc | apply pw_below_drewN | apply below_drew1 | refine below_set ?_ GE171.out | refine below_set ?_ GE173.out) | exact HB.out)⟩⟩
                · rw [if_neg c14] at H
                  have c14b0 : decide (((rd_T47 l2_0 x14_1).f1) < 0) = false := decide_eq_false c14
                  clear c14
                  by_cases c17 : ((rd_T47 l2_0 x14_1).f1) ≥ (l1.length : Int)
                  · rw [if_pos c17] at H
                    have c17b0 : decide ((l1.length : Int) ≤ ((rd_T47 l2_0 x14_1).f1)) = true := decide_eq_true c17
                    clear c17
                    have H' := Aside0.mk H
                    clear H
                    have hnb18 := NB173_171.out
                    have hnc18 := NB171_173.out
                    have hcz19_0 : w10.cell? ⟨gb173, 0, none⟩ = some (.int .u8 0) := (blk_cell BK173.out 0).trans rfl
                    have hcz19_1 : w10.cell? ⟨gb173, 1, none⟩ = some (.int .i64 0) := (blk_cell BK173.out 1).trans rfl
                    have hcz19_2 : w10.cell? ⟨gb173, 2, none⟩ = some (.int .i64 0) := (blk_cell BK173.out 2).trans rfl
                    have hcz19_3 : w10.cell? ⟨gb173, 3, none⟩ = some (.int .i64 0) := (blk_cell BK173.out 3).trans rfl
                    have hfz19_0 := blk_frozen BK173.out 0
                    have hfz19_1 := blk_frozen BK173.out 1
                    have hfz19_2 := blk_frozen BK173.out 2
                    have hfz19_3 := blk_frozen BK173.out 3
                    go_wp2
                    go_meet
                    case rel => exact ⟨_, (true), (by first | rfl | (simp; done) | (simp [*]; done)), H', ⟨by have := HK1.out; first | omega | exact Nat.le_refl _⟩, ⟨by (with_reducible repeat (first | apply Kd.R_alloc | apply Kd.R_drewN | apply Kd.R_drew)); exact Kd.R_mono (Kd.R_far (p := ⟨gb173, 3, none⟩) (Kd.R_far (p := ⟨gb173, 2, none⟩) (Kd.R_far (p := ⟨gb173, 1, none⟩) (Kd.R_far (p := ⟨gb173, 0, none⟩) (Kd.R_types HO_7.out BK173.out (by decide)) (fun _ hk => hk.2) (.int .u8 ((rd_T47 l2_0 x14_1).f0))) (fun _ hk => hk.2) (.int .i64 ((rd_T47 l2_0 x14_1).f1))) (fun _ hk => hk.2) (.int .i64 ((rd_T47 l2_0 x14_1).f2))) (fun _ hk => hk.2) (.int .i64 ((rd_T47 l2_0 x14_1).f3))) (fun _ hk => trivial)⟩, ⟨by (with_reducible repeat (first | refine blk_drewN ?_ _ | refine blk_drew ?_ | refine blk_alloc ?_ _)); refine blk_far ?_ NB171_173.out _; (with_reducible repeat (first | refine blk_drewN ?_ _ | refine blk_drew ?_ | refine blk_alloc ?_ _)); refine blk_far ?_ NB171_173.out _; (with_reducible repeat (first | refine blk_drewN ?_ _ | refine blk_drew ?_ | refine blk_alloc ?_ _)); refine blk_far ?_ NB171_173.out _; (with_reducible repeat (first | refine blk_drewN ?_ _ | refine blk_drew ?_ | refine blk_alloc ?_ _)); refine blk_far ?_ NB171_173.out _; (with_reducible repeat (first | refine blk_drewN ?_ _ | refine blk_drew ?_ | refine blk_alloc ?_ _)); exact BK171.out⟩, ⟨by (with_reducible repeat (first | refine blk_drewN ?_ _ | refine blk_drew ?_ | refine blk_alloc ?_ _)); refine blk_put (cs := #[.int .u8 ((rd_T47 l2_0 x14_1).f0), .int .i64 ((rd_T47 l2_0 x14_1).f1), .int .i64 ((rd_T47 l2_0 x14_1).f2), .int .i64 0]) ?_ 3 _ rfl; (with_reducible repeat (first | refine blk_drewN ?_ _ | refine blk_drew ?_ | refine blk_alloc ?_ _)); refine blk_put (cs := #[.int .u8 ((rd_T47 l2_0 x14_1).f0), .int .i64 ((rd_T47 l2_0 x14_1).f1), .int .i64 0, .int .i64 0]) ?_ 2 _ rfl; (with_reducible repeat (first | refine blk_drewN ?_ _ | refine blk_drew ?_ | refine blk_alloc ?_ _)); refine blk_put (cs := #[.int .u8 ((rd_T47 l2_0 x14_1).f0), .int .i64 0, .int .i64 0, .int .i64 0]) ?_ 1 _ rfl; (with_reducible repeat (first | refine blk_drewN ?_ _ | refine blk_drew ?_ | refine blk_alloc ?_ _)); refine blk_put (cs := #[.int .u8 0, .int .i64 0, .int .i64 0, .int .i64 0]) ?_ 0 _ rfl; (with_reducible repeat (first | refine blk_drewN ?_ _ | refine blk_drew ?_ | refine blk_alloc ?_ _)); exact BK173.out⟩, ⟨by repeat (first | (with_reducible first | exact HB.out | apply below_alloc | apply pw_below_drewN | apply below_drew1 | refine below_set ?_ GE171.out | refine below_set ?_ GE173.out) | exact HB.out)⟩⟩
                  · rw [if_neg c17] at H
                    have c17b0 : decide ((l1.length : Int) ≤ ((rd_T47 l2_0 x14_1).f1)) = false := decide_eq_false c17
                    clear c17
                    by_cases c20 : 0 ≤ ((rd_T47 l2_0 x14_1).f1)
                    · rw [if_pos c20] at H
                      have c20b0 : decide (0 ≤ ((rd_T47 l2_0 x14_1).f1)) = true := decide_eq_true c20
                      clear c20
                      by_cases c21 : ((rd_T47 l2_0 x14_1).f1) < (l1.length : Int)
                      · rw [if_pos c21] at H
                        have c21b0 : decide (((rd_T47 l2_0 x14_1).f1) < (l1.length : Int)) = true := decide_eq_true c21
                        clear c21
                        have H' := Aside0.mk H
                        clear H
                        have hnb22 := NB173_171.out
                        have hnc22 := NB171_173.out
                        have hcz23_0 : w10.cell? ⟨gb173, 0, none⟩ = some (.int .u8 0) := (blk_cell BK173.out 0).trans rfl
                        have hcz23_1 : w10.cell? ⟨gb173, 1, none⟩ = some (.int .i64 0) := (blk_cell BK173.out 1).trans rfl
                        have hcz23_2 : w10.cell? ⟨gb173, 2, none⟩ = some (.int .i64 0) := (blk_cell BK173.out 2).trans rfl
                        have hcz23_3 : w10.cell? ⟨gb173, 3, none⟩ = some (.int .i64 0) := (blk_cell BK173.out 3).trans rfl
                        have hfz23_0 := blk_frozen BK173.out 0
                        have hfz23_1 := blk_frozen BK173.out 1
                        have hfz23_2 := blk_frozen BK173.out 2
                        have hfz23_3 := blk_frozen BK173.out 3
                        have p174 : 0 ≤ (((rd_T47 l2_0 x14_1).f1) : Int) := of_decide_eq_true (by first | (with_reducible assumption) | assumption)
                        have q174 : ((rd_T47 l2_0 x14_1).f1) < (l1.length : Int) := of_decide_eq_true (by first | (with_reducible assumption) | assumption)
                        obtain ⟨ad174, e174, hx174_0, hx174_1, hx174_2⟩ := at_T61 HR1.out ((rd_T47 l2_0 x14_1).f1) p174 q174
                        cases e174
                        have hn174_0 : ad174.block ≠ gb173 := Nat.ne_of_lt (Nat.lt_of_lt_of_le (by have := World.block_lt_of_cell? _ _ hx174_0; first | rwa [add_block] at this | exact this) GW173.out)
                        have hn174_1 : ad174.block ≠ gb173 := Nat.ne_of_lt (Nat.lt_of_lt_of_le (by have := World.block_lt_of_cell? _ _ hx174_0; first | rwa [add_block] at this | exact this) GW173.out)
                        have hn174_2 : ad174.block ≠ gb173 := Nat.ne_of_lt (Nat.lt_of_lt_of_le (by have := World.block_lt_of_cell? _ _ hx174_0; first | rwa [add_block] at this | exact this) GW173.out)
                        have hn174_3 : ad174.block ≠ gb173 := Nat.ne_of_lt (Nat.lt_of_lt_of_le (by have := World.block_lt_of_cell? _ _ hx174_0; first | rwa [add_block] at this | exact this) GW173.out)
                        replace hx174_0 := (HB.out.cell (World.block_lt_of_cell? w _ hx174_0)).trans hx174_0
                        replace hx174_1 := (HB.out.cell (World.block_lt_of_cell? w _ hx174_1)).trans hx174_1
                        replace hx174_2 := (HB.out.cell (World.block_lt_of_cell? w _ hx174_2)).trans hx174_2
                        replace hx174_0 := (cell_far (p := ⟨gb173, 0, none⟩) (by first | (rw [add_block]; exact hn174_0) | (show (Addr.add _ _).block ≠ _; rw [add_block]; exact hn174_0) | exact hn174_0) (.int .u8 ((rd_T47 l2_0 x14_1).f0))).trans hx174_0
                        replace hx174_1 := (cell_far (p := ⟨gb173, 0, none⟩) (by first | (rw [add_block]; exact hn174_0) | (show (Addr.add _ _).block ≠ _; rw [add_block]; exact hn174_0) | exact hn174_0) (.int .u8 ((rd_T47 l2_0 x14_1).f0))).trans hx174_1
                        replace hx174_2 := (cell_far (p := ⟨gb173, 0, none⟩) (by first | (rw [add_block]; exact hn174_0) | (show (Addr.add _ _).block ≠ _; rw [add_block]; exact hn174_0) | exact hn174_0) (.int .u8 ((rd_T47 l2_0 x14_1).f0))).trans hx174_2
                        replace hx174_0 := (cell_far (p := ⟨gb173, 1, none⟩) (by first | (rw [add_block]; exact hn174_1) | (show (Addr.add _ _).block ≠ _; rw [add_block]; exact hn174_1) | exact hn174_1) (.int .i64 ((rd_T47 l2_0 x14_1).f1))).trans hx174_0
                        replace hx174_1 := (cell_far (p := ⟨gb173, 1, none⟩) (by first | (rw [add_block]; exact hn174_1) | (show (Addr.add _ _).block ≠ _; rw [add_block]; exact hn174_1) | exact hn174_1) (.int .i64 ((rd_T47 l2_0 x14_1).f1))).trans hx174_1
                        replace hx174_2 := (cell_far (p := ⟨gb173, 1, none⟩) (by first | (rw [add_block]; exact hn174_1) | (show (Addr.add _ _).block ≠ _; rw [add_block]; exact hn174_1) | exact hn174_1) (.int .i64 ((rd_T47 l2_0 x14_1).f1))).trans hx174_2
                        replace hx174_0 := (cell_far (p := ⟨gb173, 2, none⟩) (by first | (rw [add_block]; exact hn174_2) | (show (Addr.add _ _).block ≠ _; rw [add_block]; exact hn174_2) | exact hn174_2) (.int .i64 ((rd_T47 l2_0 x14_1).f2))).trans hx174_0
                        replace hx174_1 := (cell_far (p := ⟨gb173, 2, none⟩) (by first | (rw [add_block]; exact hn174_2) | (show (Addr.add _ _).block ≠ _; rw [add_block]; exact hn174_2) | exact hn174_2) (.int .i64 ((rd_T47 l2_0 x14_1).f2))).trans hx174_1
                        replace hx174_2 := (cell_far (p := ⟨gb173, 2, none⟩) (by first | (rw [add_block]; exact hn174_2) | (show (Addr.add _ _).block ≠ _; rw [add_block]; exact hn174_2) | exact hn174_2) (.int .i64 ((rd_T47 l2_0 x14_1).f2))).trans hx174_2
                        replace hx174_0 := (cell_far (p := ⟨gb173, 3, none⟩) (by first | (rw [add_block]; exact hn174_3) | (show (Addr.add _ _).block ≠ _; rw [add_block]; exact hn174_3) | exact hn174_3) (.int .i64 ((rd_T47 l2_0 x14_1).f3))).trans hx174_0
                        replace hx174_1 := (cell_far (p := ⟨gb173, 3, none⟩) (by first | (rw [add_block]; exact hn174_3) | (show (Addr.add _ _).block ≠ _; rw [add_block]; exact hn174_3) | exact hn174_3) (.int .i64 ((rd_T47 l2_0 x14_1).f3))).trans hx174_1
                        replace hx174_2 := (cell_far (p := ⟨gb173, 3, none⟩) (by first | (rw [add_block]; exact hn174_3) | (show (Addr.add _ _).block ≠ _; rw [add_block]; exact hn174_3) | exact hn174_3) (.int .i64 ((rd_T47 l2_0 x14_1).f3))).trans hx174_2
                        clear hn174_0
                        clear hn174_1
                        clear hn174_2
                        clear hn174_3
                        replace p174 := eq_true p174
                        replace q174 := eq_true q174
                        go_wp2
                        go_meet
                        case rel => exact ⟨_, ((((rd_T61 l1 ((rd_T47 l2_0 x14_1).f1)).f0) != 2)), (by first | rfl | (simp; done) | (simp [*]; done)), H', ⟨by have := HK1.out; first | omega | exact Nat.le_refl _⟩, ⟨by (with_reducible repeat (first | apply Kd.R_alloc | apply Kd.R_drewN | apply Kd.R_drew)); exact Kd.R_mono (Kd.R_far (p := ⟨gb173, 3, none⟩) (Kd.R_far (p := ⟨gb173, 2, none⟩) (Kd.R_far (p := ⟨gb173, 1, none⟩) (Kd.R_far (p := ⟨gb173, 0, none⟩) (Kd.R_types HO_7.out BK173.out (by decide)) (fun _ hk => hk.2) (.int .u8 ((rd_T47 l2_0 x14_1).f0))) (fun _ hk => hk.2) (.int .i64 ((rd_T47 l2_0 x14_1).f1))) (fun _ hk => hk.2) (.int .i64 ((rd_T47 l2_0 x14_1).f2))) (fun _ hk => hk.2) (.int .i64 ((rd_T47 l2_0 x14_1).f3))) (fun _ hk => trivial)⟩, ⟨by (with_reducible repeat (first | refine blk_drewN ?_ _ | refine blk_drew ?_ | refine blk_alloc ?_ _)); refine blk_far ?_ NB171_173.out _; (with_reducible repeat (first | refine blk_drewN ?_ _ | refine blk_drew ?_ | refine blk_alloc ?_ _)); refine blk_far ?_ NB171_173.out _; (with_reducible repeat (first | refine blk_drewN ?_ _ | refine blk_drew ?_ | refine blk_alloc ?_ _)); refine blk_far ?_ NB171_173.out _; (with_reducible repeat (first | refine blk_drewN ?_ _ | refine blk_drew ?_ | refine blk_alloc ?_ _)); refine blk_far ?_ NB171_173.out _; (with_reducible repeat (first | refine blk_drewN ?_ _ | refine blk_drew ?_ | refine blk_alloc ?_ _)); exact BK171.out⟩, ⟨by (with_reducible repeat (first | refine blk_drewN ?_ _ | refine blk_drew ?_ | refine blk_alloc ?_ _)); refine blk_put (cs := #[.int .u8 ((rd_T47 l2_0 x14_1).f0), .int .i64 ((rd_T47 l2_0 x14_1).f1), .int .i64 ((rd_T47 l2_0 x14_1).f2), .int .i64 0]) ?_ 3 _ rfl; (with_reducible repeat (first | refine blk_drewN ?_ _ | refine blk_drew ?_ | refine blk_alloc ?_ _)); refine blk_put (cs := #[.int .u8 ((rd_T47 l2_0 x14_1).f0), .int .i64 ((rd_T47 l2_0 x14_1).f1), .int .i64 0, .int .i64 0]) ?_ 2 _ rfl; (with_reducible repeat (first | refine blk_drewN ?_ _ | refine blk_drew ?_ | refine blk_alloc ?_ _)); refine blk_put (cs := #[.int .u8 ((rd_T47 l2_0 x14_1).f0), .int .i64 0, .int .i64 0, .int .i64 0]) ?_ 1 _ rfl; (with_reducible repeat (first | refine blk_drewN ?_ _ | refine blk_drew ?_ | refine blk_alloc ?_ _)); refine blk_put (cs := #[.int .u8 0, .int .i64 0, .int .i64 0, .int .i64 0]) ?_ 0 _ rfl; (with_reducible repeat (first | refine blk_drewN ?_ _ | refine blk_drew ?_ | refine blk_alloc ?_ _)); exact BK173.out⟩, ⟨by repeat (first | (with_reducible first | exact HB.out | apply below_alloc | apply pw_below_drewN | apply below_drew1 | refine below_set ?_ GE171.out | refine below_set ?_ GE173.out) | exact HB.out)⟩⟩
                      · rw [if_neg c21] at H
                        exact absurd H (by simp)
                    · rw [if_neg c20] at H
                      exact absurd H (by simp)
              · rw [if_neg c13] at H
                have c13b0 : (((rd_T47 l2_0 x14_1).f0) == 45) = false := beq_eq_false_iff_ne.mpr c13
                have c13b1 : (((rd_T47 l2_0 x14_1).f0) != 45) = true := bne_iff_ne.mpr c13
                (first | rw [c13b0] | (simp only [i64_w, i32_w]; rw [c13b0]) | skip)
                have H' := Aside0.mk H
                clear H
                have hnb24 := NB173_171.out
                have hnc24 := NB171_173.out
                have hcz25_0 : w10.cell? ⟨gb173, 0, none⟩ = some (.int .u8 0) := (blk_cell BK173.out 0).trans rfl
                have hcz25_1 : w10.cell? ⟨gb173, 1, none⟩ = some (.int .i64 0) := (blk_cell BK173.out 1).trans rfl
                have hcz25_2 : w10.cell? ⟨gb173, 2, none⟩ = some (.int .i64 0) := (blk_cell BK173.out 2).trans rfl
                have hcz25_3 : w10.cell? ⟨gb173, 3, none⟩ = some (.int .i64 0) := (blk_cell BK173.out 3).trans rfl
                have hfz25_0 := blk_frozen BK173.out 0
                have hfz25_1 := blk_frozen BK173.out 1
                have hfz25_2 := blk_frozen BK173.out 2
                have hfz25_3 := blk_frozen BK173.out 3
                go_wp2
                go_meet
                case rel => exact ⟨_, (true), (by first | rfl | (simp; done) | (simp [*]; done)), H', ⟨by have := HK1.out; first | omega | exact Nat.le_refl _⟩, ⟨by (with_reducible repeat (first | apply Kd.R_alloc | apply Kd.R_drewN | apply Kd.R_drew)); exact Kd.R_mono (Kd.R_far (p := ⟨gb173, 3, none⟩) (Kd.R_far (p := ⟨gb173, 2, none⟩) (Kd.R_far (p := ⟨gb173, 1, none⟩) (Kd.R_far (p := ⟨gb173, 0, none⟩) (Kd.R_types HO_7.out BK173.out (by decide)) (fun _ hk => hk.2) (.int .u8 ((rd_T47 l2_0 x14_1).f0))) (fun _ hk => hk.2) (.int .i64 ((rd_T47 l2_0 x14_1).f1))) (fun _ hk => hk.2) (.int .i64 ((rd_T47 l2_0 x14_1).f2))) (fun _ hk => hk.2) (.int .i64 ((rd_T47 l2_0 x14_1).f3))) (fun _ hk => trivial)⟩, ⟨by (with_reducible repeat (first | refine blk_drewN ?_ _ | refine blk_drew ?_ | refine blk_alloc ?_ _)); refine blk_far ?_ NB171_173.out _; (with_reducible repeat (first | refine blk_drewN ?_ _ | refine blk_drew ?_ | refine blk_alloc ?_ _)); refine blk_far ?_ NB171_173.out _; (with_reducible repeat (first | refine blk_drewN ?_ _ | refine blk_drew ?_ | refine blk_alloc ?_ _)); refine blk_far ?_ NB171_173.out _; (with_reducible repeat (first | refine blk_drewN ?_ _ | refine blk_drew ?_ | refine blk_alloc ?_ _)); refine blk_far ?_ NB171_173.out _; (with_reducible repeat (first | refine blk_drewN ?_ _ | refine blk_drew ?_ | refine blk_alloc ?_ _)); exact BK171.out⟩, ⟨by (with_reducible repeat (first | refine blk_drewN ?_ _ | refine blk_drew ?_ | refine blk_alloc ?_ _)); refine blk_put (cs := #[.int .u8 ((rd_T47 l2_0 x14_1).f0), .int .i64 ((rd_T47 l2_0 x14_1).f1), .int .i64 ((rd_T47 l2_0 x14_1).f2), .int .i64 0]) ?_ 3 _ rfl; (with_reducible repeat (first | refine blk_drewN ?_ _ | refine blk_drew ?_ | refine blk_alloc ?_ _)); refine blk_put (cs := #[.int .u8 ((rd_T47 l2_0 x14_1).f0), .int .i64 ((rd_T47 l2_0 x14_1).f1), .int .i64 0, .int .i64 0]) ?_ 2 _ rfl; (with_reducible repeat (first | refine blk_drewN ?_ _ | refine blk_drew ?_ | refine blk_alloc ?_ _)); refine blk_put (cs := #[.int .u8 ((rd_T47 l2_0 x14_1).f0), .int .i64 0, .int .i64 0, .int .i64 0]) ?_ 1 _ rfl; (with_reducible repeat (first | refine blk_drewN ?_ _ | refine blk_drew ?_ | refine blk_alloc ?_ _)); refine blk_put (cs := #[.int .u8 0, .int .i64 0, .int .i64 0, .int .i64 0]) ?_ 0 _ rfl; (with_reducible repeat (first | refine blk_drewN ?_ _ | refine blk_drew ?_ | refine blk_alloc ?_ _)); exact BK173.out⟩, ⟨by repeat (first | (with_reducible first | exact HB.out | apply below_alloc | apply pw_below_drewN | apply below_drew1 | refine below_set ?_ GE171.out | refine below_set ?_ GE173.out) | exact HB.out)⟩⟩
            case rest =>
              clear HC9
              try clear c1
              try clear p1
              try clear q1
              try clear hx1
              try clear c2
              try clear p2
              try clear c6
              try clear c6b0
              try clear c7
              try clear c7b0
              try clear c8
              try clear c8b0
              try clear c11
              try clear c13
              try clear c13b0
              try clear c13b1
              try clear c14
              try clear c14b0
              try clear c15
              try clear c17
              try clear c17b0
              try clear p17
              try clear q17
              try clear hx17
              try clear c18
              try clear c20
              try clear c20b0
              try clear c21
              try clear c21b0
              try clear c22
              try clear c23
              try clear c24
              try clear hcz12_0
              try clear hcz12_1
              try clear hcz12_2
              try clear hcz12_3
              try clear hcz16_0
              try clear hcz16_1
              try clear hcz16_2
              try clear hcz16_3
              try clear hcz19_0
              try clear hcz19_1
              try clear hcz19_2
              try clear hcz19_3
              try clear hcz23_0
              try clear hcz23_1
              try clear hcz23_2
              try clear hcz23_3
              try clear hcz25_0
              try clear hcz25_1
              try clear hcz25_2
              try clear hcz25_3
              try clear hcz5_0
              try clear hfz12_0
              try clear hfz12_1
              try clear hfz12_2
              try clear hfz12_3
              try clear hfz16_0
              try clear hfz16_1
              try clear hfz16_2
              try clear hfz16_3
              try clear hfz19_0
              try clear hfz19_1
              try clear hfz19_2
              try clear hfz19_3
              try clear hfz23_0
              try clear hfz23_1
              try clear hfz23_2
              try clear hfz23_3
              try clear hfz25_0
              try clear hfz25_1
              try clear hfz25_2
              try clear hfz25_3
              try clear hfz5_0
              try clear hx172_0
              try clear hx172_1
              try clear hx172_2
              try clear hx172_3
              try clear hx174_0
              try clear hx174_1
              try clear hx174_2
              try clear p172
              try clear p174
              try clear p2
              try clear q172
              try clear q174
              obtain ⟨kq, x41_8, rfl, HA, HJ8, HO_7, BK171, BK173, HB⟩ := hcut
              cases kq with
              | zero => exact absurd HA.out (by simp [tree_Names.j1])
              | succ kj8 =>
                have H := HA.out
                clear HA
                simp only [tree_Names.j1] at H
                by_cases c26 : x41_8 = true
                · subst c26
                  have H1 : (tree_Names.l0 kj8 a0 l1 x7_1 l2_0 (l2_0.length : Int) (wrap64 (x14_1 + 1))) = some r := by rw [if_pos rfl] at H; exact H
                  clear H
                  have H := H1
                  clear H1
                  have H' := Aside0.mk H
                  clear H
                  go_wp2
                  go_roundg kj8
                  case measure => have := HK1.out; have := HJ8.out; omega
                  case rel => exact ⟨(x7_1), (wrap64 (x14_1 + 1)), (by first | rfl | (simp; done) | (simp [*]; done)), H', ⟨by have := HK1.out; have := HJ8.out; omega⟩, ⟨by (with_reducible repeat (first | apply Kd.R_alloc | apply Kd.R_drewN | apply Kd.R_drew)); exact HO_7.out⟩, ⟨by (with_reducible repeat (first | refine blk_drewN ?_ _ | refine blk_drew ?_ | refine blk_alloc ?_ _)); exact BK171.out⟩, ⟨by repeat (first | (with_reducible first | exact HB.out | apply below_alloc | apply pw_below_drewN | apply below_drew1 | refine below_set ?_ GE171.out | refine below_set ?_ GE173.out) | exact HB.out)⟩⟩
                · replace c26 := Bool.eq_false_iff.mpr c26
                  subst c26
                  have H1 : (if 0 ≤ ((rd_T47 l2_0 x14_1).f1) then (if ((rd_T47 l2_0 x14_1).f1) < (l1.length : Int) then ((tree_word.f a0 ((rd_T61 l1 ((rd_T47 l2_0 x14_1).f1)).f0) ((rd_T61 l1 ((rd_T47 l2_0 x14_1).f1)).f1) ((rd_T61 l1 ((rd_T47 l2_0 x14_1).f1)).f2)).bind fun t176 => (if t176.toList = ([] : List UInt8) then (tree_Names.l0 kj8 a0 l1 x7_1 l2_0 (l2_0.length : Int) (wrap64 (x14_1 + 1))) else (if t176.toList = ([95] : List UInt8) then (tree_Names.l0 kj8 a0 l1 x7_1 l2_0 (l2_0.length : Int) (wrap64 (x14_1 + 1))) else (if x7_1.length < 17592186044416 then (tree_Names.l0 kj8 a0 l1 (x7_1 ++ [((rd_T47 l2_0 x14_1).f1)]) l2_0 (l2_0.length : Int) (wrap64 (x14_1 + 1))) else (none))))) else (none)) else (none)) = some r := by rw [if_neg (show ¬ (false = true) by decide)] at H; exact H
                  clear H
                  have H := H1
                  clear H1
                  by_cases c27 : 0 ≤ ((rd_T47 l2_0 x14_1).f1)
                  · rw [if_pos c27] at H
                    have c27b0 : decide (0 ≤ ((rd_T47 l2_0 x14_1).f1)) = true := decide_eq_true c27
                    clear c27
                    by_cases c28 : ((rd_T47 l2_0 x14_1).f1) < (l1.length : Int)
                    · rw [if_pos c28] at H
                      have c28b0 : decide (((rd_T47 l2_0 x14_1).f1) < (l1.length : Int)) = true := decide_eq_true c28
                      clear c28
                      replace H := Option.bind_eq_some_iff.mp H
                      obtain ⟨t176, A290, H⟩ := H
                      replace H : (if t176.toList = ([] : List UInt8) then (tree_Names.l0 kj8 a0 l1 x7_1 l2_0 (l2_0.length : Int) (wrap64 (x14_1 + 1))) else (if t176.toList = ([95] : List UInt8) then (tree_Names.l0 kj8 a0 l1 x7_1 l2_0 (l2_0.length : Int) (wrap64 (x14_1 + 1))) else (if x7_1.length < 17592186044416 then (tree_Names.l0 kj8 a0 l1 (x7_1 ++ [((rd_T47 l2_0 x14_1).f1)]) l2_0 (l2_0.length : Int) (wrap64 (x14_1 + 1))) else (none)))) = some r := H
                      have A29 := Aside0.mk A290
                      clear A290
                      by_cases c30 : t176.toList = ([] : List UInt8)
                      · rw [if_pos c30] at H
                        have c30b0 : (t176.toList == ([] : List UInt8)) = true := beq_iff_eq.mpr c30
                        have c30b1 : (t176.toList != ([] : List UInt8)) = false := bne_eq_false_iff_eq.mpr c30
                        clear c30
                        have H' := Aside0.mk H
                        clear H
                        have hnb31 := NB173_171.out
                        have hnc31 := NB171_173.out
                        have hcz32_0 : wc.cell? ⟨gb173, 0, none⟩ = some (.int .u8 ((rd_T47 l2_0 x14_1).f0)) := (blk_cell BK173.out 0).trans rfl
                        have hcz32_1 : wc.cell? ⟨gb173, 1, none⟩ = some (.int .i64 ((rd_T47 l2_0 x14_1).f1)) := (blk_cell BK173.out 1).trans rfl
                        have hcz32_2 : wc.cell? ⟨gb173, 2, none⟩ = some (.int .i64 ((rd_T47 l2_0 x14_1).f2)) := (blk_cell BK173.out 2).trans rfl
                        have hcz32_3 : wc.cell? ⟨gb173, 3, none⟩ = some (.int .i64 ((rd_T47 l2_0 x14_1).f3)) := (blk_cell BK173.out 3).trans rfl
                        have hfz32_0 := blk_frozen BK173.out 0
                        have hfz32_1 := blk_frozen BK173.out 1
                        have hfz32_2 := blk_frozen BK173.out 2
                        have hfz32_3 := blk_frozen BK173.out 3
                        have p175 : 0 ≤ (((rd_T47 l2_0 x14_1).f1) : Int) := of_decide_eq_true (by first | (with_reducible assumption) | assumption)
                        have q175 : ((rd_T47 l2_0 x14_1).f1) < (l1.length : Int) := of_decide_eq_true (by first | (with_reducible assumption) | assumption)
                        obtain ⟨ad175, e175, hx175_0, hx175_1, hx175_2⟩ := at_T61 HR1.out ((rd_T47 l2_0 x14_1).f1) p175 q175
                        cases e175
                        replace hx175_0 := (HB.out.cell (World.block_lt_of_cell? w _ hx175_0)).trans hx175_0
                        replace hx175_1 := (HB.out.cell (World.block_lt_of_cell? w _ hx175_1)).trans hx175_1
                        replace hx175_2 := (HB.out.cell (World.block_lt_of_cell? w _ hx175_2)).trans hx175_2
                        replace p175 := eq_true p175
                        replace q175 := eq_true q175
                        go_wp2_with (first | ((with_reducible refine gate_callee (f := 48) rfl ?_); refine goesL_ (some 48) rfl rfl Try.func48 (by kernel_rfl) rfl #[.string a0, .agg #[.int .u8 ((rd_T61 l1 ((rd_T47 l2_0 x14_1).f1)).f0), .int .i64 ((rd_T61 l1 ((rd_T47 l2_0 x14_1).f1)).f1), .int .i64 ((rd_T61 l1 ((rd_T47 l2_0 x14_1).f1)).f2)]] rfl (by (try simp only [List.map_toArray, List.map_cons, List.map_nil]); first | done | rfl | (simp only [List.length_drop, List.length_take]; rfl)) ?_; (with_reducible refine (tree_word.calls a0 ((rd_T61 l1 ((rd_T47 l2_0 x14_1).f1)).f0) ((rd_T61 l1 ((rd_T47 l2_0 x14_1).f1)).f1) ((rd_T61 l1 ((rd_T47 l2_0 x14_1).f1)).f2) t176 _ A29.out).mono ?_); rintro e w33 ⟨rfl, hb⟩; refine ⟨_, rfl, ?_⟩; have n0_ := Aside0.mk (Kd.R_below (by (with_reducible repeat (first | apply Kd.R_alloc | apply Kd.R_drewN | apply Kd.R_drew)); exact HO_7.out) hb); have n1_ := Aside0.mk (blk_below (g := gb171) (o := .cells #[.slice (some ad172) l2_0.length c2_0] 25 (0, 0)) (by (with_reducible repeat (first | refine blk_drewN ?_ _ | refine blk_drew ?_ | refine blk_alloc ?_ _)); exact BK171.out) hb); have n2_ := Aside0.mk (blk_below (g := gb173) (o := .cells #[.int .u8 ((rd_T47 l2_0 x14_1).f0), .int .i64 ((rd_T47 l2_0 x14_1).f1), .int .i64 ((rd_T47 l2_0 x14_1).f2), .int .i64 ((rd_T47 l2_0 x14_1).f3)] 47 (0, 0)) (by (with_reducible repeat (first | refine blk_drewN ?_ _ | refine blk_drew ?_ | refine blk_alloc ?_ _)); exact BK173.out) hb); have n3_ := Aside0.mk (below_step (by repeat (first | (with_reducible first | exact HB.out | apply below_alloc | apply pw_below_drewN | apply below_drew1 | refine below_set ?_ GE171.out | refine below_set ?_ GE173.out) | exact HB.out)) hb); clear HO_7; clear BK171; clear BK173; clear HB; have HO_7 := n0_; have BK171 := n1_; have BK173 := n2_; have HB := n3_; clear n0_ n1_ n2_ n3_; (try clear hb); (try clear hb2); (try clear hk); (try clear hi)))
                        go_roundg kj8
                        case measure => have := HK1.out; have := HJ8.out; omega
                        case rel => exact ⟨(x7_1), (wrap64 (x14_1 + 1)), (by first | rfl | (simp; done) | (simp [*]; done)), H', ⟨by have := HK1.out; have := HJ8.out; omega⟩, ⟨by (with_reducible repeat (first | apply Kd.R_alloc | apply Kd.R_drewN | apply Kd.R_drew)); exact HO_7.out⟩, ⟨by (with_reducible repeat (first | refine blk_drewN ?_ _ | refine blk_drew ?_ | refine blk_alloc ?_ _)); exact BK171.out⟩, ⟨by repeat (first | (with_reducible first | exact HB.out | apply below_alloc | apply pw_below_drewN | apply below_drew1 | refine below_set ?_ GE171.out | refine below_set ?_ GE173.out) | exact HB.out)⟩⟩
                      · rw [if_neg c30] at H
                        have c30b0 : (t176.toList == ([] : List UInt8)) = false := beq_eq_false_iff_ne.mpr c30
                        have c30b1 : (t176.toList != ([] : List UInt8)) = true := bne_iff_ne.mpr c30
                        by_cases c34 : t176.toList = ([95] : List UInt8)
                        · rw [if_pos c34] at H
                          have c34b0 : (t176.toList == ([95] : List UInt8)) = true := beq_iff_eq.mpr c34
                          have c34b1 : (t176.toList != ([95] : List UInt8)) = false := bne_eq_false_iff_eq.mpr c34
                          clear c34
                          have H' := Aside0.mk H
                          clear H
                          have hnb35 := NB173_171.out
                          have hnc35 := NB171_173.out
                          have hcz36_0 : wc.cell? ⟨gb173, 0, none⟩ = some (.int .u8 ((rd_T47 l2_0 x14_1).f0)) := (blk_cell BK173.out 0).trans rfl
                          have hcz36_1 : wc.cell? ⟨gb173, 1, none⟩ = some (.int .i64 ((rd_T47 l2_0 x14_1).f1)) := (blk_cell BK173.out 1).trans rfl
                          have hcz36_2 : wc.cell? ⟨gb173, 2, none⟩ = some (.int .i64 ((rd_T47 l2_0 x14_1).f2)) := (blk_cell BK173.out 2).trans rfl
                          have hcz36_3 : wc.cell? ⟨gb173, 3, none⟩ = some (.int .i64 ((rd_T47 l2_0 x14_1).f3)) := (blk_cell BK173.out 3).trans rfl
                          have hfz36_0 := blk_frozen BK173.out 0
                          have hfz36_1 := blk_frozen BK173.out 1
                          have hfz36_2 := blk_frozen BK173.out 2
                          have hfz36_3 := blk_frozen BK173.out 3
                          have p175 : 0 ≤ (((rd_T47 l2_0 x14_1).f1) : Int) := of_decide_eq_true (by first | (with_reducible assumption) | assumption)
                          have q175 : ((rd_T47 l2_0 x14_1).f1) < (l1.length : Int) := of_decide_eq_true (by first | (with_reducible assumption) | assumption)
                          obtain ⟨ad175, e175, hx175_0, hx175_1, hx175_2⟩ := at_T61 HR1.out ((rd_T47 l2_0 x14_1).f1) p175 q175
                          cases e175
                          replace hx175_0 := (HB.out.cell (World.block_lt_of_cell? w _ hx175_0)).trans hx175_0
                          replace hx175_1 := (HB.out.cell (World.block_lt_of_cell? w _ hx175_1)).trans hx175_1
                          replace hx175_2 := (HB.out.cell (World.block_lt_of_cell? w _ hx175_2)).trans hx175_2
                          replace p175 := eq_true p175
                          replace q175 := eq_true q175
                          go_wp2_with (first | ((with_reducible refine gate_callee (f := 48) rfl ?_); refine goesL_ (some 48) rfl rfl Try.func48 (by kernel_rfl) rfl #[.string a0, .agg #[.int .u8 ((rd_T61 l1 ((rd_T47 l2_0 x14_1).f1)).f0), .int .i64 ((rd_T61 l1 ((rd_T47 l2_0 x14_1).f1)).f1), .int .i64 ((rd_T61 l1 ((rd_T47 l2_0 x14_1).f1)).f2)]] rfl (by (try simp only [List.map_toArray, List.map_cons, List.map_nil]); first | done | rfl | (simp only [List.length_drop, List.length_take]; rfl)) ?_; (with_reducible refine (tree_word.calls a0 ((rd_T61 l1 ((rd_T47 l2_0 x14_1).f1)).f0) ((rd_T61 l1 ((rd_T47 l2_0 x14_1).f1)).f1) ((rd_T61 l1 ((rd_T47 l2_0 x14_1).f1)).f2) t176 _ A29.out).mono ?_); rintro e w37 ⟨rfl, hb⟩; refine ⟨_, rfl, ?_⟩; have n0_ := Aside0.mk (Kd.R_below (by (with_reducible repeat (first | apply Kd.R_alloc | apply Kd.R_drewN | apply Kd.R_drew)); exact HO_7.out) hb); have n1_ := Aside0.mk (blk_below (g := gb171) (o := .cells #[.slice (some ad172) l2_0.length c2_0] 25 (0, 0)) (by (with_reducible repeat (first | refine blk_drewN ?_ _ | refine blk_drew ?_ | refine blk_alloc ?_ _)); exact BK171.out) hb); have n2_ := Aside0.mk (blk_below (g := gb173) (o := .cells #[.int .u8 ((rd_T47 l2_0 x14_1).f0), .int .i64 ((rd_T47 l2_0 x14_1).f1), .int .i64 ((rd_T47 l2_0 x14_1).f2), .int .i64 ((rd_T47 l2_0 x14_1).f3)] 47 (0, 0)) (by (with_reducible repeat (first | refine blk_drewN ?_ _ | refine blk_drew ?_ | refine blk_alloc ?_ _)); exact BK173.out) hb); have n3_ := Aside0.mk (below_step (by repeat (first | (with_reducible first | exact HB.out | apply below_alloc | apply pw_below_drewN | apply below_drew1 | refine below_set ?_ GE171.out | refine below_set ?_ GE173.out) | exact HB.out)) hb); clear HO_7; clear BK171; clear BK173; clear HB; have HO_7 := n0_; have BK171 := n1_; have BK173 := n2_; have HB := n3_; clear n0_ n1_ n2_ n3_; (try clear hb); (try clear hb2); (try clear hk); (try clear hi)))
                          go_roundg kj8
                          case measure => have := HK1.out; have := HJ8.out; omega
                          case rel => exact ⟨(x7_1), (wrap64 (x14_1 + 1)), (by first | rfl | (simp; done) | (simp [*]; done)), H', ⟨by have := HK1.out; have := HJ8.out; omega⟩, ⟨by (with_reducible repeat (first | apply Kd.R_alloc | apply Kd.R_drewN | apply Kd.R_drew)); exact HO_7.out⟩, ⟨by (with_reducible repeat (first | refine blk_drewN ?_ _ | refine blk_drew ?_ | refine blk_alloc ?_ _)); exact BK171.out⟩, ⟨by repeat (first | (with_reducible first | exact HB.out | apply below_alloc | apply pw_below_drewN | apply below_drew1 | refine below_set ?_ GE171.out | refine below_set ?_ GE173.out) | exact HB.out)⟩⟩
                        · rw [if_neg c34] at H
                          have c34b0 : (t176.toList == ([95] : List UInt8)) = false := beq_eq_false_iff_ne.mpr c34
                          have c34b1 : (t176.toList != ([95] : List UInt8)) = true := bne_iff_ne.mpr c34
                          by_cases c38 : x7_1.length < 17592186044416
                          · rw [if_pos c38] at H
                            have LMc38 := Aside0.mk c38
                            clear c38
                            obtain ⟨y177, hy177⟩ : ∃ y_ : List Int, y_ = (x7_1 ++ [((rd_T47 l2_0 x14_1).f1)]) := ⟨_, rfl⟩
                            replace H : (tree_Names.l0 kj8 a0 l1 y177 l2_0 (l2_0.length : Int) (wrap64 (x14_1 + 1))) = some r := by first | (rw [hy177]; with_reducible exact H) | (have H2_ := (Option.bind_some _ _).symm.trans H; rw [hy177]; with_reducible exact H2_) | (have H2_ := (Option.bind_some _ _).symm.trans H; with_reducible exact H2_) | with_reducible exact H | (rw [hy177]; exact H) | exact H
                            have Ny177 := Aside0.mk hy177
                            clear hy177
                            have H' := Aside0.mk H
                            clear H
                            have hnb39 := NB173_171.out
                            have hnc39 := NB171_173.out
                            have hcz40_0 : wc.cell? ⟨gb173, 0, none⟩ = some (.int .u8 ((rd_T47 l2_0 x14_1).f0)) := (blk_cell BK173.out 0).trans rfl
                            have hcz40_1 : wc.cell? ⟨gb173, 1, none⟩ = some (.int .i64 ((rd_T47 l2_0 x14_1).f1)) := (blk_cell BK173.out 1).trans rfl
                            have hcz40_2 : wc.cell? ⟨gb173, 2, none⟩ = some (.int .i64 ((rd_T47 l2_0 x14_1).f2)) := (blk_cell BK173.out 2).trans rfl
                            have hcz40_3 : wc.cell? ⟨gb173, 3, none⟩ = some (.int .i64 ((rd_T47 l2_0 x14_1).f3)) := (blk_cell BK173.out 3).trans rfl
                            have hfz40_0 := blk_frozen BK173.out 0
                            have hfz40_1 := blk_frozen BK173.out 1
                            have hfz40_2 := blk_frozen BK173.out 2
                            have hfz40_3 := blk_frozen BK173.out 3
                            have p175 : 0 ≤ (((rd_T47 l2_0 x14_1).f1) : Int) := of_decide_eq_true (by first | (with_reducible assumption) | assumption)
                            have q175 : ((rd_T47 l2_0 x14_1).f1) < (l1.length : Int) := of_decide_eq_true (by first | (with_reducible assumption) | assumption)
                            obtain ⟨ad175, e175, hx175_0, hx175_1, hx175_2⟩ := at_T61 HR1.out ((rd_T47 l2_0 x14_1).f1) p175 q175
                            cases e175
                            replace hx175_0 := (HB.out.cell (World.block_lt_of_cell? w _ hx175_0)).trans hx175_0
                            replace hx175_1 := (HB.out.cell (World.block_lt_of_cell? w _ hx175_1)).trans hx175_1
                            replace hx175_2 := (HB.out.cell (World.block_lt_of_cell? w _ hx175_2)).trans hx175_2
                            replace p175 := eq_true p175
                            replace q175 := eq_true q175
                            go_wp2_with (first | ((with_reducible refine gate_callee (f := 48) rfl ?_); refine goesL_ (some 48) rfl rfl Try.func48 (by kernel_rfl) rfl #[.string a0, .agg #[.int .u8 ((rd_T61 l1 ((rd_T47 l2_0 x14_1).f1)).f0), .int .i64 ((rd_T61 l1 ((rd_T47 l2_0 x14_1).f1)).f1), .int .i64 ((rd_T61 l1 ((rd_T47 l2_0 x14_1).f1)).f2)]] rfl (by (try simp only [List.map_toArray, List.map_cons, List.map_nil]); first | done | rfl | (simp only [List.length_drop, List.length_take]; rfl)) ?_; (with_reducible refine (tree_word.calls a0 ((rd_T61 l1 ((rd_T47 l2_0 x14_1).f1)).f0) ((rd_T61 l1 ((rd_T47 l2_0 x14_1).f1)).f1) ((rd_T61 l1 ((rd_T47 l2_0 x14_1).f1)).f2) t176 _ A29.out).mono ?_); rintro e w41 ⟨rfl, hb⟩; refine ⟨_, rfl, ?_⟩; have n0_ := Aside0.mk (Kd.R_below (by (with_reducible repeat (first | apply Kd.R_alloc | apply Kd.R_drewN | apply Kd.R_drew)); exact HO_7.out) hb); have n1_ := Aside0.mk (blk_below (g := gb171) (o := .cells #[.slice (some ad172) l2_0.length c2_0] 25 (0, 0)) (by (with_reducible repeat (first | refine blk_drewN ?_ _ | refine blk_drew ?_ | refine blk_alloc ?_ _)); exact BK171.out) hb); have n2_ := Aside0.mk (blk_below (g := gb173) (o := .cells #[.int .u8 ((rd_T47 l2_0 x14_1).f0), .int .i64 ((rd_T47 l2_0 x14_1).f1), .int .i64 ((rd_T47 l2_0 x14_1).f2), .int .i64 ((rd_T47 l2_0 x14_1).f3)] 47 (0, 0)) (by (with_reducible repeat (first | refine blk_drewN ?_ _ | refine blk_drew ?_ | refine blk_alloc ?_ _)); exact BK173.out) hb); have n3_ := Aside0.mk (below_step (by repeat (first | (with_reducible first | exact HB.out | apply below_alloc | apply pw_below_drewN | apply below_drew1 | refine below_set ?_ GE171.out | refine below_set ?_ GE173.out) | exact HB.out)) hb); clear HO_7; clear BK171; clear BK173; clear HB; have HO_7 := n0_; have BK171 := n1_; have BK173 := n2_; have HB := n3_; clear n0_ n1_ n2_ n3_; (try clear hb); (try clear hb2); (try clear hk); (try clear hi); have hcz42_0 : w41.cell? ⟨gb173, 0, none⟩ = some (.int .u8 ((rd_T47 l2_0 x14_1).f0)) := (blk_cell BK173.out 0).trans rfl; have hcz42_1 : w41.cell? ⟨gb173, 1, none⟩ = some (.int .i64 ((rd_T47 l2_0 x14_1).f1)) := (blk_cell BK173.out 1).trans rfl; have hcz42_2 : w41.cell? ⟨gb173, 2, none⟩ = some (.int .i64 ((rd_T47 l2_0 x14_1).f2)) := (blk_cell BK173.out 2).trans rfl; have hcz42_3 : w41.cell? ⟨gb173, 3, none⟩ = some (.int .i64 ((rd_T47 l2_0 x14_1).f3)) := (blk_cell BK173.out 3).trans rfl; have hfz42_0 := blk_frozen BK173.out 0; have hfz42_1 := blk_frozen BK173.out 1; have hfz42_2 := blk_frozen BK173.out 2; have hfz42_3 := blk_frozen BK173.out 3) | ((with_reducible refine gate_builtin (b := .append) (xs := #[.tmp 55, .tmp 58]) rfl ?_); (try (refine gate_guard (by rfl) ?_; dsimp only)); at_builtin; refine Kd.R_append (Kd.int .i64) (w0 := w) w.heap.size rfl (.tmp 55) (.tmp 58) 33 3 (.int .i64 0) 8 rfl Try.underlying33 info3 rfl (by decide) (by omega) u7 x7_1 ((rd_T47 l2_0 x14_1).f1) [.int .i64 ((rd_T47 l2_0 x14_1).f1)] (fun _ => True) (fun _ => False) rfl rfl ?aP (fun _ hk => hk.elim) ?aF ?aO ?aB ?aS ?aL ?_; (case aP => exact rfl); (case aB => exact (by repeat (first | (with_reducible first | exact HB.out | apply below_alloc | apply pw_below_drewN | apply below_drew1 | refine below_set ?_ GE171.out | refine below_set ?_ GE173.out) | exact HB.out))); (case aF => exact (fun _ _ => trivial)); (case aO => exact (by (with_reducible repeat (first | apply Kd.R_alloc | apply Kd.R_drewN | apply Kd.R_drew)); exact HO_7.out)); (case aS => exact (below_size (by repeat (first | (with_reducible first | exact HB.out | apply below_alloc | apply pw_below_drewN | apply below_drew1 | refine below_set ?_ GE171.out | refine below_set ?_ GE173.out) | exact HB.out)))); (case aL => have := LMc38.out; omega); intro v178 w43 ho hb hg hat; rw [← Ny177.out] at ho; have n0_ := Aside0.mk (blk_grown (g := gb171) (o := .cells #[.slice (some ad172) l2_0.length c2_0] 25 (0, 0)) (by (with_reducible repeat (first | refine blk_drewN ?_ _ | refine blk_drew ?_ | refine blk_alloc ?_ _)); exact BK171.out) hg (Kd.R_ne HO_7.out BK171.out (by decide))); have n1_ := Aside0.mk (blk_grown (g := gb173) (o := .cells #[.int .u8 ((rd_T47 l2_0 x14_1).f0), .int .i64 ((rd_T47 l2_0 x14_1).f1), .int .i64 ((rd_T47 l2_0 x14_1).f2), .int .i64 ((rd_T47 l2_0 x14_1).f3)] 47 (0, 0)) (by (with_reducible repeat (first | refine blk_drewN ?_ _ | refine blk_drew ?_ | refine blk_alloc ?_ _)); exact BK173.out) hg (Kd.R_ne HO_7.out BK173.out (by decide))); have n2_ := Aside0.mk (hb); have n3_ := Aside0.mk (ho); clear BK171; clear BK173; clear HB; clear HO_7; have BK171 := n0_; have BK173 := n1_; have HB := n2_; have HO179 := n3_; clear n0_ n1_ n2_ n3_; clear ho hb hg hat))
                            go_roundg kj8
                            case measure => have := HK1.out; have := HJ8.out; omega
                            case rel => exact ⟨(y177), (wrap64 (x14_1 + 1)), (by first | rfl | (simp; done) | (simp [*]; done)), H', ⟨by have := HK1.out; have := HJ8.out; omega⟩, ⟨by (with_reducible repeat (first | apply Kd.R_alloc | apply Kd.R_drewN | apply Kd.R_drew)); exact HO179.out⟩, ⟨by (with_reducible repeat (first | refine blk_drewN ?_ _ | refine blk_drew ?_ | refine blk_alloc ?_ _)); exact BK171.out⟩, ⟨by repeat (first | (with_reducible first | exact HB.out | apply below_alloc | apply pw_below_drewN | apply below_drew1 | refine below_set ?_ GE171.out | refine below_set ?_ GE173.out) | exact HB.out)⟩⟩
                          · rw [if_neg c38] at H
                            exact absurd H (by simp)
                    · rw [if_neg c28] at H
                      exact absurd H (by simp)
                  · rw [if_neg c27] at H
                    exact absurd H (by simp)
          · rw [if_neg c8] at H
            exact absurd H (by simp)
        · rw [if_neg c7] at H
          exact absurd H (by simp)
      · rw [if_neg c6] at H
        have c6b0 : decide (x14_1 < (l2_0.length : Int)) = false := decide_eq_false c6
        clear c6
        obtain rfl := Option.some.inj H
        go_wp2
        go_ret
        exact ⟨_, by first | rfl | (simp [errW_none, errW_some] <;> rfl) | (simp [*, errW_none, errW_some] <;> rfl), by (with_reducible repeat (first | apply Kd.R_alloc | apply Kd.R_drewN | apply Kd.R_drew)); exact HO_7.out, by repeat (first | (with_reducible first | exact HB.out | apply below_alloc | apply pw_below_drewN | apply below_drew1 | refine below_set ?_ GE171.out) | exact HB.out)⟩

end Go.Proofs.Ytodldpdnhcafpaa.F
