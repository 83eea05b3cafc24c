-- A text of this session's own program (wip/myprint.sh over a changed print tool): functions and their walks
import Derived.Test.YtodldpdnhcafpaaF0
import Derived.Test.YtodldpdnhcafpaaF13
namespace Go.Proofs.Ytodldpdnhcafpaa.F
open Go.RowKit Go.Proofs.YtodldpdnhcafpaaW.PrintWords Go.Proofs.YtodldpdnhcafpaaW.PrintLast Go.Proofs.YtodldpdnhcafpaaW.PrintMore
attribute [local go_sem] max2_int min2_int max_two min_two max_three min_three max_four min_four   -- for this text's walks alone
set_option linter.unusedVariables false
set_option linter.unusedSimpArgs false

/-! ### monikerref4_Names: function 24 -/
mutual
def monikerref4_Names.l0 : Nat → ByteArray → List (S61) → List Int → Int → List (S47) → Option (List Int)
  | 0, _, _, _, _, _ => none
  | k + 1, x0, x1, x7, x8, x182000 => if x8 < (x182000.length : Int) then (if 0 ≤ x8 then (if ((rd_T47 x182000 x8).f0) = 45 then (if ((rd_T47 x182000 x8).f1) < 0 then (monikerref4_Names.j1 k x0 x1 x7 x8 true x182000 ((rd_T47 x182000 x8).f0) ((rd_T47 x182000 x8).f1) ((rd_T47 x182000 x8).f2) ((rd_T47 x182000 x8).f3)) else (if ((rd_T47 x182000 x8).f1) ≥ (x1.length : Int) then (monikerref4_Names.j1 k x0 x1 x7 x8 true x182000 ((rd_T47 x182000 x8).f0) ((rd_T47 x182000 x8).f1) ((rd_T47 x182000 x8).f2) ((rd_T47 x182000 x8).f3)) else (if 0 ≤ ((rd_T47 x182000 x8).f1) then (if ((rd_T47 x182000 x8).f1) < (x1.length : Int) then (monikerref4_Names.j1 k x0 x1 x7 x8 (((rd_T61 x1 ((rd_T47 x182000 x8).f1)).f0) != 2) x182000 ((rd_T47 x182000 x8).f0) ((rd_T47 x182000 x8).f1) ((rd_T47 x182000 x8).f2) ((rd_T47 x182000 x8).f3)) else (none)) else (none)))) else (monikerref4_Names.j1 k x0 x1 x7 x8 true x182000 ((rd_T47 x182000 x8).f0) ((rd_T47 x182000 x8).f1) ((rd_T47 x182000 x8).f2) ((rd_T47 x182000 x8).f3))) else (none)) else (some x7)
def monikerref4_Names.j1 : Nat → ByteArray → List (S61) → List Int → Int → Bool → List (S47) → Int → Int → Int → Int → Option (List Int)
  | 0, _, _, _, _, _, _, _, _, _, _ => none
  | k + 1, x0, x1, x7, x8, x46, x182000, x184000, x184001, x184002, x184003 => if x46 = true then (monikerref4_Names.l0 k x0 x1 x7 (wrap64 (x8 + 1)) x182000) else (if 0 ≤ x184001 then (if x184001 < (x1.length : Int) then ((monikerref4_Word.f x0 ((rd_T61 x1 x184001).f0) ((rd_T61 x1 x184001).f1) ((rd_T61 x1 x184001).f2)).bind fun t186 => (if t186.toList = ([] : List UInt8) then (monikerref4_Names.l0 k x0 x1 x7 (wrap64 (x8 + 1)) x182000) else (if t186.toList = ([95] : List UInt8) then (monikerref4_Names.l0 k x0 x1 x7 (wrap64 (x8 + 1)) x182000) else (if x7.length < 17592186044416 then (monikerref4_Names.l0 k x0 x1 (x7 ++ [x184001]) (wrap64 (x8 + 1)) x182000) else (none))))) else (none)) else (none))
end
def monikerref4_Names.f (k : Nat) (a0 : ByteArray) (l1 : List (S61)) (l2_0 : List (S47)) : Option (List Int) := monikerref4_Names.l0 k a0 l1 ([] : List Int) 0 l2_0
theorem monikerref4_Names.mono_l : ∀ k, (∀ y0 y1 y2 y3 y4, LeO (monikerref4_Names.l0 k y0 y1 y2 y3 y4) (monikerref4_Names.l0 (k + 1) y0 y1 y2 y3 y4)) ∧ (∀ y0 y1 y2 y3 y4 y5 y6 y7 y8 y9, LeO (monikerref4_Names.j1 k y0 y1 y2 y3 y4 y5 y6 y7 y8 y9) (monikerref4_Names.j1 (k + 1) y0 y1 y2 y3 y4 y5 y6 y7 y8 y9))
  | 0 => ⟨fun _ _ _ _ _ r h => by simp [monikerref4_Names.l0] at h, fun _ _ _ _ _ _ _ _ _ _ r h => by simp [monikerref4_Names.j1] at h⟩
  | k + 1 => by
    obtain ⟨ih0, ih1⟩ := monikerref4_Names.mono_l k
    refine ⟨?_, ?_⟩
    · intro y0 y1 y2 y3 y4
      unfold monikerref4_Names.l0
      repeat' first
      | (with_reducible exact ih0 _ _ _ _ _)
      | (with_reducible exact ih1 _ _ _ _ _ _ _ _ _ _)
      | (with_reducible exact LeO.refl _)
      | (with_reducible exact LeO.none _)
      | (with_reducible refine LeO.ite ?_ ?_)
      | (with_reducible refine LeO.bind ?_ (fun _ => ?_))
      | exact ih0 _ _ _ _ _
      | exact ih1 _ _ _ _ _ _ _ _ _ _
      | exact LeO.none _
      | refine LeO.ite ?_ ?_
      | refine LeO.bind ?_ (fun _ => ?_)
    · intro y0 y1 y2 y3 y4 y5 y6 y7 y8 y9
      unfold monikerref4_Names.j1
      repeat' first
      | (with_reducible exact ih0 _ _ _ _ _)
      | (with_reducible exact ih1 _ _ _ _ _ _ _ _ _ _)
      | (with_reducible exact LeO.refl _)
      | (with_reducible exact LeO.none _)
      | (with_reducible refine LeO.ite ?_ ?_)
      | (with_reducible refine LeO.bind ?_ (fun _ => ?_))
      | exact ih0 _ _ _ _ _
      | exact ih1 _ _ _ _ _ _ _ _ _ _
      | exact LeO.none _
      | refine LeO.ite ?_ ?_
      | refine LeO.bind ?_ (fun _ => ?_)
theorem monikerref4_Names.mono : ∀ a0 a1 a2 k, LeO (monikerref4_Names.f k a0 a1 a2) (monikerref4_Names.f (k + 1) a0 a1 a2) := by
  intro a0 a1 a2 k
  obtain ⟨ih0, ih1⟩ := monikerref4_Names.mono_l k
  unfold monikerref4_Names.f
  repeat' first
      | (with_reducible exact ih0 _ _ _ _ _)
      | (with_reducible exact ih1 _ _ _ _ _ _ _ _ _ _)
      | (with_reducible exact LeO.refl _)
      | (with_reducible exact LeO.none _)
      | (with_reducible refine LeO.ite ?_ ?_)
      | (with_reducible refine LeO.bind ?_ (fun _ => ?_))
      | exact ih0 _ _ _ _ _
      | exact ih1 _ _ _ _ _ _ _ _ _ _
      | exact LeO.none _
      | refine LeO.ite ?_ ?_
      | refine LeO.bind ?_ (fun _ => ?_)
set_option maxHeartbeats 8000000 in
set_option maxRecDepth 100000 in
theorem monikerref4_Names.calls (k : Nat) (a0 : ByteArray) (A1 : Option Addr) (c1 : Nat) (l1 : List (S61)) (A2_0 : Option Addr) (c2_0 : Nat) (l2_0 : List (S47)) (r : List Int) (w : World) (hr1 : Kd.C k61 w A1 l1.length l1) (hc1 : l1.length ≤ c1) (hr2_0 : Kd.C k47 w A2_0 l2_0.length l2_0) (hc2_0 : l2_0.length ≤ c2_0) (h : monikerref4_Names.f k a0 l1 l2_0 = some r) :
    Calls Try.prog 24 #[.string a0, .slice A1 l1.length c1, .agg #[.slice A2_0 l2_0.length c2_0]] w fun e w' => ∃ v0_ : Value, e = .returned (v0_) ∧ Kd.R (Kd.int .i64) 3 w' w.heap.size (fun _ => True) v0_ r ∧ Below w.heap.size w w' := by
  have hu25 := Try.underlying25
  have hu47 := Try.underlying47
  have hu61 := Try.underlying61
  have HR1 := Aside0.mk hr1
  have HC1 := Aside0.mk hc1
  clear hr1 hc1
  have HR2_0 := Aside0.mk hr2_0
  have HC2_0 := Aside0.mk hc2_0
  clear hr2_0 hc2_0
  have HB := Aside0.mk (Below.refl w.heap.size w)
  have H : (monikerref4_Names.l0 k a0 l1 ([] : List Int) 0 l2_0) = some r := h
  clear h
  have H' := Aside0.mk H
  clear H
  go_enter Try.func24, Try.ntmps24
  go_wp2_with (first | ((with_reducible refine gate_dst (N := 5) rfl ?_); (try (refine gate_guard (by rfl) ?_; dsimp only)); refine box_event ?hg (N := 5) ?hd (cs := #[.slice A2_0 l2_0.length c2_0]) (t := 25) ?hr ?_; (case hd => rfl); (case hg => rfl); (case hr => first | (go_simp; done) | (go_simp; rfl)); intro gb181 hg w4 hbox hb; have n0_ := Aside0.mk (below_step (by repeat (first | (with_reducible first | exact HB.out | apply below_alloc | apply pw_below_drewN | apply below_drew1) | exact HB.out)) hb); have n1_ := Aside0.mk (hbox); have n2_ := Aside0.mk ((by rw [hg]; exact (below_size (by repeat (first | (with_reducible first | exact HB.out | apply below_alloc | apply pw_below_drewN | apply below_drew1) | exact HB.out))) : w.heap.size ≤ gb181)); have n3_ := Aside0.mk ((by rw [hg]; exact (below_size (by repeat (first | (with_reducible first | exact HB.out | apply below_alloc | apply pw_below_drewN | apply below_drew1) | exact HB.out))) : w.heap.size ≤ gb181)); clear HB; have HB := n0_; have BK181 := n1_; have GW181 := n2_; have GE181 := n3_; clear n0_ n1_ n2_ n3_; clear hb hbox hg))
  go_loopg [7, 8] k (fun kq v7 v8 w' => ∃ (x7_1 : List Int) (x8_1 : Int), v8 = .int .i64 x8_1 ∧ Aside0 (monikerref4_Names.l0 kq a0 l1 x7_1 x8_1 l2_0 = some r) ∧ Aside0 (kq ≤ k) ∧ Aside0 (Kd.R (Kd.int .i64) 3 w' w.heap.size (fun _ => True) v7 x7_1) ∧ Aside0 (w'.heap[gb181]? = some (.cells #[(.slice A2_0 l2_0.length c2_0)] 25 (0, 0))) ∧ Aside0 (Below w.heap.size w w'))
  case atStart => exact ⟨(([] : List Int)), (0), (by first | rfl | (simp; done) | (simp [*]; done)), H', ⟨Nat.le_refl _⟩, ⟨by first | exact Kd.R_nil _ _ _ _ _ | exact Kd.N_nil _ _ _ _ _ | exact Kd.V_nil _ _ _ _ _ | exact Kd.Q_nil _ _ _ _ _ | exact Kd.S_nil _ _ _ _ _⟩, ⟨by (with_reducible repeat (first | refine blk_drewN ?_ _ | refine blk_drew ?_ | refine blk_alloc ?_ _)); exact BK181.out⟩, ⟨by repeat (first | (with_reducible first | exact HB.out | apply below_alloc | apply pw_below_drewN | apply below_drew1 | refine below_set ?_ GE181.out) | exact HB.out)⟩⟩
  case round =>
    clear H'
    try clear c1
    try clear c2
    try clear p2
    obtain ⟨x7_1, x8_1, rfl, HA, HK1, HO_7, BK181, HB⟩ := hrel
    cases gk with
    | zero => exact absurd HA.out (by simp [monikerref4_Names.l0])
    | succ k1 =>
      have H := HA.out
      clear HA
      simp only [monikerref4_Names.l0] at H
      by_cases c5 : x8_1 < (l2_0.length : Int)
      · rw [if_pos c5] at H
        have c5b0 : decide (x8_1 < (l2_0.length : Int)) = true := decide_eq_true c5
        clear c5
        by_cases c6 : 0 ≤ x8_1
        · rw [if_pos c6] at H
          have c6b0 : decide (0 ≤ x8_1) = true := decide_eq_true c6
          clear c6
          have HC7 := Aside0.mk H
          clear H
          have hcz8_0 : wr.cell? ⟨gb181, 0, none⟩ = some (.slice A2_0 l2_0.length c2_0) := (blk_cell BK181.out 0).trans rfl
          have hfz8_0 := blk_frozen BK181.out 0
          have p182 : 0 ≤ (x8_1 : Int) := of_decide_eq_true (by first | (with_reducible assumption) | assumption)
          have q182 : x8_1 < (l2_0.length : Int) := of_decide_eq_true (by first | (with_reducible assumption) | assumption)
          obtain ⟨ad182, e182, hx182_0, hx182_1, hx182_2, hx182_3⟩ := at_T47 HR2_0.out x8_1 p182 q182
          cases e182
          replace hx182_0 := (HB.out.cell (World.block_lt_of_cell? w _ hx182_0)).trans hx182_0
          replace hx182_1 := (HB.out.cell (World.block_lt_of_cell? w _ hx182_1)).trans hx182_1
          replace hx182_2 := (HB.out.cell (World.block_lt_of_cell? w _ hx182_2)).trans hx182_2
          replace hx182_3 := (HB.out.cell (World.block_lt_of_cell? w _ hx182_3)).trans hx182_3
          replace p182 := eq_true p182
          replace q182 := eq_true q182
          go_upto_region 6 with (first | ((with_reducible refine gate_dst (N := 9) rfl ?_); (try (refine gate_guard (by rfl) ?_; dsimp only)); refine box_event ?hg (N := 9) ?hd (cs := #[.int .u8 0, .int .i64 0, .int .i64 0, .int .i64 0]) (t := 47) ?hr ?_; (case hd => rfl); (case hg => rfl); (case hr => first | (go_simp; done) | (go_simp; rfl)); intro gb183 hg w9 hbox hb; have n0_ := Aside0.mk (Kd.R_below (by (with_reducible repeat (first | apply Kd.R_alloc | apply Kd.R_drewN | apply Kd.R_drew)); exact HO_7.out) hb); have n1_ := Aside0.mk (blk_below (g := gb181) (o := .cells #[.slice (some ad182) l2_0.length c2_0] 25 (0, 0)) (by (with_reducible repeat (first | refine blk_drewN ?_ _ | refine blk_drew ?_ | refine blk_alloc ?_ _)); exact BK181.out) hb); have n2_ := Aside0.mk (below_step (by repeat (first | (with_reducible first | exact HB.out | apply below_alloc | apply pw_below_drewN | apply below_drew1 | refine below_set ?_ GE181.out) | exact HB.out)) hb); have n3_ := Aside0.mk (hbox); have n4_ := Aside0.mk ((by rw [hg]; exact (below_size (by repeat (first | (with_reducible first | exact HB.out | apply below_alloc | apply pw_below_drewN | apply below_drew1 | refine below_set ?_ GE181.out) | exact HB.out))) : w.heap.size ≤ gb183)); have n5_ := Aside0.mk ((by rw [hg]; exact (below_size (by repeat (first | (with_reducible first | exact HB.out | apply below_alloc | apply pw_below_drewN | apply below_drew1 | refine below_set ?_ GE181.out) | exact HB.out))) : w.heap.size ≤ gb183)); have n6_ := Aside0.mk ((by rw [hg]; exact Nat.ne_of_lt (blk_lt (g := gb181) (o := .cells #[.slice (some ad182) l2_0.length c2_0] 25 (0, 0)) (by (with_reducible repeat (first | refine blk_drewN ?_ _ | refine blk_drew ?_ | refine blk_alloc ?_ _)); exact BK181.out)) : gb181 ≠ gb183)); have n7_ := Aside0.mk ((by rw [hg]; exact Nat.ne_of_gt (blk_lt (g := gb181) (o := .cells #[.slice (some ad182) l2_0.length c2_0] 25 (0, 0)) (by (with_reducible repeat (first | refine blk_drewN ?_ _ | refine blk_drew ?_ | refine blk_alloc ?_ _)); exact BK181.out)) : gb183 ≠ gb181)); clear HO_7; clear BK181; clear HB; have HO_7 := n0_; have BK181 := n1_; have HB := n2_; have BK183 := n3_; have GW183 := n4_; have GE183 := n5_; have NB181_183 := n6_; have NB183_181 := n7_; clear n0_ n1_ n2_ n3_ n4_ n5_ n6_ n7_; clear hb hbox hg; have hnb10 := NB183_181.out; have hnc10 := NB181_183.out; have hcz11_0 : w9.cell? ⟨gb183, 0, none⟩ = some (.int .u8 0) := (blk_cell BK183.out 0).trans rfl; have hcz11_1 : w9.cell? ⟨gb183, 1, none⟩ = some (.int .i64 0) := (blk_cell BK183.out 1).trans rfl; have hcz11_2 : w9.cell? ⟨gb183, 2, none⟩ = some (.int .i64 0) := (blk_cell BK183.out 2).trans rfl; have hcz11_3 : w9.cell? ⟨gb183, 3, none⟩ = some (.int .i64 0) := (blk_cell BK183.out 3).trans rfl; have hfz11_0 := blk_frozen BK183.out 0; have hfz11_1 := blk_frozen BK183.out 1; have hfz11_2 := blk_frozen BK183.out 2; have hfz11_3 := blk_frozen BK183.out 3))
          (try simp only [Act.put, List.setIfInBounds_toArray, List.set_cons_zero, List.set_cons_succ])
          go_cut [46] (fun v46 wc => ∃ (kq : Nat) (x46_6 : Bool), v46 = .bool x46_6 ∧ Aside0 (monikerref4_Names.j1 kq a0 l1 x7_1 x8_1 x46_6 l2_0 ((rd_T47 l2_0 x8_1).f0) ((rd_T47 l2_0 x8_1).f1) ((rd_T47 l2_0 x8_1).f2) ((rd_T47 l2_0 x8_1).f3) = some r) ∧ Aside0 (kq ≤ k1) ∧ Aside0 (Kd.R (Kd.int .i64) 3 wc w.heap.size (fun _ => True) u7 x7_1) ∧ Aside0 (wc.heap[gb181]? = some (.cells #[(.slice (some ad182) l2_0.length c2_0)] 25 (0, 0))) ∧ Aside0 (wc.heap[gb183]? = some (.cells #[.int .u8 ((rd_T47 l2_0 x8_1).f0), .int .i64 ((rd_T47 l2_0 x8_1).f1), .int .i64 ((rd_T47 l2_0 x8_1).f2), .int .i64 ((rd_T47 l2_0 x8_1).f3)] 47 (0, 0))) ∧ Aside0 (Below w.heap.size w wc))
          case first =>
            have H := HC7.out
            clear HC7
            by_cases c12 : ((rd_T47 l2_0 x8_1).f0) = 45
            · rw [if_pos c12] at H
              have c12b0 : (((rd_T47 l2_0 x8_1).f0) == 45) = true := beq_iff_eq.mpr c12
              have c12b1 : (((rd_T47 l2_0 x8_1).f0) != 45) = false := bne_eq_false_iff_eq.mpr c12
              clear c12
              (first | rw [c12b0] | (simp only [i64_w, i32_w]; rw [c12b0]) | skip)
              by_cases c13 : ((rd_T47 l2_0 x8_1).f1) < 0
              · rw [if_pos c13] at H
                have c13b0 : decide (((rd_T47 l2_0 x8_1).f1) < 0) = true := decide_eq_true c13
                clear c13
                have H' := Aside0.mk H
                clear H
                have hnb14 := NB183_181.out
                have hnc14 := NB181_183.out
                have hcz15_0 : w9.cell? ⟨gb183, 0, none⟩ = some (.int .u8 0) := (blk_cell BK183.out 0).trans rfl
                have hcz15_1 : w9.cell? ⟨gb183, 1, none⟩ = some (.int .i64 0) := (blk_cell BK183.out 1).trans rfl
                have hcz15_2 : w9.cell? ⟨gb183, 2, none⟩ = some (.int .i64 0) := (blk_cell BK183.out 2).trans rfl
                have hcz15_3 : w9.cell? ⟨gb183, 3, none⟩ = some (.int .i64 0) := (blk_cell BK183.out 3).trans rfl
                have hfz15_0 := blk_frozen BK183.out 0
                have hfz15_1 := blk_frozen BK183.out 1
                have hfz15_2 := blk_frozen BK183.out 2
                have hfz15_3 := blk_frozen BK183.out 3
                go_wp2
                go_meet
                case rel => exact ⟨_, (true), (by first | rfl | (simp; done) | (simp [*]; done)), H', ⟨by have := HK1.out; first | omega | exact Nat.le_refl _⟩, ⟨by (with_reducible repeat (first | apply Kd.R_alloc | apply Kd.R_drewN | apply Kd.R_drew)); exact Kd.R_mono (Kd.R_far (p := ⟨gb183, 3, none⟩) (Kd.R_far (p := ⟨gb183, 2, none⟩) (Kd.R_far (p := ⟨gb183, 1, none⟩) (Kd.R_far (p := ⟨gb183, 0, none⟩) (Kd.R_types HO_7.out BK183.out (by decide)) (fun _ hk => hk.2) (.int .u8 ((rd_T47 l2_0 x8_1).f0))) (fun _ hk => hk.2) (.int .i64 ((rd_T47 l2_0 x8_1).f1))) (fun _ hk => hk.2) (.int .i64 ((rd_T47 l2_0 x8_1).f2))) (fun _ hk => hk.2) (.int .i64 ((rd_T47 l2_0 x8_1).f3))) (fun _ hk => trivial)⟩, ⟨by (with_reducible repeat (first | refine blk_drewN ?_ _ | refine blk_drew ?_ | refine blk_alloc ?_ _)); refine blk_far ?_ NB181_183.out _; (with_reducible repeat (first | refine blk_drewN ?_ _ | refine blk_drew ?_ | refine blk_alloc ?_ _)); refine blk_far ?_ NB181_183.out _; (with_reducible repeat (first | refine blk_drewN ?_ _ | refine blk_drew ?_ | refine blk_alloc ?_ _)); refine blk_far ?_ NB181_183.out _; (with_reducible repeat (first | refine blk_drewN ?_ _ | refine blk_drew ?_ | refine blk_alloc ?_ _)); refine blk_far ?_ NB181_183.out _; (with_reducible repeat (first | refine blk_drewN ?_ _ | refine blk_drew ?_ | refine blk_alloc ?_ _)); exact BK181.out⟩, ⟨by (with_reducible repeat (first | refine blk_drewN ?_ _ | refine blk_drew ?_ | refine blk_alloc ?_ _)); refine blk_put (cs := #[.int .u8 ((rd_T47 l2_0 x8_1).f0), .int .i64 ((rd_T47 l2_0 x8_1).f1), .int .i64 ((rd_T47 l2_0 x8_1).f2), .int .i64 0]) ?_ 3 _ rfl; (with_reducible repeat (first | refine blk_drewN ?_ _ | refine blk_drew ?_ | refine blk_alloc ?_ _)); refine blk_put (cs := #[.int .u8 ((rd_T47 l2_0 x8_1).f0), .int .i64 ((rd_T47 l2_0 x8_1).f1), .int .i64 0, .int .i64 0]) ?_ 2 _ rfl; (with_reducible repeat (first | refine blk_drewN ?_ _ | refine blk_drew ?_ | refine blk_alloc ?_ _)); refine blk_put (cs := #[.int .u8 ((rd_T47 l2_0 x8_1).f0), .int .i64 0, .int .i64 0, .int .i64 0]) ?_ 1 _ rfl; (with_reducible repeat (first | refine blk_drewN ?_ _ | refine blk_drew ?_ | refine blk_alloc ?_ _)); refine blk_put (cs := #[.int .u8 0, .int .i64 0, .int .i64 0, .int .i64 0]) ?_ 0 _ rfl; (with_reducible repeat (first | refine blk_drewN ?_ _ | refine blk_drew ?_ | refine blk_alloc ?_ _)); exact BK183.out⟩, ⟨by repeat (first | (with_reducible first | exact HB.out | apply below_alloc | apply pw_below_drewN | apply below_drew1 | refine below_set ?_ GE181.out | refine below_set ?_ GE183.out) | exact HB.out)⟩⟩
              · rw [if_neg c13] at H
                have c13b0 : decide (((rd_T47 l2_0 x8_1).f1) < 0) = false := decide_eq_false c13
                clear c13
                by_cases c16 : ((rd_T47 l2_0 x8_1).f1) ≥ (l1.length : Int)
                · rw [if_pos c16] at H
                  have c16b0 : decide ((l1.length : Int) ≤ ((rd_T47 l2_0 x8_1).f1)) = true := decide_eq_true c16
                  clear c16
                  have H' := Aside0.mk H
                  clear H
                  have hnb17 := NB183_181.out
                  have hnc17 := NB181_183.out
                  have hcz18_0 : w9.cell? ⟨gb183, 0, none⟩ = some (.int .u8 0) := (blk_cell BK183.out 0).trans rfl
                  have hcz18_1 : w9.cell? ⟨gb183, 1, none⟩ = some (.int .i64 0) := (blk_cell BK183.out 1).trans rfl
                  have hcz18_2 : w9.cell? ⟨gb183, 2, none⟩ = some (.int .i64 0) := (blk_cell BK183.out 2).trans rfl
                  have hcz18_3 : w9.cell? ⟨gb183, 3, none⟩ = some (.int .i64 0) := (blk_cell BK183.out 3).trans rfl
                  have hfz18_0 := blk_frozen BK183.out 0
                  have hfz18_1 := blk_frozen BK183.out 1
                  have hfz18_2 := blk_frozen BK183.out 2
                  have hfz18_3 := blk_frozen BK183.out 3
                  go_wp2
                  go_meet
                  case rel => exact ⟨_, (true), (by first | rfl | (simp; done) | (simp [*]; done)), H', ⟨by have := HK1.out; first | omega | exact Nat.le_refl _⟩, ⟨by (with_reducible repeat (first | apply Kd.R_alloc | apply Kd.R_drewN | apply Kd.R_drew)); exact Kd.R_mono (Kd.R_far (p := ⟨gb183, 3, none⟩) (Kd.R_far (p := ⟨gb183, 2, none⟩) (Kd.R_far (p := ⟨gb183, 1, none⟩) (Kd.R_far (p := ⟨gb183, 0, none⟩) (Kd.R_types HO_7.out BK183.out (by decide)) (fun _ hk => hk.2) (.int .u8 ((rd_T47 l2_0 x8_1).f0))) (fun _ hk => hk.2) (.int .i64 ((rd_T47 l2_0 x8_1).f1))) (fun _ hk => hk.2) (.int .i64 ((rd_T47 l2_0 x8_1).f2))) (fun _ hk => hk.2) (.int .i64 ((rd_T47 l2_0 x8_1).f3))) (fun _ hk => trivial)⟩, ⟨by (with_reducible repeat (first | refine blk_drewN ?_ _ | refine blk_drew ?_ | refine blk_alloc ?_ _)); refine blk_far ?_ NB181_183.out _; (with_reducible repeat (first | refine blk_drewN ?_ _ | refine blk_drew ?_ | refine blk_alloc ?_ _)); refine blk_far ?_ NB181_183.out _; (with_reducible repeat (first | refine blk_drewN ?_ _ | refine blk_drew ?_ | refine blk_alloc ?_ _)); refine blk_far ?_ NB181_183.out _; (with_reducible repeat (first | refine blk_drewN ?_ _ | refine blk_drew ?_ | refine blk_alloc ?_ _)); refine blk_far ?_ NB181_183.out _; (with_reducible repeat (first | refine blk_drewN ?_ _ | refine blk_drew ?_ | refine blk_alloc ?_ _)); exact BK181.out⟩, ⟨by (with_reducible repeat (first | refine blk_drewN ?_ _ | refine blk_drew ?_ | refine blk_alloc ?_ _)); refine blk_put (cs := #[.int .u8 ((rd_T47 l2_0 x8_1).f0), .int .i64 ((rd_T47 l2_0 x8_1).f1), .int .i64 ((rd_T47 l2_0 x8_1).f2), .int .i64 0]) ?_ 3 _ rfl; (with_reducible repeat (first | refine blk_drewN ?_ _ | refine blk_drew ?_ | refine blk_alloc ?_ _)); refine blk_put (cs := #[.int .u8 ((rd_T47 l2_0 x8_1).f0), .int .i64 ((rd_T47 l2_0 x8_1).f1), .int .i64 0, .int .i64 0]) ?_ 2 _ rfl; (with_reducible repeat (first | refine blk_drewN ?_ _ | refine blk_drew ?_ | refine blk_alloc ?_ _)); refine blk_put (cs := #[.int .u8 ((rd_T47 l2_0 x8_1).f0), .int .i64 0, .int .i64 0, .int .i64 0]) ?_ 1 _ rfl; (with_reducible repeat (first | refine blk_drewN ?_ _ | refine blk_drew ?_ | refine blk_alloc ?_ _)); refine blk_put (cs := #[.int .u8 0, .int .i64 0, .int .i64 0, .int .i64 0]) ?_ 0 _ rfl; (with_reducible repeat (first | refine blk_drewN ?_ _ | refine blk_drew ?_ | refine blk_alloc ?_ _)); exact BK183.out⟩, ⟨by repeat (first | (with_reducible first | exact HB.out | apply below_alloc | apply pw_below_drewN | apply below_drew1 | refine below_set ?_ GE181.out | refine below_set ?_ GE183.out) | exact HB.out)⟩⟩
                · rw [if_neg c16] at H
                  have c16b0 : decide ((l1.length : Int) ≤ ((rd_T47 l2_0 x8_1).f1)) = false := decide_eq_false c16
                  clear c16
                  by_cases c19 : 0 ≤ ((rd_T47 l2_0 x8_1).f1)
                  · rw [if_pos c19] at H
                    have c19b0 : decide (0 ≤ ((rd_T47 l2_0 x8_1).f1)) = true := decide_eq_true c19
                    clear c19
                    by_cases c20 : ((rd_T47 l2_0 x8_1).f1) < (l1.length : Int)
                    · rw [if_pos c20] at H
                      have c20b0 : decide (((rd_T47 l2_0 x8_1).f1) < (l1.length : Int)) = true := decide_eq_true c20
                      clear c20
                      have H' := Aside0.mk H
                      clear H
                      have hnb21 := NB183_181.out
                      have hnc21 := NB181_183.out
                      have hcz22_0 : w9.cell? ⟨gb183, 0, none⟩ = some (.int .u8 0) := (blk_cell BK183.out 0).trans rfl
                      have hcz22_1 : w9.cell? ⟨gb183, 1, none⟩ = some (.int .i64 0) := (blk_cell BK183.out 1).trans rfl
                      have hcz22_2 : w9.cell? ⟨gb183, 2, none⟩ = some (.int .i64 0) := (blk_cell BK183.out 2).trans rfl
                      have hcz22_3 : w9.cell? ⟨gb183, 3, none⟩ = some (.int .i64 0) := (blk_cell BK183.out 3).trans rfl
                      have hfz22_0 := blk_frozen BK183.out 0
                      have hfz22_1 := blk_frozen BK183.out 1
                      have hfz22_2 := blk_frozen BK183.out 2
                      have hfz22_3 := blk_frozen BK183.out 3
                      have p184 : 0 ≤ (((rd_T47 l2_0 x8_1).f1) : Int) := of_decide_eq_true (by first | (with_reducible assumption) | assumption)
                      have q184 : ((rd_T47 l2_0 x8_1).f1) < (l1.length : Int) := of_decide_eq_true (by first | (with_reducible assumption) | assumption)
                      obtain ⟨ad184, e184, hx184_0, hx184_1, hx184_2⟩ := at_T61 HR1.out ((rd_T47 l2_0 x8_1).f1) p184 q184
                      cases e184
                      have hn184_0 : ad184.block ≠ gb183 := Nat.ne_of_lt (Nat.lt_of_lt_of_le (by have := World.block_lt_of_cell? _ _ hx184_0; first | rwa [add_block] at this | exact this) GW183.out)
                      have hn184_1 : ad184.block ≠ gb183 := Nat.ne_of_lt (Nat.lt_of_lt_of_le (by have := World.block_lt_of_cell? _ _ hx184_0; first | rwa [add_block] at this | exact this) GW183.out)
                      have hn184_2 : ad184.block ≠ gb183 := Nat.ne_of_lt (Nat.lt_of_lt_of_le (by have := World.block_lt_of_cell? _ _ hx184_0; first | rwa [add_block] at this | exact this) GW183.out)
                      have hn184_3 : ad184.block ≠ gb183 := Nat.ne_of_lt (Nat.lt_of_lt_of_le (by have := World.block_lt_of_cell? _ _ hx184_0; first | rwa [add_block] at this | exact this) GW183.out)
                      replace hx184_0 := (HB.out.cell (World.block_lt_of_cell? w _ hx184_0)).trans hx184_0
                      replace hx184_1 := (HB.out.cell (World.block_lt_of_cell? w _ hx184_1)).trans hx184_1
                      replace hx184_2 := (HB.out.cell (World.block_lt_of_cell? w _ hx184_2)).trans hx184_2
                      replace hx184_0 := (cell_far (p := ⟨gb183, 0, none⟩) (by first | (rw [add_block]; exact hn184_0) | (show (Addr.add _ _).block ≠ _; rw [add_block]; exact hn184_0) | exact hn184_0) (.int .u8 ((rd_T47 l2_0 x8_1).f0))).trans hx184_0
                      replace hx184_1 := (cell_far (p := ⟨gb183, 0, none⟩) (by first | (rw [add_block]; exact hn184_0) | (show (Addr.add _ _).block ≠ _; rw [add_block]; exact hn184_0) | exact hn184_0) (.int .u8 ((rd_T47 l2_0 x8_1).f0))).trans hx184_1
                      replace hx184_2 := (cell_far (p := ⟨gb183, 0, none⟩) (by first | (rw [add_block]; exact hn184_0) | (show (Addr.add _ _).block ≠ _; rw [add_block]; exact hn184_0) | exact hn184_0) (.int .u8 ((rd_T47 l2_0 x8_1).f0))).trans hx184_2
                      replace hx184_0 := (cell_far (p := ⟨gb183, 1, none⟩) (by first | (rw [add_block]; exact hn184_1) | (show (Addr.add _ _).block ≠ _; rw [add_block]; exact hn184_1) | exact hn184_1) (.int .i64 ((rd_T47 l2_0 x8_1).f1))).trans hx184_0
                      replace hx184_1 := (cell_far (p := ⟨gb183, 1, none⟩) (by first | (rw [add_block]; exact hn184_1) | (show (Addr.add _ _).block ≠ _; rw [add_block]; exact hn184_1) | exact hn184_1) (.int .i64 ((rd_T47 l2_0 x8_1).f1))).trans hx184_1
                      replace hx184_2 := (cell_far (p := ⟨gb183, 1, none⟩) (by first | (rw [add_block]; exact hn184_1) | (show (Addr.add _ _).block ≠ _; rw [add_block]; exact hn184_1) | exact hn184_1) (.int .i64 ((rd_T47 l2_0 x8_1).f1))).trans hx184_2
                      replace hx184_0 := (cell_far (p := ⟨gb183, 2, none⟩) (by first | (rw [add_block]; exact hn184_2) | (show (Addr.add _ _).block ≠ _; rw [add_block]; exact hn184_2) | exact hn184_2) (.int .i64 ((rd_T47 l2_0 x8_1).f2))).trans hx184_0
                      replace hx184_1 := (cell_far (p := ⟨gb183, 2, none⟩) (by first | (rw [add_block]; exact hn184_2) | (show (Addr.add _ _).block ≠ _; rw [add_block]; exact hn184_2) | exact hn184_2) (.int .i64 ((rd_T47 l2_0 x8_1).f2))).trans hx184_1
                      replace hx184_2 := (cell_far (p := ⟨gb183, 2, none⟩) (by first | (rw [add_block]; exact hn184_2) | (show (Addr.add _ _).block ≠ _; rw [add_block]; exact hn184_2) | exact hn184_2) (.int .i64 ((rd_T47 l2_0 x8_1).f2))).trans hx184_2
                      replace hx184_0 := (cell_far (p := ⟨gb183, 3, none⟩) (by first | (rw [add_block]; exact hn184_3) | (show (Addr.add _ _).block ≠ _; rw [add_block]; exact hn184_3) | exact hn184_3) (.int .i64 ((rd_T47 l2_0 x8_1).f3))).trans hx184_0
                      replace hx184_1 := (cell_far (p := ⟨gb183, 3, none⟩) (by first | (rw [add_block]; exact hn184_3) | (show (Addr.add _ _).block ≠ _; rw [add_block]; exact hn184_3) | exact hn184_3) (.int .i64 ((rd_T47 l2_0 x8_1).f3))).trans hx184_1
                      replace hx184_2 := (cell_far (p := ⟨gb183, 3, none⟩) (by first | (rw [add_block]; exact hn184_3) | (show (Addr.add _ _).block ≠ _; rw [add_block]; exact hn184_3) | exact hn184_3) (.int .i64 ((rd_T47 l2_0 x8_1).f3))).trans hx184_2
                      clear hn184_0
                      clear hn184_1
                      clear hn184_2
                      clear hn184_3
                      replace p184 := eq_true p184
                      replace q184 := eq_true q184
                      go_wp2
                      go_meet
                      case rel => exact ⟨_, ((((rd_T61 l1 ((rd_T47 l2_0 x8_1).f1)).f0) != 2)), (by first | rfl | (simp; done) | (simp [*]; done)), H', ⟨by have := HK1.out; first | omega | exact Nat.le_refl _⟩, ⟨by (with_reducible repeat (first | apply Kd.R_alloc | apply Kd.R_drewN | apply Kd.R_drew)); exact Kd.R_mono (Kd.R_far (p := ⟨gb183, 3, none⟩) (Kd.R_far (p := ⟨gb183, 2, none⟩) (Kd.R_far (p := ⟨gb183, 1, none⟩) (Kd.R_far (p := ⟨gb183, 0, none⟩) (Kd.R_types HO_7.out BK183.out (by decide)) (fun _ hk => hk.2) (.int .u8 ((rd_T47 l2_0 x8_1).f0))) (fun _ hk => hk.2) (.int .i64 ((rd_T47 l2_0 x8_1).f1))) (fun _ hk => hk.2) (.int .i64 ((rd_T47 l2_0 x8_1).f2))) (fun _ hk => hk.2) (.int .i64 ((rd_T47 l2_0 x8_1).f3))) (fun _ hk => trivial)⟩, ⟨by (with_reducible repeat (first | refine blk_drewN ?_ _ | refine blk_drew ?_ | refine blk_alloc ?_ _)); refine blk_far ?_ NB181_183.out _; (with_reducible repeat (first | refine blk_drewN ?_ _ | refine blk_drew ?_ | refine blk_alloc ?_ _)); refine blk_far ?_ NB181_183.out _; (with_reducible repeat (first | refine blk_drewN ?_ _ | refine blk_drew ?_ | refine blk_alloc ?_ _)); refine blk_far ?_ NB181_183.out _; (with_reducible repeat (first | refine blk_drewN ?_ _ | refine blk_drew ?_ | refine blk_alloc ?_ _)); refine blk_far ?_ NB181_183.out _; (with_reducible repeat (first | refine blk_drewN ?_ _ | refine blk_drew ?_ | refine blk_alloc ?_ _)); exact BK181.out⟩, ⟨by (with_reducible repeat (first | refine blk_drewN ?_ _ | refine blk_drew ?_ | refine blk_alloc ?_ _)); refine blk_put (cs := #[.int .u8 ((rd_T47 l2_0 x8_1).f0), .int .i64 ((rd_T47 l2_0 x8_1).f1), .int .i64 ((rd_T47 l2_0 x8_1).f2), .int .i64 0]) ?_ 3 _ rfl; (with_reducible repeat (first | refine blk_drewN ?_ _ | refine blk_drew ?_ | refine blk_alloc ?_ _)); refine blk_put (cs := #[.int .u8 ((rd_T47 l2_0 x8_1).f0), .int .i64 ((rd_T47 l2_0 x8_1).f1), .int .i64 0, .int .i64 0]) ?_ 2 _ rfl; (with_reducible repeat (first | refine blk_drewN ?_ _ | refine blk_drew ?_ | refine blk_alloc ?_ _)); refine blk_put (cs := #[.int .u8 ((rd_T47 l2_0 x8_1).f0), .int .i64 0, .int .i64 0, .int .i64 0]) ?_ 1 _ rfl; (with_reducible repeat (first | refine blk_drewN ?_ _ | refine blk_drew ?_ | refine blk_alloc ?_ _)); refine blk_put (cs := #[.int .u8 0, .int .i64 0, .int .i64 0, .int .i64 0]) ?_ 0 _ rfl; (with_reducible repeat (first | refine blk_drewN ?_ _ | refine blk_drew ?_ | refine blk_alloc ?_ _)); exact BK183.out⟩, ⟨by repeat (first | (with_reducible first | exact HB.out | apply below_alloc | apply pw_below_drewN | apply below_drew1 | refine below_set ?_ GE181.out | refine below_set ?_ GE183.out) | exact HB.out)⟩⟩
                    · rw [if_neg c20] at H
                      exact absurd H (by simp)
                  · rw [if_neg c19] at H
                    exact absurd H (by simp)
            · rw [if_neg c12] at H
              have c12b0 : (((rd_T47 l2_0 x8_1).f0) == 45) = false := beq_eq_false_iff_ne.mpr c12
              have c12b1 : (((rd_T47 l2_0 x8_1).f0) != 45) = true := bne_iff_ne.mpr c12
              (first | rw [c12b0] | (simp only [i64_w, i32_w]; rw [c12b0]) | skip)
              have H' := Aside0.mk H
              clear H
              have hnb23 := NB183_181.out
              have hnc23 := NB181_183.out
              have hcz24_0 : w9.cell? ⟨gb183, 0, none⟩ = some (.int .u8 0) := (blk_cell BK183.out 0).trans rfl
              have hcz24_1 : w9.cell? ⟨gb183, 1, none⟩ = some (.int .i64 0) := (blk_cell BK183.out 1).trans rfl
              have hcz24_2 : w9.cell? ⟨gb183, 2, none⟩ = some (.int .i64 0) := (blk_cell BK183.out 2).trans rfl
              have hcz24_3 : w9.cell? ⟨gb183, 3, none⟩ = some (.int .i64 0) := (blk_cell BK183.out 3).trans rfl
              have hfz24_0 := blk_frozen BK183.out 0
              have hfz24_1 := blk_frozen BK183.out 1
              have hfz24_2 := blk_frozen BK183.out 2
              have hfz24_3 := blk_frozen BK183.out 3
              go_wp2
              go_meet
              case rel => exact ⟨_, (true), (by first | rfl | (simp; done) | (simp [*]; done)), H', ⟨by have := HK1.out; first | omega | exact Nat.le_refl _⟩, ⟨by (with_reducible repeat (first | apply Kd.R_alloc | apply Kd.R_drewN | apply Kd.R_drew)); exact Kd.R_mono (Kd.R_far (p := ⟨gb183, 3, none⟩) (Kd.R_far (p := ⟨gb183, 2, none⟩) (Kd.R_far (p := ⟨gb183, 1, none⟩) (Kd.R_far (p := ⟨gb183, 0, none⟩) (Kd.R_types HO_7.out BK183.out (by decide)) (fun _ hk => hk.2) (.int .u8 ((rd_T47 l2_0 x8_1).f0))) (fun _ hk => hk.2) (.int .i64 ((rd_T47 l2_0 x8_1).f1))) (fun _ hk => hk.2) (.int .i64 ((rd_T47 l2_0 x8_1).f2))) (fun _ hk => hk.2) (.int .i64 ((rd_T47 l2_0 x8_1).f3))) (fun _ hk => trivial)⟩, ⟨by (with_reducible repeat (first | refine blk_drewN ?_ _ | refine blk_drew ?_ | refine blk_alloc ?_ _)); refine blk_far ?_ NB181_183.out _; (with_reducible repeat (first | refine blk_drewN ?_ _ | refine blk_drew ?_ | refine blk_alloc ?_ _)); refine blk_far ?_ NB181_183.out _; (with_reducible repeat (first | refine blk_drewN ?_ _ | refine blk_drew ?_ | refine blk_alloc ?_ _)); refine blk_far ?_ NB181_183.out _; (with_reducible repeat (first | refine blk_drewN ?_ _ | refine blk_drew ?_ | refine blk_alloc ?_ _)); refine blk_far ?_ NB181_183.out _; (with_reducible repeat (first | refine blk_drewN ?_ _ | refine blk_drew ?_ | refine blk_alloc ?_ _)); exact BK181.out⟩, ⟨by (with_reducible repeat (first | refine blk_drewN ?_ _ | refine blk_drew ?_ | refine blk_alloc ?_ _)); refine blk_put (cs := #[.int .u8 ((rd_T47 l2_0 x8_1).f0), .int .i64 ((rd_T47 l2_0 x8_1).f1), .int .i64 ((rd_T47 l2_0 x8_1).f2), .int .i64 0]) ?_ 3 _ rfl; (with_reducible repeat (first | refine blk_drewN ?_ _ | refine blk_drew ?_ | refine blk_alloc ?_ _)); refine blk_put (cs := #[.int .u8 ((rd_T47 l2_0 x8_1).f0), .int .i64 ((rd_T47 l2_0 x8_1).f1), .int .i64 0, .int .i64 0]) ?_ 2 _ rfl; (with_reducible repeat (first | refine blk_drewN ?_ _ | refine blk_drew ?_ | refine blk_alloc ?_ _)); refine blk_put (cs := #[.int .u8 ((rd_T47 l2_0 x8_1).f0), .int .i64 0, .int .i64 0, .int .i64 0]) ?_ 1 _ rfl; (with_reducible repeat (first | refine blk_drewN ?_ _ | refine blk_drew ?_ | refine blk_alloc ?_ _)); refine blk_put (cs := #[.int .u8 0, .int .i64 0, .int .i64 0, .int .i64 0]) ?_ 0 _ rfl; (with_reducible repeat (first | refine blk_drewN ?_ _ | refine blk_drew ?_ | refine blk_alloc ?_ _)); exact BK183.out⟩, ⟨by repeat (first | (with_reducible first | exact HB.out | apply below_alloc | apply pw_below_drewN | apply below_drew1 | refine below_set ?_ GE181.out | refine below_set ?_ GE183.out) | exact HB.out)⟩⟩
          case rest =>
            clear HC7
            try clear c1
            try clear p1
            try clear q1
            try clear hx1
            try clear c2
            try clear p2
            try clear c5
            try clear c5b0
            try clear c6
            try clear c6b0
            try clear c10
            try clear c12
            try clear c12b0
            try clear c12b1
            try clear c13
            try clear c13b0
            try clear c14
            try clear c16
            try clear c16b0
            try clear c17
            try clear p18
            try clear q18
            try clear hx18
            try clear c19
            try clear c19b0
            try clear c20
            try clear c20b0
            try clear c21
            try clear c23
            try clear c24
            try clear hcz11_0
            try clear hcz11_1
            try clear hcz11_2
            try clear hcz11_3
            try clear hcz15_0
            try clear hcz15_1
            try clear hcz15_2
            try clear hcz15_3
            try clear hcz18_0
            try clear hcz18_1
            try clear hcz18_2
            try clear hcz18_3
            try clear hcz22_0
            try clear hcz22_1
            try clear hcz22_2
            try clear hcz22_3
            try clear hcz24_0
            try clear hcz24_1
            try clear hcz24_2
            try clear hcz24_3
            try clear hcz8_0
            try clear hfz11_0
            try clear hfz11_1
            try clear hfz11_2
            try clear hfz11_3
            try clear hfz15_0
            try clear hfz15_1
            try clear hfz15_2
            try clear hfz15_3
            try clear hfz18_0
            try clear hfz18_1
            try clear hfz18_2
            try clear hfz18_3
            try clear hfz22_0
            try clear hfz22_1
            try clear hfz22_2
            try clear hfz22_3
            try clear hfz24_0
            try clear hfz24_1
            try clear hfz24_2
            try clear hfz24_3
            try clear hfz8_0
            try clear hx182_0
            try clear hx182_1
            try clear hx182_2
            try clear hx182_3
            try clear hx184_0
            try clear hx184_1
            try clear hx184_2
            try clear p182
            try clear p184
            try clear p2
            try clear q182
            try clear q184
            obtain ⟨kq, x46_6, rfl, HA, HJ6, HO_7, BK181, BK183, HB⟩ := hcut
            cases kq with
            | zero => exact absurd HA.out (by simp [monikerref4_Names.j1])
            | succ kj6 =>
              have H := HA.out
              clear HA
              simp only [monikerref4_Names.j1] at H
              by_cases c25 : x46_6 = true
              · subst c25
                have H1 : (monikerref4_Names.l0 kj6 a0 l1 x7_1 (wrap64 (x8_1 + 1)) l2_0) = some r := by rw [if_pos rfl] at H; exact H
                clear H
                have H := H1
                clear H1
                have H' := Aside0.mk H
                clear H
                go_wp2
                go_roundg kj6
                case measure => have := HK1.out; have := HJ6.out; omega
                case rel => exact ⟨(x7_1), (wrap64 (x8_1 + 1)), (by first | rfl | (simp; done) | (simp [*]; done)), H', ⟨by have := HK1.out; have := HJ6.out; omega⟩, ⟨by (with_reducible repeat (first | apply Kd.R_alloc | apply Kd.R_drewN | apply Kd.R_drew)); exact HO_7.out⟩, ⟨by (with_reducible repeat (first | refine blk_drewN ?_ _ | refine blk_drew ?_ | refine blk_alloc ?_ _)); exact BK181.out⟩, ⟨by repeat (first | (with_reducible first | exact HB.out | apply below_alloc | apply pw_below_drewN | apply below_drew1 | refine below_set ?_ GE181.out | refine below_set ?_ GE183.out) | exact HB.out)⟩⟩
              · replace c25 := Bool.eq_false_iff.mpr c25
                subst c25
                have H1 : (if 0 ≤ ((rd_T47 l2_0 x8_1).f1) then (if ((rd_T47 l2_0 x8_1).f1) < (l1.length : Int) then ((monikerref4_Word.f a0 ((rd_T61 l1 ((rd_T47 l2_0 x8_1).f1)).f0) ((rd_T61 l1 ((rd_T47 l2_0 x8_1).f1)).f1) ((rd_T61 l1 ((rd_T47 l2_0 x8_1).f1)).f2)).bind fun t186 => (if t186.toList = ([] : List UInt8) then (monikerref4_Names.l0 kj6 a0 l1 x7_1 (wrap64 (x8_1 + 1)) l2_0) else (if t186.toList = ([95] : List UInt8) then (monikerref4_Names.l0 kj6 a0 l1 x7_1 (wrap64 (x8_1 + 1)) l2_0) else (if x7_1.length < 17592186044416 then (monikerref4_Names.l0 kj6 a0 l1 (x7_1 ++ [((rd_T47 l2_0 x8_1).f1)]) (wrap64 (x8_1 + 1)) l2_0) else (none))))) else (none)) else (none)) = some r := by rw [if_neg (show ¬ (false = true) by decide)] at H; exact H
                clear H
                have H := H1
                clear H1
                by_cases c26 : 0 ≤ ((rd_T47 l2_0 x8_1).f1)
                · rw [if_pos c26] at H
                  have c26b0 : decide (0 ≤ ((rd_T47 l2_0 x8_1).f1)) = true := decide_eq_true c26
                  clear c26
                  by_cases c27 : ((rd_T47 l2_0 x8_1).f1) < (l1.length : Int)
                  · rw [if_pos c27] at H
                    have c27b0 : decide (((rd_T47 l2_0 x8_1).f1) < (l1.length : Int)) = true := decide_eq_true c27
                    clear c27
                    replace H := Option.bind_eq_some_iff.mp H
                    obtain ⟨t186, A280, H⟩ := H
                    replace H : (if t186.toList = ([] : List UInt8) then (monikerref4_Names.l0 kj6 a0 l1 x7_1 (wrap64 (x8_1 + 1)) l2_0) else (if t186.toList = ([95] : List UInt8) then (monikerref4_Names.l0 kj6 a0 l1 x7_1 (wrap64 (x8_1 + 1)) l2_0) else (if x7_1.length < 17592186044416 then (monikerref4_Names.l0 kj6 a0 l1 (x7_1 ++ [((rd_T47 l2_0 x8_1).f1)]) (wrap64 (x8_1 + 1)) l2_0) else (none)))) = some r := H
                    have A28 := Aside0.mk A280
                    clear A280
                    by_cases c29 : t186.toList = ([] : List UInt8)
                    · rw [if_pos c29] at H
                      have c29b0 : (t186.toList == ([] : List UInt8)) = true := beq_iff_eq.mpr c29
                      have c29b1 : (t186.toList != ([] : List UInt8)) = false := bne_eq_false_iff_eq.mpr c29
                      clear c29
                      have H' := Aside0.mk H
                      clear H
                      have hnb30 := NB183_181.out
                      have hnc30 := NB181_183.out
                      have hcz31_0 : wc.cell? ⟨gb183, 0, none⟩ = some (.int .u8 ((rd_T47 l2_0 x8_1).f0)) := (blk_cell BK183.out 0).trans rfl
                      have hcz31_1 : wc.cell? ⟨gb183, 1, none⟩ = some (.int .i64 ((rd_T47 l2_0 x8_1).f1)) := (blk_cell BK183.out 1).trans rfl
                      have hcz31_2 : wc.cell? ⟨gb183, 2, none⟩ = some (.int .i64 ((rd_T47 l2_0 x8_1).f2)) := (blk_cell BK183.out 2).trans rfl
                      have hcz31_3 : wc.cell? ⟨gb183, 3, none⟩ = some (.int .i64 ((rd_T47 l2_0 x8_1).f3)) := (blk_cell BK183.out 3).trans rfl
                      have hfz31_0 := blk_frozen BK183.out 0
                      have hfz31_1 := blk_frozen BK183.out 1
                      have hfz31_2 := blk_frozen BK183.out 2
                      have hfz31_3 := blk_frozen BK183.out 3
                      have p185 : 0 ≤ (((rd_T47 l2_0 x8_1).f1) : Int) := of_decide_eq_true (by first | (with_reducible assumption) | assumption)
                      have q185 : ((rd_T47 l2_0 x8_1).f1) < (l1.length : Int) := of_decide_eq_true (by first | (with_reducible assumption) | assumption)
                      obtain ⟨ad185, e185, hx185_0, hx185_1, hx185_2⟩ := at_T61 HR1.out ((rd_T47 l2_0 x8_1).f1) p185 q185
                      cases e185
                      replace hx185_0 := (HB.out.cell (World.block_lt_of_cell? w _ hx185_0)).trans hx185_0
                      replace hx185_1 := (HB.out.cell (World.block_lt_of_cell? w _ hx185_1)).trans hx185_1
                      replace hx185_2 := (HB.out.cell (World.block_lt_of_cell? w _ hx185_2)).trans hx185_2
                      replace p185 := eq_true p185
                      replace q185 := eq_true q185
                      go_wp2_with (first | ((with_reducible refine gate_callee (f := 49) rfl ?_); refine goesL_ (some 53) rfl rfl Try.func49 (by kernel_rfl) rfl #[.string a0, .agg #[.int .u8 ((rd_T61 l1 ((rd_T47 l2_0 x8_1).f1)).f0), .int .i64 ((rd_T61 l1 ((rd_T47 l2_0 x8_1).f1)).f1), .int .i64 ((rd_T61 l1 ((rd_T47 l2_0 x8_1).f1)).f2)]] rfl (by (try simp only [List.map_toArray, List.map_cons, List.map_nil]); first | done | rfl | (simp only [List.length_drop, List.length_take]; rfl)) ?_; (with_reducible refine (monikerref4_Word.calls a0 ((rd_T61 l1 ((rd_T47 l2_0 x8_1).f1)).f0) ((rd_T61 l1 ((rd_T47 l2_0 x8_1).f1)).f1) ((rd_T61 l1 ((rd_T47 l2_0 x8_1).f1)).f2) t186 _ A28.out).mono ?_); rintro e w32 ⟨rfl, hb⟩; refine ⟨_, rfl, ?_⟩; have n0_ := Aside0.mk (Kd.R_below (by (with_reducible repeat (first | apply Kd.R_alloc | apply Kd.R_drewN | apply Kd.R_drew)); exact HO_7.out) hb); have n1_ := Aside0.mk (blk_below (g := gb181) (o := .cells #[.slice (some ad182) l2_0.length c2_0] 25 (0, 0)) (by (with_reducible repeat (first | refine blk_drewN ?_ _ | refine blk_drew ?_ | refine blk_alloc ?_ _)); exact BK181.out) hb); have n2_ := Aside0.mk (blk_below (g := gb183) (o := .cells #[.int .u8 ((rd_T47 l2_0 x8_1).f0), .int .i64 ((rd_T47 l2_0 x8_1).f1), .int .i64 ((rd_T47 l2_0 x8_1).f2), .int .i64 ((rd_T47 l2_0 x8_1).f3)] 47 (0, 0)) (by (with_reducible repeat (first | refine blk_drewN ?_ _ | refine blk_drew ?_ | refine blk_alloc ?_ _)); exact BK183.out) hb); have n3_ := Aside0.mk (below_step (by repeat (first | (with_reducible first | exact HB.out | apply below_alloc | apply pw_below_drewN | apply below_drew1 | refine below_set ?_ GE181.out | refine below_set ?_ GE183.out) | exact HB.out)) hb); clear HO_7; clear BK181; clear BK183; clear HB; have HO_7 := n0_; have BK181 := n1_; have BK183 := n2_; have HB := n3_; clear n0_ n1_ n2_ n3_; (try clear hb); (try clear hb2); (try clear hk); (try clear hi)))
                      go_roundg kj6
                      case measure => have := HK1.out; have := HJ6.out; omega
                      case rel => exact ⟨(x7_1), (wrap64 (x8_1 + 1)), (by first | rfl | (simp; done) | (simp [*]; done)), H', ⟨by have := HK1.out; have := HJ6.out; omega⟩, ⟨by (with_reducible repeat (first | apply Kd.R_alloc | apply Kd.R_drewN | apply Kd.R_drew)); exact HO_7.out⟩, ⟨by (with_reducible repeat (first | refine blk_drewN ?_ _ | refine blk_drew ?_ | refine blk_alloc ?_ _)); exact BK181.out⟩, ⟨by repeat (first | (with_reducible first | exact HB.out | apply below_alloc | apply pw_below_drewN | apply below_drew1 | refine below_set ?_ GE181.out | refine below_set ?_ GE183.out) | exact HB.out)⟩⟩
                    · rw [if_neg c29] at H
                      have c29b0 : (t186.toList == ([] : List UInt8)) = false := beq_eq_false_iff_ne.mpr c29
                      have c29b1 : (t186.toList != ([] : List UInt8)) = true := bne_iff_ne.mpr c29
                      by_cases c33 : t186.toList = ([95] : List UInt8)
                      · rw [if_pos c33] at H
                        have c33b0 : (t186.toList == ([95] : List UInt8)) = true := beq_iff_eq.mpr c33
                        have c33b1 : (t186.toList != ([95] : List UInt8)) = false := bne_eq_false_iff_eq.mpr c33
                        clear c33
                        have H' := Aside0.mk H
                        clear H
                        have hnb34 := NB183_181.out
                        have hnc34 := NB181_183.out
                        have hcz35_0 : wc.cell? ⟨gb183, 0, none⟩ = some (.int .u8 ((rd_T47 l2_0 x8_1).f0)) := (blk_cell BK183.out 0).trans rfl
                        have hcz35_1 : wc.cell? ⟨gb183, 1, none⟩ = some (.int .i64 ((rd_T47 l2_0 x8_1).f1)) := (blk_cell BK183.out 1).trans rfl
                        have hcz35_2 : wc.cell? ⟨gb183, 2, none⟩ = some (.int .i64 ((rd_T47 l2_0 x8_1).f2)) := (blk_cell BK183.out 2).trans rfl
                        have hcz35_3 : wc.cell? ⟨gb183, 3, none⟩ = some (.int .i64 ((rd_T47 l2_0 x8_1).f3)) := (blk_cell BK183.out 3).trans rfl
                        have hfz35_0 := blk_frozen BK183.out 0
                        have hfz35_1 := blk_frozen BK183.out 1
                        have hfz35_2 := blk_frozen BK183.out 2
                        have hfz35_3 := blk_frozen BK183.out 3
                        have p185 : 0 ≤ (((rd_T47 l2_0 x8_1).f1) : Int) := of_decide_eq_true (by first | (with_reducible assumption) | assumption)
                        have q185 : ((rd_T47 l2_0 x8_1).f1) < (l1.length : Int) := of_decide_eq_true (by first | (with_reducible assumption) | assumption)
                        obtain ⟨ad185, e185, hx185_0, hx185_1, hx185_2⟩ := at_T61 HR1.out ((rd_T47 l2_0 x8_1).f1) p185 q185
                        cases e185
                        replace hx185_0 := (HB.out.cell (World.block_lt_of_cell? w _ hx185_0)).trans hx185_0
                        replace hx185_1 := (HB.out.cell (World.block_lt_of_cell? w _ hx185_1)).trans hx185_1
                        replace hx185_2 := (HB.out.cell (World.block_lt_of_cell? w _ hx185_2)).trans hx185_2
                        replace p185 := eq_true p185
                        replace q185 := eq_true q185
                        go_wp2_with (first | ((with_reducible refine gate_callee (f := 49) rfl ?_); refine goesL_ (some 53) rfl rfl Try.func49 (by kernel_rfl) rfl #[.string a0, .agg #[.int .u8 ((rd_T61 l1 ((rd_T47 l2_0 x8_1).f1)).f0), .int .i64 ((rd_T61 l1 ((rd_T47 l2_0 x8_1).f1)).f1), .int .i64 ((rd_T61 l1 ((rd_T47 l2_0 x8_1).f1)).f2)]] rfl (by (try simp only [List.map_toArray, List.map_cons, List.map_nil]); first | done | rfl | (simp only [List.length_drop, List.length_take]; rfl)) ?_; (with_reducible refine (monikerref4_Word.calls a0 ((rd_T61 l1 ((rd_T47 l2_0 x8_1).f1)).f0) ((rd_T61 l1 ((rd_T47 l2_0 x8_1).f1)).f1) ((rd_T61 l1 ((rd_T47 l2_0 x8_1).f1)).f2) t186 _ A28.out).mono ?_); rintro e w36 ⟨rfl, hb⟩; refine ⟨_, rfl, ?_⟩; have n0_ := Aside0.mk (Kd.R_below (by (with_reducible repeat (first | apply Kd.R_alloc | apply Kd.R_drewN | apply Kd.R_drew)); exact HO_7.out) hb); have n1_ := Aside0.mk (blk_below (g := gb181) (o := .cells #[.slice (some ad182) l2_0.length c2_0] 25 (0, 0)) (by (with_reducible repeat (first | refine blk_drewN ?_ _ | refine blk_drew ?_ | refine blk_alloc ?_ _)); exact BK181.out) hb); have n2_ := Aside0.mk (blk_below (g := gb183) (o := .cells #[.int .u8 ((rd_T47 l2_0 x8_1).f0), .int .i64 ((rd_T47 l2_0 x8_1).f1), .int .i64 ((rd_T47 l2_0 x8_1).f2), .int .i64 ((rd_T47 l2_0 x8_1).f3)] 47 (0, 0)) (by (with_reducible repeat (first | refine blk_drewN ?_ _ | refine blk_drew ?_ | refine blk_alloc ?_ _)); exact BK183.out) hb); have n3_ := Aside0.mk (below_step (by repeat (first | (with_reducible first | exact HB.out | apply below_alloc | apply pw_below_drewN | apply below_drew1 | refine below_set ?_ GE181.out | refine below_set ?_ GE183.out) | exact HB.out)) hb); clear HO_7; clear BK181; clear BK183; clear HB; have HO_7 := n0_; have BK181 := n1_; have BK183 := n2_; have HB := n3_; clear n0_ n1_ n2_ n3_; (try clear hb); (try clear hb2); (try clear hk); (try clear hi)))
                        go_roundg kj6
                        case measure => have := HK1.out; have := HJ6.out; omega
                        case rel => exact ⟨(x7_1), (wrap64 (x8_1 + 1)), (by first | rfl | (simp; done) | (simp [*]; done)), H', ⟨by have := HK1.out; have := HJ6.out; omega⟩, ⟨by (with_reducible repeat (first | apply Kd.R_alloc | apply Kd.R_drewN | apply Kd.R_drew)); exact HO_7.out⟩, ⟨by (with_reducible repeat (first | refine blk_drewN ?_ _ | refine blk_drew ?_ | refine blk_alloc ?_ _)); exact BK181.out⟩, ⟨by repeat (first | (with_reducible first | exact HB.out | apply below_alloc | apply pw_below_drewN | apply below_drew1 | refine below_set ?_ GE181.out | refine below_set ?_ GE183.out) | exact HB.out)⟩⟩
                      · rw [if_neg c33] at H
                        have c33b0 : (t186.toList == ([95] : List UInt8)) = false := beq_eq_false_iff_ne.mpr c33
                        have c33b1 : (t186.toList != ([95] : List UInt8)) = true := bne_iff_ne.mpr c33
                        by_cases c37 : x7_1.length < 17592186044416
                        · rw [if_pos c37] at H
                          have LMc37 := Aside0.mk c37
                          clear c37
                          obtain ⟨y187, hy187⟩ : ∃ y_ : List Int, y_ = (x7_1 ++ [((rd_T47 l2_0 x8_1).f1)]) := ⟨_, rfl⟩
                          replace H : (monikerref4_Names.l0 kj6 a0 l1 y187 (wrap64 (x8_1 + 1)) l2_0) = some r := by first | (rw [hy187]; with_reducible exact H) | (have H2_ := (Option.bind_some _ _).symm.trans H; rw [hy187]; with_reducible exact H2_) | (have H2_ := (Option.bind_some _ _).symm.trans H; with_reducible exact H2_) | with_reducible exact H | (rw [hy187]; exact H) | exact H
                          have Ny187 := Aside0.mk hy187
                          clear hy187
                          have H' := Aside0.mk H
                          clear H
                          have hnb38 := NB183_181.out
                          have hnc38 := NB181_183.out
                          have hcz39_0 : wc.cell? ⟨gb183, 0, none⟩ = some (.int .u8 ((rd_T47 l2_0 x8_1).f0)) := (blk_cell BK183.out 0).trans rfl
                          have hcz39_1 : wc.cell? ⟨gb183, 1, none⟩ = some (.int .i64 ((rd_T47 l2_0 x8_1).f1)) := (blk_cell BK183.out 1).trans rfl
                          have hcz39_2 : wc.cell? ⟨gb183, 2, none⟩ = some (.int .i64 ((rd_T47 l2_0 x8_1).f2)) := (blk_cell BK183.out 2).trans rfl
                          have hcz39_3 : wc.cell? ⟨gb183, 3, none⟩ = some (.int .i64 ((rd_T47 l2_0 x8_1).f3)) := (blk_cell BK183.out 3).trans rfl
                          have hfz39_0 := blk_frozen BK183.out 0
                          have hfz39_1 := blk_frozen BK183.out 1
                          have hfz39_2 := blk_frozen BK183.out 2
                          have hfz39_3 := blk_frozen BK183.out 3
                          have p185 : 0 ≤ (((rd_T47 l2_0 x8_1).f1) : Int) := of_decide_eq_true (by first | (with_reducible assumption) | assumption)
                          have q185 : ((rd_T47 l2_0 x8_1).f1) < (l1.length : Int) := of_decide_eq_true (by first | (with_reducible assumption) | assumption)
                          obtain ⟨ad185, e185, hx185_0, hx185_1, hx185_2⟩ := at_T61 HR1.out ((rd_T47 l2_0 x8_1).f1) p185 q185
                          cases e185
                          replace hx185_0 := (HB.out.cell (World.block_lt_of_cell? w _ hx185_0)).trans hx185_0
                          replace hx185_1 := (HB.out.cell (World.block_lt_of_cell? w _ hx185_1)).trans hx185_1
                          replace hx185_2 := (HB.out.cell (World.block_lt_of_cell? w _ hx185_2)).trans hx185_2
                          replace p185 := eq_true p185
                          replace q185 := eq_true q185
                          go_wp2_with (first | ((with_reducible refine gate_callee (f := 49) rfl ?_); refine goesL_ (some 53) rfl rfl Try.func49 (by kernel_rfl) rfl #[.string a0, .agg #[.int .u8 ((rd_T61 l1 ((rd_T47 l2_0 x8_1).f1)).f0), .int .i64 ((rd_T61 l1 ((rd_T47 l2_0 x8_1).f1)).f1), .int .i64 ((rd_T61 l1 ((rd_T47 l2_0 x8_1).f1)).f2)]] rfl (by (try simp only [List.map_toArray, List.map_cons, List.map_nil]); first | done | rfl | (simp only [List.length_drop, List.length_take]; rfl)) ?_; (with_reducible refine (monikerref4_Word.calls a0 ((rd_T61 l1 ((rd_T47 l2_0 x8_1).f1)).f0) ((rd_T61 l1 ((rd_T47 l2_0 x8_1).f1)).f1) ((rd_T61 l1 ((rd_T47 l2_0 x8_1).f1)).f2) t186 _ A28.out).mono ?_); rintro e w40 ⟨rfl, hb⟩; refine ⟨_, rfl, ?_⟩; have n0_ := Aside0.mk (Kd.R_below (by (with_reducible repeat (first | apply Kd.R_alloc | apply Kd.R_drewN | apply Kd.R_drew)); exact HO_7.out) hb); have n1_ := Aside0.mk (blk_below (g := gb181) (o := .cells #[.slice (some ad182) l2_0.length c2_0] 25 (0, 0)) (by (with_reducible repeat (first | refine blk_drewN ?_ _ | refine blk_drew ?_ | refine blk_alloc ?_ _)); exact BK181.out) hb); have n2_ := Aside0.mk (blk_below (g := gb183) (o := .cells #[.int .u8 ((rd_T47 l2_0 x8_1).f0), .int .i64 ((rd_T47 l2_0 x8_1).f1), .int .i64 ((rd_T47 l2_0 x8_1).f2), .int .i64 ((rd_T47 l2_0 x8_1).f3)] 47 (0, 0)) (by (with_reducible repeat (first | refine blk_drewN ?_ _ | refine blk_drew ?_ | refine blk_alloc ?_ _)); exact BK183.out) hb); have n3_ := Aside0.mk (below_step (by repeat (first | (with_reducible first | exact HB.out | apply below_alloc | apply pw_below_drewN | apply below_drew1 | refine below_set ?_ GE181.out | refine below_set ?_ GE183.out) | exact HB.out)) hb); clear HO_7; clear BK181; clear BK183; clear HB; have HO_7 := n0_; have BK181 := n1_; have BK183 := n2_; have HB := n3_; clear n0_ n1_ n2_ n3_; (try clear hb); (try clear hb2); (try clear hk); (try clear hi); have hcz41_0 : w40.cell? ⟨gb183, 0, none⟩ = some (.int .u8 ((rd_T47 l2_0 x8_1).f0)) := (blk_cell BK183.out 0).trans rfl; have hcz41_1 : w40.cell? ⟨gb183, 1, none⟩ = some (.int .i64 ((rd_T47 l2_0 x8_1).f1)) := (blk_cell BK183.out 1).trans rfl; have hcz41_2 : w40.cell? ⟨gb183, 2, none⟩ = some (.int .i64 ((rd_T47 l2_0 x8_1).f2)) := (blk_cell BK183.out 2).trans rfl; have hcz41_3 : w40.cell? ⟨gb183, 3, none⟩ = some (.int .i64 ((rd_T47 l2_0 x8_1).f3)) := (blk_cell BK183.out 3).trans rfl; have hfz41_0 := blk_frozen BK183.out 0; have hfz41_1 := blk_frozen BK183.out 1; have hfz41_2 := blk_frozen BK183.out 2; have hfz41_3 := blk_frozen BK183.out 3) | ((with_reducible refine gate_builtin (b := .append) (xs := #[.tmp 60, .tmp 63]) rfl ?_); (try (refine gate_guard (by rfl) ?_; dsimp only)); at_builtin; refine Kd.R_append (Kd.int .i64) (w0 := w) w.heap.size rfl (.tmp 60) (.tmp 63) 33 3 (.int .i64 0) 8 rfl Try.underlying33 info3 rfl (by decide) (by omega) u7 x7_1 ((rd_T47 l2_0 x8_1).f1) [.int .i64 ((rd_T47 l2_0 x8_1).f1)] (fun _ => True) (fun _ => False) rfl rfl ?aP (fun _ hk => hk.elim) ?aF ?aO ?aB ?aS ?aL ?_; (case aP => exact rfl); (case aB => exact (by repeat (first | (with_reducible first | exact HB.out | apply below_alloc | apply pw_below_drewN | apply below_drew1 | refine below_set ?_ GE181.out | refine below_set ?_ GE183.out) | exact HB.out))); (case aF => exact (fun _ _ => trivial)); (case aO => exact (by (with_reducible repeat (first | apply Kd.R_alloc | apply Kd.R_drewN | apply Kd.R_drew)); exact HO_7.out)); (case aS => exact (below_size (by repeat (first | (with_reducible first | exact HB.out | apply below_alloc | apply pw_below_drewN | apply below_drew1 | refine below_set ?_ GE181.out | refine below_set ?_ GE183.out) | exact HB.out)))); (case aL => have := LMc37.out; omega); intro v188 w42 ho hb hg hat; rw [← Ny187.out] at ho; have n0_ := Aside0.mk (blk_grown (g := gb181) (o := .cells #[.slice (some ad182) l2_0.length c2_0] 25 (0, 0)) (by (with_reducible repeat (first | refine blk_drewN ?_ _ | refine blk_drew ?_ | refine blk_alloc ?_ _)); exact BK181.out) hg (Kd.R_ne HO_7.out BK181.out (by decide))); have n1_ := Aside0.mk (blk_grown (g := gb183) (o := .cells #[.int .u8 ((rd_T47 l2_0 x8_1).f0), .int .i64 ((rd_T47 l2_0 x8_1).f1), .int .i64 ((rd_T47 l2_0 x8_1).f2), .int .i64 ((rd_T47 l2_0 x8_1).f3)] 47 (0, 0)) (by (with_reducible repeat (first | refine blk_drewN ?_ _ | refine blk_drew ?_ | refine blk_alloc ?_ _)); exact BK183.out) hg (Kd.R_ne HO_7.out BK183.out (by decide))); have n2_ := Aside0.mk (hb); have n3_ := Aside0.mk (ho); clear BK181; clear BK183; clear HB; clear HO_7; have BK181 := n0_; have BK183 := n1_; have HB := n2_; have HO189 := n3_; clear n0_ n1_ n2_ n3_; clear ho hb hg hat))
                          go_roundg kj6
                          case measure => have := HK1.out; have := HJ6.out; omega
                          case rel => exact ⟨(y187), (wrap64 (x8_1 + 1)), (by first | rfl | (simp; done) | (simp [*]; done)), H', ⟨by have := HK1.out; have := HJ6.out; omega⟩, ⟨by (with_reducible repeat (first | apply Kd.R_alloc | apply Kd.R_drewN | apply Kd.R_drew)); exact HO189.out⟩, ⟨by (with_reducible repeat (first | refine blk_drewN ?_ _ | refine blk_drew ?_ | refine blk_alloc ?_ _)); exact BK181.out⟩, ⟨by repeat (first | (with_reducible first | exact HB.out | apply below_alloc | apply pw_below_drewN | apply below_drew1 | refine below_set ?_ GE181.out | refine below_set ?_ GE183.out) | exact HB.out)⟩⟩
                        · rw [if_neg c37] at H
                          exact absurd H (by simp)
                  · rw [if_neg c27] at H
                    exact absurd H (by simp)
                · rw [if_neg c26] at H
                  exact absurd H (by simp)
        · rw [if_neg c6] at H
          exact absurd H (by simp)
      · rw [if_neg c5] at H
        have c5b0 : decide (x8_1 < (l2_0.length : Int)) = false := decide_eq_false c5
        clear c5
        obtain rfl := Option.some.inj H
        have hcz43_0 : wr.cell? ⟨gb181, 0, none⟩ = some (.slice A2_0 l2_0.length c2_0) := (blk_cell BK181.out 0).trans rfl
        have hfz43_0 := blk_frozen BK181.out 0
        go_wp2
        go_ret
        exact ⟨_, by first | rfl | (simp [errW_none, errW_some] <;> rfl) | (simp [*, errW_none, errW_some] <;> rfl), by (with_reducible repeat (first | apply Kd.R_alloc | apply Kd.R_drewN | apply Kd.R_drew)); exact HO_7.out, by repeat (first | (with_reducible first | exact HB.out | apply below_alloc | apply pw_below_drewN | apply below_drew1 | refine below_set ?_ GE181.out) | exact HB.out)⟩

end Go.Proofs.Ytodldpdnhcafpaa.F
