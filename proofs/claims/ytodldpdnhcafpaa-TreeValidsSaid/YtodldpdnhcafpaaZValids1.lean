/- Texts of the proof of one law (Valids), part 1: functions printed as Lean functions with their walks, and what is proved of them. Conditions: those of each theorem. -/
import Derived.Test.YtodldpdnhcafpaaZValids0
import Derived.StillTailTactics
import Derived.BigRegion
-- A text of this session's own program (wip/myprint.sh over a changed print tool): functions and their walks
namespace Go.Proofs.Ytodldpdnhcafpaa.F
open Go.RowKit Go.Proofs.YtodldpdnhcafpaaW.PrintWords Go.Proofs.YtodldpdnhcafpaaW.PrintLast Go.Proofs.YtodldpdnhcafpaaW.PrintMore
attribute [local go_sem] max2_int min2_int max_two min_two max_three min_three max_four min_four   -- for this text's walks alone
set_option linter.unusedVariables false
set_option linter.unusedSimpArgs false

/-! ### monikerref4_Valid: function 42 -/
mutual
def monikerref4_Valid.l0 : Nat → Int → Int → List (S47) → Option (Bool)
  | 0, _, _, _ => none
  | k + 1, x1, x5, x298000 => if x5 < (x298000.length : Int) then (if 0 ≤ x5 then (if ((rd_T47 x298000 x5).f1) < 0 then (monikerref4_Valid.j1 k x1 x5 true x298000 ((rd_T47 x298000 x5).f0) ((rd_T47 x298000 x5).f1) ((rd_T47 x298000 x5).f2) ((rd_T47 x298000 x5).f3)) else (if ((rd_T47 x298000 x5).f2) < ((rd_T47 x298000 x5).f1) then (monikerref4_Valid.j1 k x1 x5 true x298000 ((rd_T47 x298000 x5).f0) ((rd_T47 x298000 x5).f1) ((rd_T47 x298000 x5).f2) ((rd_T47 x298000 x5).f3)) else (monikerref4_Valid.j1 k x1 x5 (decide (((rd_T47 x298000 x5).f2) > x1)) x298000 ((rd_T47 x298000 x5).f0) ((rd_T47 x298000 x5).f1) ((rd_T47 x298000 x5).f2) ((rd_T47 x298000 x5).f3)))) else (none)) else (some true)
def monikerref4_Valid.j1 : Nat → Int → Int → Bool → List (S47) → Int → Int → Int → Int → Option (Bool)
  | 0, _, _, _, _, _, _, _, _ => none
  | k + 1, x1, x5, x42, x298000, x301000, x301001, x301002, x301003 => if x42 = true then (some false) else ((monikerref4_Kids.f k x298000 x5).bind fun bt301 => (monikerref4_Valid.l1 k x1 x5 bt301.1 x301001 0 x298000 x301000 x301001 x301002 x301003))
def monikerref4_Valid.l1 : Nat → Int → Int → List Int → Int → Int → List (S47) → Int → Int → Int → Int → Option (Bool)
  | 0, _, _, _, _, _, _, _, _, _, _ => none
  | k + 1, x1, x5, x7, x9, x10, x298000, x301000, x301001, x301002, x301003 => if x10 < (x7.length : Int) then (if 0 ≤ x10 then (if 0 ≤ (rd x7 x10) then (if (rd x7 x10) < (x298000.length : Int) then (if ((rd_T47 x298000 (rd x7 x10)).f1) = ((rd_T47 x298000 (rd x7 x10)).f2) then (if ((rd_T47 x298000 (rd x7 x10)).f1) < x301001 then (some false) else (monikerref4_Valid.l1 k x1 x5 x7 x9 (wrap64 (x10 + 1)) x298000 x301000 x301001 x301002 x301003)) else (if ((rd_T47 x298000 (rd x7 x10)).f1) < x9 then (some false) else (if ((rd_T47 x298000 (rd x7 x10)).f2) > x301002 then (some false) else (monikerref4_Valid.l1 k x1 x5 x7 ((rd_T47 x298000 (rd x7 x10)).f2) (wrap64 (x10 + 1)) x298000 x301000 x301001 x301002 x301003)))) else (none)) else (none)) else (none)) else (monikerref4_Valid.l0 k x1 (wrap64 (x5 + 1)) x298000)
end
def monikerref4_Valid.f (k : Nat) (l0_0 : List (S47)) (a1 : Int) : Option (Bool) := (monikerref4_Shaped.f k l0_0).bind fun t298 => (if t298 = true then (monikerref4_Valid.l0 k a1 0 l0_0) else (some false))
def monikerref4_Valid.T14 : Bool × List (List Nat × List Nat) := (true, [([], []), ([0], [0]), ([], []), ([], []), ([2, 3], [2, 3]), ([4], [4]), ([1, 5], [1, 5]), ([6], [6]), ([], []), ([8, 7, 0, 1, 2, 3, 4, 5, 6, 7, 8], [7, 8])])
def monikerref4_Valid.B14 : List Nat := [0, 1, 0, 0, 12, 28, 63, 127, 0, 511]
theorem monikerref4_Valid.tab14 : rtab .any (opsOf Try.f42 14) = monikerref4_Valid.T14 := by kernel_rfl
theorem monikerref4_Valid.bits14 : waitsOk monikerref4_Valid.T14.2 monikerref4_Valid.B14 = true := by kernel_rfl
set_option maxHeartbeats 8000000 in
set_option maxRecDepth 100000 in
theorem monikerref4_Valid.calls (k : Nat) (A0_0 : Option Addr) (c0_0 : Nat) (l0_0 : List (S47)) (a1 : Int) (r : Bool) (w : World) (hr0_0 : Kd.C k47 w A0_0 l0_0.length l0_0) (hc0_0 : l0_0.length ≤ c0_0) (h : monikerref4_Valid.f k l0_0 a1 = some r) :
    Calls Try.prog 42 #[.agg #[.slice A0_0 l0_0.length c0_0], .int .i64 a1] w fun e w' => e = .returned (.bool r) ∧ Below w.heap.size w w' := by
  have hu25 := Try.underlying25
  have hu47 := Try.underlying47
  have HR0_0 := Aside0.mk hr0_0
  have HC0_0 := Aside0.mk hc0_0
  clear hr0_0 hc0_0
  have HB := Aside0.mk (Below.refl w.heap.size w)
  have H : ((monikerref4_Shaped.f k l0_0).bind fun t298 => (if t298 = true then (monikerref4_Valid.l0 k a1 0 l0_0) else (some false))) = some r := h
  clear h
  replace H := Option.bind_eq_some_iff.mp H
  obtain ⟨t298, A30, H⟩ := H
  replace H : (if t298 = true then (monikerref4_Valid.l0 k a1 0 l0_0) else (some false)) = some r := H
  have A3 := Aside0.mk A30
  clear A30
  by_cases c4 : t298 = true
  · subst c4
    have H1 : (monikerref4_Valid.l0 k a1 0 l0_0) = some r := by rw [if_pos rfl] at H; exact H
    clear H
    have H := H1
    clear H1
    have H' := Aside0.mk H
    clear H
    go_enter Try.func42, Try.ntmps42
    go_wp2_with (first | ((with_reducible refine gate_dst (N := 2) rfl ?_); refine box_event ?hg (N := 2) ?hd (cs := #[.slice A0_0 l0_0.length c0_0]) (t := 25) ?hr ?_; (case hd => rfl); (case hg => rfl); (case hr => first | (go_simp; done) | (go_simp; rfl)); intro gb297 hg w5 hbox hb; have n0_ := Aside0.mk (below_step (by repeat (first | (with_reducible first | exact HB.out | apply below_alloc | apply pw_below_drewN | apply below_drew1) | exact HB.out)) hb); have n1_ := Aside0.mk (hbox); have n2_ := Aside0.mk ((by rw [hg]; exact (below_size (by repeat (first | (with_reducible first | exact HB.out | apply below_alloc | apply pw_below_drewN | apply below_drew1) | exact HB.out))) : w.heap.size ≤ gb297)); have n3_ := Aside0.mk ((by rw [hg]; exact (below_size (by repeat (first | (with_reducible first | exact HB.out | apply below_alloc | apply pw_below_drewN | apply below_drew1) | exact HB.out))) : w.heap.size ≤ gb297)); clear HB; have HB := n0_; have BK297 := n1_; have GW297 := n2_; have GE297 := n3_; clear n0_ n1_ n2_ n3_; clear hb hbox hg; have hcz6_0 : w5.cell? ⟨gb297, 0, none⟩ = some (.slice A0_0 l0_0.length c0_0) := (blk_cell BK297.out 0).trans rfl; have hfz6_0 := blk_frozen BK297.out 0) | ((with_reducible refine gate_callee (f := 59) rfl ?_); refine goesL_ (some 13) rfl rfl Try.func59 (by kernel_rfl) rfl #[.agg #[.slice A0_0 l0_0.length c0_0]] rfl (by (try simp only [List.map_toArray, List.map_cons, List.map_nil]); first | done | rfl | (simp only [List.length_drop, List.length_take]; rfl)) ?_; (with_reducible refine (monikerref4_Shaped.calls k _ _ l0_0 true _ ?side1 ?side2 A3.out).mono ?_); (case side1 => repeat (first | exact (Kd.C_below HR0_0.out HB.out) | (with_reducible refine Kd.C_alloc ?_ _) | (with_reducible refine Kd.C_drewN ?_ _) | (with_reducible refine Kd.C_drew ?_))); (case side2 => exact HC0_0.out); rintro e w7 ⟨rfl, hb⟩; refine ⟨_, rfl, ?_⟩; have n0_ := Aside0.mk (blk_below (g := gb297) (o := .cells #[.slice A0_0 l0_0.length c0_0] 25 (0, 0)) (by (with_reducible repeat (first | refine blk_drewN ?_ _ | refine blk_drew ?_ | refine blk_alloc ?_ _)); exact BK297.out) hb); have n1_ := Aside0.mk (below_step (by repeat (first | (with_reducible first | exact HB.out | apply below_alloc | apply pw_below_drewN | apply below_drew1 | refine below_set ?_ GE297.out) | exact HB.out)) hb); clear BK297; clear HB; have BK297 := n0_; have HB := n1_; clear n0_ n1_; (try clear hb); (try clear hb2); (try clear hk); (try clear hi)))
    go_loopg [5] k (fun kq v5 w' => ∃ (x5_1 : Int), v5 = .int .i64 x5_1 ∧ Aside0 (monikerref4_Valid.l0 kq a1 x5_1 l0_0 = some r) ∧ Aside0 (kq ≤ k) ∧ Aside0 (w'.heap[gb297]? = some (.cells #[(.slice A0_0 l0_0.length c0_0)] 25 (0, 0))) ∧ Aside0 (Below w.heap.size w w'))
    case atStart => exact ⟨(0), (by first | rfl | (simp; done) | (simp [*]; done)), H', ⟨Nat.le_refl _⟩, ⟨by (with_reducible repeat (first | refine blk_drewN ?_ _ | refine blk_drew ?_ | refine blk_alloc ?_ _)); exact BK297.out⟩, ⟨by repeat (first | (with_reducible first | exact HB.out | apply below_alloc | apply pw_below_drewN | apply below_drew1 | refine below_set ?_ GE297.out) | exact HB.out)⟩⟩
    case round =>
      clear H'
      try clear p2
      try clear c4
      try clear c5
      try clear hcz6_0
      try clear hfz6_0
      obtain ⟨x5_1, rfl, HA, HK1, BK297, HB⟩ := hrel
      cases gk with
      | zero => exact absurd HA.out (by simp [monikerref4_Valid.l0])
      | succ k1 =>
        have H := HA.out
        clear HA
        simp only [monikerref4_Valid.l0] at H
        by_cases c8 : x5_1 < (l0_0.length : Int)
        · rw [if_pos c8] at H
          have c8b0 : decide (x5_1 < (l0_0.length : Int)) = true := decide_eq_true c8
          clear c8
          by_cases c9 : 0 ≤ x5_1
          · rw [if_pos c9] at H
            have c9b0 : decide (0 ≤ x5_1) = true := decide_eq_true c9
            clear c9
            have HC10 := Aside0.mk H
            clear H
            have hcz11_0 : wr.cell? ⟨gb297, 0, none⟩ = some (.slice A0_0 l0_0.length c0_0) := (blk_cell BK297.out 0).trans rfl
            have hfz11_0 := blk_frozen BK297.out 0
            have p299 : 0 ≤ (x5_1 : Int) := of_decide_eq_true (by first | (with_reducible assumption) | assumption)
            have q299 : x5_1 < (l0_0.length : Int) := of_decide_eq_true (by first | (with_reducible assumption) | assumption)
            obtain ⟨ad299, e299, hx299_0, hx299_1, hx299_2, hx299_3⟩ := at_T47 HR0_0.out x5_1 p299 q299
            cases e299
            replace hx299_0 := (HB.out.cell (World.block_lt_of_cell? w _ hx299_0)).trans hx299_0
            replace hx299_1 := (HB.out.cell (World.block_lt_of_cell? w _ hx299_1)).trans hx299_1
            replace hx299_2 := (HB.out.cell (World.block_lt_of_cell? w _ hx299_2)).trans hx299_2
            replace hx299_3 := (HB.out.cell (World.block_lt_of_cell? w _ hx299_3)).trans hx299_3
            replace p299 := eq_true p299
            replace q299 := eq_true q299
            go_upto_region 7 with (first | ((with_reducible refine gate_dst (N := 6) rfl ?_); refine box_event ?hg (N := 6) ?hd (cs := #[.int .u8 0, .int .i64 0, .int .i64 0, .int .i64 0]) (t := 47) ?hr ?_; (case hd => rfl); (case hg => rfl); (case hr => first | (go_simp; done) | (go_simp; rfl)); intro gb300 hg w12 hbox hb; have n0_ := Aside0.mk (blk_below (g := gb297) (o := .cells #[.slice (some ad299) l0_0.length c0_0] 25 (0, 0)) (by (with_reducible repeat (first | refine blk_drewN ?_ _ | refine blk_drew ?_ | refine blk_alloc ?_ _)); exact BK297.out) hb); have n1_ := Aside0.mk (below_step (by repeat (first | (with_reducible first | exact HB.out | apply below_alloc | apply pw_below_drewN | apply below_drew1 | refine below_set ?_ GE297.out) | exact HB.out)) hb); have n2_ := Aside0.mk (hbox); have n3_ := Aside0.mk ((by rw [hg]; exact (below_size (by repeat (first | (with_reducible first | exact HB.out | apply below_alloc | apply pw_below_drewN | apply below_drew1 | refine below_set ?_ GE297.out) | exact HB.out))) : w.heap.size ≤ gb300)); have n4_ := Aside0.mk ((by rw [hg]; exact (below_size (by repeat (first | (with_reducible first | exact HB.out | apply below_alloc | apply pw_below_drewN | apply below_drew1 | refine below_set ?_ GE297.out) | exact HB.out))) : w.heap.size ≤ gb300)); have n5_ := Aside0.mk ((by rw [hg]; exact Nat.ne_of_lt (blk_lt (g := gb297) (o := .cells #[.slice (some ad299) l0_0.length c0_0] 25 (0, 0)) (by (with_reducible repeat (first | refine blk_drewN ?_ _ | refine blk_drew ?_ | refine blk_alloc ?_ _)); exact BK297.out)) : gb297 ≠ gb300)); have n6_ := Aside0.mk ((by rw [hg]; exact Nat.ne_of_gt (blk_lt (g := gb297) (o := .cells #[.slice (some ad299) l0_0.length c0_0] 25 (0, 0)) (by (with_reducible repeat (first | refine blk_drewN ?_ _ | refine blk_drew ?_ | refine blk_alloc ?_ _)); exact BK297.out)) : gb300 ≠ gb297)); clear BK297; clear HB; have BK297 := n0_; have HB := n1_; have BK300 := n2_; have GW300 := n3_; have GE300 := n4_; have NB297_300 := n5_; have NB300_297 := n6_; clear n0_ n1_ n2_ n3_ n4_ n5_ n6_; clear hb hbox hg; have hnb13 := NB300_297.out; have hnc13 := NB297_300.out; have hcz14_0 : w12.cell? ⟨gb300, 0, none⟩ = some (.int .u8 0) := (blk_cell BK300.out 0).trans rfl; have hcz14_1 : w12.cell? ⟨gb300, 1, none⟩ = some (.int .i64 0) := (blk_cell BK300.out 1).trans rfl; have hcz14_2 : w12.cell? ⟨gb300, 2, none⟩ = some (.int .i64 0) := (blk_cell BK300.out 2).trans rfl; have hcz14_3 : w12.cell? ⟨gb300, 3, none⟩ = some (.int .i64 0) := (blk_cell BK300.out 3).trans rfl; have hfz14_0 := blk_frozen BK300.out 0; have hfz14_1 := blk_frozen BK300.out 1; have hfz14_2 := blk_frozen BK300.out 2; have hfz14_3 := blk_frozen BK300.out 3))
            (try simp only [Act.put, List.setIfInBounds_toArray, List.set_cons_zero, List.set_cons_succ])
            go_cut [42] (fun v42 wc => ∃ (kq : Nat) (x42_9 : Bool), v42 = .bool x42_9 ∧ Aside0 (monikerref4_Valid.j1 kq a1 x5_1 x42_9 l0_0 ((rd_T47 l0_0 x5_1).f0) ((rd_T47 l0_0 x5_1).f1) ((rd_T47 l0_0 x5_1).f2) ((rd_T47 l0_0 x5_1).f3) = some r) ∧ Aside0 (kq ≤ k1) ∧ Aside0 (wc.heap[gb297]? = some (.cells #[(.slice (some ad299) l0_0.length c0_0)] 25 (0, 0))) ∧ Aside0 (wc.heap[gb300]? = some (.cells #[.int .u8 ((rd_T47 l0_0 x5_1).f0), .int .i64 ((rd_T47 l0_0 x5_1).f1), .int .i64 ((rd_T47 l0_0 x5_1).f2), .int .i64 ((rd_T47 l0_0 x5_1).f3)] 47 (0, 0))) ∧ Aside0 (Below w.heap.size w wc))
            case first =>
              have H := HC10.out
              clear HC10
              by_cases c15 : ((rd_T47 l0_0 x5_1).f1) < 0
              · rw [if_pos c15] at H
                have c15b0 : decide (((rd_T47 l0_0 x5_1).f1) < 0) = true := decide_eq_true c15
                clear c15
                (first | rw [c15b0] | (simp only [i64_w, i32_w]; rw [c15b0]) | skip)
                have H' := Aside0.mk H
                clear H
                have hnb16 := NB300_297.out
                have hnc16 := NB297_300.out
                have hcz17_0 : w12.cell? ⟨gb300, 0, none⟩ = some (.int .u8 0) := (blk_cell BK300.out 0).trans rfl
                have hcz17_1 : w12.cell? ⟨gb300, 1, none⟩ = some (.int .i64 0) := (blk_cell BK300.out 1).trans rfl
                have hcz17_2 : w12.cell? ⟨gb300, 2, none⟩ = some (.int .i64 0) := (blk_cell BK300.out 2).trans rfl
                have hcz17_3 : w12.cell? ⟨gb300, 3, none⟩ = some (.int .i64 0) := (blk_cell BK300.out 3).trans rfl
                have hfz17_0 := blk_frozen BK300.out 0
                have hfz17_1 := blk_frozen BK300.out 1
                have hfz17_2 := blk_frozen BK300.out 2
                have hfz17_3 := blk_frozen BK300.out 3
                go_wp2
                go_meet
                case rel => exact ⟨_, (true), (by first | rfl | (simp; done) | (simp [*]; done)), H', ⟨by have := HK1.out; first | omega | exact Nat.le_refl _⟩, ⟨by (with_reducible repeat (first | refine blk_drewN ?_ _ | refine blk_drew ?_ | refine blk_alloc ?_ _)); refine blk_far ?_ NB297_300.out _; (with_reducible repeat (first | refine blk_drewN ?_ _ | refine blk_drew ?_ | refine blk_alloc ?_ _)); refine blk_far ?_ NB297_300.out _; (with_reducible repeat (first | refine blk_drewN ?_ _ | refine blk_drew ?_ | refine blk_alloc ?_ _)); refine blk_far ?_ NB297_300.out _; (with_reducible repeat (first | refine blk_drewN ?_ _ | refine blk_drew ?_ | refine blk_alloc ?_ _)); refine blk_far ?_ NB297_300.out _; (with_reducible repeat (first | refine blk_drewN ?_ _ | refine blk_drew ?_ | refine blk_alloc ?_ _)); exact BK297.out⟩, ⟨by (with_reducible repeat (first | refine blk_drewN ?_ _ | refine blk_drew ?_ | refine blk_alloc ?_ _)); refine blk_put (cs := #[.int .u8 ((rd_T47 l0_0 x5_1).f0), .int .i64 ((rd_T47 l0_0 x5_1).f1), .int .i64 ((rd_T47 l0_0 x5_1).f2), .int .i64 0]) ?_ 3 _ rfl; (with_reducible repeat (first | refine blk_drewN ?_ _ | refine blk_drew ?_ | refine blk_alloc ?_ _)); refine blk_put (cs := #[.int .u8 ((rd_T47 l0_0 x5_1).f0), .int .i64 ((rd_T47 l0_0 x5_1).f1), .int .i64 0, .int .i64 0]) ?_ 2 _ rfl; (with_reducible repeat (first | refine blk_drewN ?_ _ | refine blk_drew ?_ | refine blk_alloc ?_ _)); refine blk_put (cs := #[.int .u8 ((rd_T47 l0_0 x5_1).f0), .int .i64 0, .int .i64 0, .int .i64 0]) ?_ 1 _ rfl; (with_reducible repeat (first | refine blk_drewN ?_ _ | refine blk_drew ?_ | refine blk_alloc ?_ _)); refine blk_put (cs := #[.int .u8 0, .int .i64 0, .int .i64 0, .int .i64 0]) ?_ 0 _ rfl; (with_reducible repeat (first | refine blk_drewN ?_ _ | refine blk_drew ?_ | refine blk_alloc ?_ _)); exact BK300.out⟩, ⟨by repeat (first | (with_reducible first | exact HB.out | apply below_alloc | apply pw_below_drewN | apply below_drew1 | refine below_set ?_ GE297.out | refine below_set ?_ GE300.out) | exact HB.out)⟩⟩
              · rw [if_neg c15] at H
                have c15b0 : decide (((rd_T47 l0_0 x5_1).f1) < 0) = false := decide_eq_false c15
                clear c15
                (first | rw [c15b0] | (simp only [i64_w, i32_w]; rw [c15b0]) | skip)
                by_cases c18 : ((rd_T47 l0_0 x5_1).f2) < ((rd_T47 l0_0 x5_1).f1)
                · rw [if_pos c18] at H
                  have c18b0 : decide (((rd_T47 l0_0 x5_1).f2) < ((rd_T47 l0_0 x5_1).f1)) = true := decide_eq_true c18
                  clear c18
                  have H' := Aside0.mk H
                  clear H
                  have hnb19 := NB300_297.out
                  have hnc19 := NB297_300.out
                  have hcz20_0 : w12.cell? ⟨gb300, 0, none⟩ = some (.int .u8 0) := (blk_cell BK300.out 0).trans rfl
                  have hcz20_1 : w12.cell? ⟨gb300, 1, none⟩ = some (.int .i64 0) := (blk_cell BK300.out 1).trans rfl
                  have hcz20_2 : w12.cell? ⟨gb300, 2, none⟩ = some (.int .i64 0) := (blk_cell BK300.out 2).trans rfl
                  have hcz20_3 : w12.cell? ⟨gb300, 3, none⟩ = some (.int .i64 0) := (blk_cell BK300.out 3).trans rfl
                  have hfz20_0 := blk_frozen BK300.out 0
                  have hfz20_1 := blk_frozen BK300.out 1
                  have hfz20_2 := blk_frozen BK300.out 2
                  have hfz20_3 := blk_frozen BK300.out 3
                  go_wp2
                  go_meet
                  case rel => exact ⟨_, (true), (by first | rfl | (simp; done) | (simp [*]; done)), H', ⟨by have := HK1.out; first | omega | exact Nat.le_refl _⟩, ⟨by (with_reducible repeat (first | refine blk_drewN ?_ _ | refine blk_drew ?_ | refine blk_alloc ?_ _)); refine blk_far ?_ NB297_300.out _; (with_reducible repeat (first | refine blk_drewN ?_ _ | refine blk_drew ?_ | refine blk_alloc ?_ _)); refine blk_far ?_ NB297_300.out _; (with_reducible repeat (first | refine blk_drewN ?_ _ | refine blk_drew ?_ | refine blk_alloc ?_ _)); refine blk_far ?_ NB297_300.out _; (with_reducible repeat (first | refine blk_drewN ?_ _ | refine blk_drew ?_ | refine blk_alloc ?_ _)); refine blk_far ?_ NB297_300.out _; (with_reducible repeat (first | refine blk_drewN ?_ _ | refine blk_drew ?_ | refine blk_alloc ?_ _)); exact BK297.out⟩, ⟨by (with_reducible repeat (first | refine blk_drewN ?_ _ | refine blk_drew ?_ | refine blk_alloc ?_ _)); refine blk_put (cs := #[.int .u8 ((rd_T47 l0_0 x5_1).f0), .int .i64 ((rd_T47 l0_0 x5_1).f1), .int .i64 ((rd_T47 l0_0 x5_1).f2), .int .i64 0]) ?_ 3 _ rfl; (with_reducible repeat (first | refine blk_drewN ?_ _ | refine blk_drew ?_ | refine blk_alloc ?_ _)); refine blk_put (cs := #[.int .u8 ((rd_T47 l0_0 x5_1).f0), .int .i64 ((rd_T47 l0_0 x5_1).f1), .int .i64 0, .int .i64 0]) ?_ 2 _ rfl; (with_reducible repeat (first | refine blk_drewN ?_ _ | refine blk_drew ?_ | refine blk_alloc ?_ _)); refine blk_put (cs := #[.int .u8 ((rd_T47 l0_0 x5_1).f0), .int .i64 0, .int .i64 0, .int .i64 0]) ?_ 1 _ rfl; (with_reducible repeat (first | refine blk_drewN ?_ _ | refine blk_drew ?_ | refine blk_alloc ?_ _)); refine blk_put (cs := #[.int .u8 0, .int .i64 0, .int .i64 0, .int .i64 0]) ?_ 0 _ rfl; (with_reducible repeat (first | refine blk_drewN ?_ _ | refine blk_drew ?_ | refine blk_alloc ?_ _)); exact BK300.out⟩, ⟨by repeat (first | (with_reducible first | exact HB.out | apply below_alloc | apply pw_below_drewN | apply below_drew1 | refine below_set ?_ GE297.out | refine below_set ?_ GE300.out) | exact HB.out)⟩⟩
                · rw [if_neg c18] at H
                  have c18b0 : decide (((rd_T47 l0_0 x5_1).f2) < ((rd_T47 l0_0 x5_1).f1)) = false := decide_eq_false c18
                  clear c18
                  have H' := Aside0.mk H
                  clear H
                  have hnb21 := NB300_297.out
                  have hnc21 := NB297_300.out
                  have hcz22_0 : w12.cell? ⟨gb300, 0, none⟩ = some (.int .u8 0) := (blk_cell BK300.out 0).trans rfl
                  have hcz22_1 : w12.cell? ⟨gb300, 1, none⟩ = some (.int .i64 0) := (blk_cell BK300.out 1).trans rfl
                  have hcz22_2 : w12.cell? ⟨gb300, 2, none⟩ = some (.int .i64 0) := (blk_cell BK300.out 2).trans rfl
                  have hcz22_3 : w12.cell? ⟨gb300, 3, none⟩ = some (.int .i64 0) := (blk_cell BK300.out 3).trans rfl
                  have hfz22_0 := blk_frozen BK300.out 0
                  have hfz22_1 := blk_frozen BK300.out 1
                  have hfz22_2 := blk_frozen BK300.out 2
                  have hfz22_3 := blk_frozen BK300.out 3
                  go_wp2
                  go_meet
                  case rel => exact ⟨_, (decide (((rd_T47 l0_0 x5_1).f2) > a1)), (by first | rfl | (simp; done) | (simp [*]; done)), H', ⟨by have := HK1.out; first | omega | exact Nat.le_refl _⟩, ⟨by (with_reducible repeat (first | refine blk_drewN ?_ _ | refine blk_drew ?_ | refine blk_alloc ?_ _)); refine blk_far ?_ NB297_300.out _; (with_reducible repeat (first | refine blk_drewN ?_ _ | refine blk_drew ?_ | refine blk_alloc ?_ _)); refine blk_far ?_ NB297_300.out _; (with_reducible repeat (first | refine blk_drewN ?_ _ | refine blk_drew ?_ | refine blk_alloc ?_ _)); refine blk_far ?_ NB297_300.out _; (with_reducible repeat (first | refine blk_drewN ?_ _ | refine blk_drew ?_ | refine blk_alloc ?_ _)); refine blk_far ?_ NB297_300.out _; (with_reducible repeat (first | refine blk_drewN ?_ _ | refine blk_drew ?_ | refine blk_alloc ?_ _)); exact BK297.out⟩, ⟨by (with_reducible repeat (first | refine blk_drewN ?_ _ | refine blk_drew ?_ | refine blk_alloc ?_ _)); refine blk_put (cs := #[.int .u8 ((rd_T47 l0_0 x5_1).f0), .int .i64 ((rd_T47 l0_0 x5_1).f1), .int .i64 ((rd_T47 l0_0 x5_1).f2), .int .i64 0]) ?_ 3 _ rfl; (with_reducible repeat (first | refine blk_drewN ?_ _ | refine blk_drew ?_ | refine blk_alloc ?_ _)); refine blk_put (cs := #[.int .u8 ((rd_T47 l0_0 x5_1).f0), .int .i64 ((rd_T47 l0_0 x5_1).f1), .int .i64 0, .int .i64 0]) ?_ 2 _ rfl; (with_reducible repeat (first | refine blk_drewN ?_ _ | refine blk_drew ?_ | refine blk_alloc ?_ _)); refine blk_put (cs := #[.int .u8 ((rd_T47 l0_0 x5_1).f0), .int .i64 0, .int .i64 0, .int .i64 0]) ?_ 1 _ rfl; (with_reducible repeat (first | refine blk_drewN ?_ _ | refine blk_drew ?_ | refine blk_alloc ?_ _)); refine blk_put (cs := #[.int .u8 0, .int .i64 0, .int .i64 0, .int .i64 0]) ?_ 0 _ rfl; (with_reducible repeat (first | refine blk_drewN ?_ _ | refine blk_drew ?_ | refine blk_alloc ?_ _)); exact BK300.out⟩, ⟨by repeat (first | (with_reducible first | exact HB.out | apply below_alloc | apply pw_below_drewN | apply below_drew1 | refine below_set ?_ GE297.out | refine below_set ?_ GE300.out) | exact HB.out)⟩⟩
            case rest =>
              clear HC10
              try clear c1
              try clear c2
              try clear p2
              try clear q2
              try clear hx2
              try clear c4
              try clear c5
              try clear c8
              try clear c8b0
              try clear c9
              try clear c9b0
              try clear c13
              try clear c15
              try clear c15b0
              try clear c16
              try clear c18
              try clear c18b0
              try clear c19
              try clear c21
              try clear hcz11_0
              try clear hcz14_0
              try clear hcz14_1
              try clear hcz14_2
              try clear hcz14_3
              try clear hcz17_0
              try clear hcz17_1
              try clear hcz17_2
              try clear hcz17_3
              try clear hcz20_0
              try clear hcz20_1
              try clear hcz20_2
              try clear hcz20_3
              try clear hcz22_0
              try clear hcz22_1
              try clear hcz22_2
              try clear hcz22_3
              try clear hcz6_0
              try clear hfz11_0
              try clear hfz14_0
              try clear hfz14_1
              try clear hfz14_2
              try clear hfz14_3
              try clear hfz17_0
              try clear hfz17_1
              try clear hfz17_2
              try clear hfz17_3
              try clear hfz20_0
              try clear hfz20_1
              try clear hfz20_2
              try clear hfz20_3
              try clear hfz22_0
              try clear hfz22_1
              try clear hfz22_2
              try clear hfz22_3
              try clear hfz6_0
              try clear hx299_0
              try clear hx299_1
              try clear hx299_2
              try clear hx299_3
              try clear p2
              try clear p299
              try clear q299
              obtain ⟨kq, x42_9, rfl, HA, HJ9, BK297, BK300, HB⟩ := hcut
              cases kq with
              | zero => exact absurd HA.out (by simp [monikerref4_Valid.j1])
              | succ kj9 =>
                have H := HA.out
                clear HA
                simp only [monikerref4_Valid.j1] at H
                by_cases c23 : x42_9 = true
                · subst c23
                  have H1 : (some false) = some r := by rw [if_pos rfl] at H; exact H
                  clear H
                  have H := H1
                  clear H1
                  obtain rfl := Option.some.inj H
                  go_wp2
                  go_ret
                  exact ⟨by first | rfl | (simp [errW_none, errW_some] <;> rfl) | (simp [*, errW_none, errW_some] <;> rfl), by repeat (first | (with_reducible first | exact HB.out | apply below_alloc | apply pw_below_drewN | apply below_drew1 | refine below_set ?_ GE297.out | refine below_set ?_ GE300.out) | exact HB.out)⟩
                · replace c23 := Bool.eq_false_iff.mpr c23
                  subst c23
                  have H1 : ((monikerref4_Kids.f kj9 l0_0 x5_1).bind fun bt301 => (monikerref4_Valid.l1 kj9 a1 x5_1 bt301.1 ((rd_T47 l0_0 x5_1).f1) 0 l0_0 ((rd_T47 l0_0 x5_1).f0) ((rd_T47 l0_0 x5_1).f1) ((rd_T47 l0_0 x5_1).f2) ((rd_T47 l0_0 x5_1).f3))) = some r := by rw [if_neg (show ¬ (false = true) by decide)] at H; exact H
                  clear H
                  have H := H1
                  clear H1
                  replace H := Option.bind_eq_some_iff.mp H
                  obtain ⟨⟨t301, t304⟩, A240, H⟩ := H
                  replace H : (monikerref4_Valid.l1 kj9 a1 x5_1 t301 ((rd_T47 l0_0 x5_1).f1) 0 l0_0 ((rd_T47 l0_0 x5_1).f0) ((rd_T47 l0_0 x5_1).f1) ((rd_T47 l0_0 x5_1).f2) ((rd_T47 l0_0 x5_1).f3)) = some r := H
                  have A24 := Aside0.mk A240
                  clear A240
                  have H' := Aside0.mk H
                  clear H
                  have hnb25 := NB297_300.out
                  have hnc25 := NB300_297.out
                  have hcz26_0 : wc.cell? ⟨gb297, 0, none⟩ = some (.slice (some ad299) l0_0.length c0_0) := (blk_cell BK297.out 0).trans rfl
                  have hfz26_0 := blk_frozen BK297.out 0
                  go_wp2_with (first | ((with_reducible refine gate_callee (f := 36) rfl ?_); refine goesL_ (some 46) rfl rfl Try.func36 (by kernel_rfl) rfl #[.agg #[.slice (some ad299) l0_0.length c0_0], .int .i64 x5_1] rfl (by (try simp only [List.map_toArray, List.map_cons, List.map_nil]); first | done | rfl | (simp only [List.length_drop, List.length_take]; rfl)) ?_; (with_reducible refine (monikerref4_Kids.calls kj9 _ _ l0_0 x5_1 t301 t304 _ ?side1 ?side2 A24.out).mono ?_); (case side1 => repeat (first | exact (Kd.C_below HR0_0.out HB.out) | (with_reducible refine Kd.C_alloc ?_ _) | (with_reducible refine Kd.C_drewN ?_ _) | (with_reducible refine Kd.C_drew ?_))); (case side2 => exact HC0_0.out); rintro e w27 ⟨v302, rfl, ho0, hb⟩; refine ⟨_, rfl, ?_⟩; have n0_ := Aside0.mk (Kd.R_lower ho0 (below_size (by repeat (first | (with_reducible first | exact HB.out | apply below_alloc | apply pw_below_drewN | apply below_drew1 | refine below_set ?_ GE297.out | refine below_set ?_ GE300.out) | exact HB.out)))); have n1_ := Aside0.mk (blk_below (g := gb297) (o := .cells #[.slice (some ad299) l0_0.length c0_0] 25 (0, 0)) (by (with_reducible repeat (first | refine blk_drewN ?_ _ | refine blk_drew ?_ | refine blk_alloc ?_ _)); exact BK297.out) hb); have n2_ := Aside0.mk (blk_below (g := gb300) (o := .cells #[.int .u8 ((rd_T47 l0_0 x5_1).f0), .int .i64 ((rd_T47 l0_0 x5_1).f1), .int .i64 ((rd_T47 l0_0 x5_1).f2), .int .i64 ((rd_T47 l0_0 x5_1).f3)] 47 (0, 0)) (by (with_reducible repeat (first | refine blk_drewN ?_ _ | refine blk_drew ?_ | refine blk_alloc ?_ _)); exact BK300.out) hb); have n3_ := Aside0.mk (below_step (by repeat (first | (with_reducible first | exact HB.out | apply below_alloc | apply pw_below_drewN | apply below_drew1 | refine below_set ?_ GE297.out | refine below_set ?_ GE300.out) | exact HB.out)) hb); clear BK297; clear BK300; clear HB; have HO303 := n0_; have BK297 := n1_; have BK300 := n2_; have HB := n3_; clear n0_ n1_ n2_ n3_; (try clear hb); (try clear hb2); (try clear hk); (try clear hi); (try clear ho0); have hcz28_0 : w27.cell? ⟨gb300, 0, none⟩ = some (.int .u8 ((rd_T47 l0_0 x5_1).f0)) := (blk_cell BK300.out 0).trans rfl; have hcz28_1 : w27.cell? ⟨gb300, 1, none⟩ = some (.int .i64 ((rd_T47 l0_0 x5_1).f1)) := (blk_cell BK300.out 1).trans rfl; have hcz28_2 : w27.cell? ⟨gb300, 2, none⟩ = some (.int .i64 ((rd_T47 l0_0 x5_1).f2)) := (blk_cell BK300.out 2).trans rfl; have hcz28_3 : w27.cell? ⟨gb300, 3, none⟩ = some (.int .i64 ((rd_T47 l0_0 x5_1).f3)) := (blk_cell BK300.out 3).trans rfl; have hfz28_0 := blk_frozen BK300.out 0; have hfz28_1 := blk_frozen BK300.out 1; have hfz28_2 := blk_frozen BK300.out 2; have hfz28_3 := blk_frozen BK300.out 3))
                  go_loopg [9, 10] kj9 (fun kq v9 v10 w' => ∃ (x9_3 : Int) (x10_3 : Int), v9 = .int .i64 x9_3 ∧ v10 = .int .i64 x10_3 ∧ Aside0 (monikerref4_Valid.l1 kq a1 x5_1 t301 x9_3 x10_3 l0_0 ((rd_T47 l0_0 x5_1).f0) ((rd_T47 l0_0 x5_1).f1) ((rd_T47 l0_0 x5_1).f2) ((rd_T47 l0_0 x5_1).f3) = some r) ∧ Aside0 (kq ≤ kj9) ∧ Aside0 (Kd.R (Kd.int .i64) 3 w' w.heap.size (fun _ => True) v302 t301) ∧ Aside0 (w'.heap[gb297]? = some (.cells #[(.slice (some ad299) l0_0.length c0_0)] 25 (0, 0))) ∧ Aside0 (w'.heap[gb300]? = some (.cells #[.int .u8 ((rd_T47 l0_0 x5_1).f0), .int .i64 ((rd_T47 l0_0 x5_1).f1), .int .i64 ((rd_T47 l0_0 x5_1).f2), .int .i64 ((rd_T47 l0_0 x5_1).f3)] 47 (0, 0))) ∧ Aside0 (Below w.heap.size w w'))
                  case atStart => exact ⟨(((rd_T47 l0_0 x5_1).f1)), (0), (by first | rfl | (simp; done) | (simp [*]; done)), (by first | rfl | (simp; done) | (simp [*]; done)), H', ⟨Nat.le_refl _⟩, ⟨by (with_reducible repeat (first | apply Kd.R_alloc | apply Kd.R_drewN | apply Kd.R_drew)); exact HO303.out⟩, ⟨by (with_reducible repeat (first | refine blk_drewN ?_ _ | refine blk_drew ?_ | refine blk_alloc ?_ _)); exact BK297.out⟩, ⟨by (with_reducible repeat (first | refine blk_drewN ?_ _ | refine blk_drew ?_ | refine blk_alloc ?_ _)); exact BK300.out⟩, ⟨by repeat (first | (with_reducible first | exact HB.out | apply below_alloc | apply pw_below_drewN | apply below_drew1 | refine below_set ?_ GE297.out | refine below_set ?_ GE300.out) | exact HB.out)⟩⟩
                  case round =>
                    clear H'
                    try clear c1
                    try clear c2
                    try clear p2
                    try clear q2
                    try clear hx2
                    try clear c3
                    try clear c4
                    try clear c5
                    try clear c8
                    try clear c8b0
                    try clear c9
                    try clear c9b0
                    try clear c13
                    try clear c15
                    try clear c15b0
                    try clear c16
                    try clear c18
                    try clear c18b0
                    try clear c19
                    try clear c21
                    try clear c23
                    try clear c25
                    try clear hcz11_0
                    try clear hcz14_0
                    try clear hcz14_1
                    try clear hcz14_2
                    try clear hcz14_3
                    try clear hcz17_0
                    try clear hcz17_1
                    try clear hcz17_2
                    try clear hcz17_3
                    try clear hcz20_0
                    try clear hcz20_1
                    try clear hcz20_2
                    try clear hcz20_3
                    try clear hcz22_0
                    try clear hcz22_1
                    try clear hcz22_2
                    try clear hcz22_3
                    try clear hcz26_0
                    try clear hcz28_0
                    try clear hcz28_1
                    try clear hcz28_2
                    try clear hcz28_3
                    try clear hcz6_0
                    try clear hfz11_0
                    try clear hfz14_0
                    try clear hfz14_1
                    try clear hfz14_2
                    try clear hfz14_3
                    try clear hfz17_0
                    try clear hfz17_1
                    try clear hfz17_2
                    try clear hfz17_3
                    try clear hfz20_0
                    try clear hfz20_1
                    try clear hfz20_2
                    try clear hfz20_3
                    try clear hfz22_0
                    try clear hfz22_1
                    try clear hfz22_2
                    try clear hfz22_3
                    try clear hfz26_0
                    try clear hfz28_0
                    try clear hfz28_1
                    try clear hfz28_2
                    try clear hfz28_3
                    try clear hfz6_0
                    try clear hx299_0
                    try clear hx299_1
                    try clear hx299_2
                    try clear hx299_3
                    try clear p2
                    try clear p299
                    try clear q2
                    try clear q299
                    obtain ⟨x9_3, x10_3, rfl, rfl, HA, HK3, HO_7, BK297, BK300, HB⟩ := hrel
                    cases gk with
                    | zero => exact absurd HA.out (by simp [monikerref4_Valid.l1])
                    | succ k3 =>
                      have H := HA.out
                      clear HA
                      simp only [monikerref4_Valid.l1] at H
                      by_cases c29 : x10_3 < (t301.length : Int)
                      · rw [if_pos c29] at H
                        have c29b0 : decide (x10_3 < (t301.length : Int)) = true := decide_eq_true c29
                        clear c29
                        by_cases c30 : 0 ≤ x10_3
                        · rw [if_pos c30] at H
                          have c30b0 : decide (0 ≤ x10_3) = true := decide_eq_true c30
                          clear c30
                          by_cases c31 : 0 ≤ (rd t301 x10_3)
                          · rw [if_pos c31] at H
                            have c31b0 : decide (0 ≤ (rd t301 x10_3)) = true := decide_eq_true c31
                            clear c31
                            by_cases c32 : (rd t301 x10_3) < (l0_0.length : Int)
                            · rw [if_pos c32] at H
                              have c32b0 : decide ((rd t301 x10_3) < (l0_0.length : Int)) = true := decide_eq_true c32
                              clear c32
                              by_cases c33 : ((rd_T47 l0_0 (rd t301 x10_3)).f1) = ((rd_T47 l0_0 (rd t301 x10_3)).f2)
                              · rw [if_pos c33] at H
                                have c33b0 : (((rd_T47 l0_0 (rd t301 x10_3)).f1) == ((rd_T47 l0_0 (rd t301 x10_3)).f2)) = true := beq_iff_eq.mpr c33
                                have c33b1 : (((rd_T47 l0_0 (rd t301 x10_3)).f1) != ((rd_T47 l0_0 (rd t301 x10_3)).f2)) = false := bne_eq_false_iff_eq.mpr c33
                                clear c33
                                by_cases c34 : ((rd_T47 l0_0 (rd t301 x10_3)).f1) < ((rd_T47 l0_0 x5_1).f1)
                                · rw [if_pos c34] at H
                                  have c34b0 : decide (((rd_T47 l0_0 (rd t301 x10_3)).f1) < ((rd_T47 l0_0 x5_1).f1)) = true := decide_eq_true c34
                                  clear c34
                                  obtain rfl := Option.some.inj H
                                  obtain ⟨Ao35, co35, eo35⟩ := Kd.R_slice HO_7.out
                                  subst eo35
                                  try go_wp2
                                  have n0_ := Aside0.mk (Kd.R_drew HO_7.out)
                                  have n1_ := Aside0.mk (blk_drew BK297.out)
                                  have n2_ := Aside0.mk (blk_drew BK300.out)
                                  have n3_ := Aside0.mk (below_drew1 HB.out)
                                  clear HO_7
                                  clear BK297
                                  clear BK300
                                  clear HB
                                  have HO_7 := n0_
                                  have BK297 := n1_
                                  have BK300 := n2_
                                  have HB := n3_
                                  clear n0_ n1_ n2_ n3_
                                  have p305 : 0 ≤ (x10_3 : Int) := of_decide_eq_true (by first | (with_reducible assumption) | assumption)
                                  have q305 : x10_3 < (t301.length : Int) := of_decide_eq_true (by first | (with_reducible assumption) | assumption)
                                  obtain ⟨ad305, e305, hx305_0⟩ := Kd.at_int (Kd.R_reads' HO_7.out).2.2 x10_3 p305 q305
                                  cases e305
                                  replace p305 := eq_true p305
                                  replace q305 := eq_true q305
                                  have p306 : 0 ≤ ((rd t301 x10_3) : Int) := of_decide_eq_true (by first | (with_reducible assumption) | assumption)
                                  have q306 : (rd t301 x10_3) < (l0_0.length : Int) := of_decide_eq_true (by first | (with_reducible assumption) | assumption)
                                  obtain ⟨ad306, e306, hx306_0, hx306_1, hx306_2, hx306_3⟩ := at_T47 HR0_0.out (rd t301 x10_3) p306 q306
                                  have hw306_3 := hx306_3
                                  have hw306_2 := hx306_2
                                  have hw306_1 := hx306_1
                                  have hw306_0 := hx306_0
                                  obtain rfl : ad299 = ad306 := (by injection e306)
                                  replace hx306_0 := (HB.out.cell (World.block_lt_of_cell? w _ hx306_0)).trans hx306_0
                                  replace hx306_1 := (HB.out.cell (World.block_lt_of_cell? w _ hx306_1)).trans hx306_1
                                  replace hx306_2 := (HB.out.cell (World.block_lt_of_cell? w _ hx306_2)).trans hx306_2
                                  replace hx306_3 := (HB.out.cell (World.block_lt_of_cell? w _ hx306_3)).trans hx306_3
                                  replace p306 := eq_true p306
                                  replace q306 := eq_true q306
                                  refine start_ (n := 10) (S := fun w' => w'.cell? ⟨gb297, 0, none⟩ = some (.slice (some ad299) l0_0.length c0_0) ∧ w'.cell? (ad305.add (x10_3).toNat) = some (.int .i64 (rd t301 x10_3)) ∧ w'.cell? (ad299.add (((rd t301 x10_3)).toNat * 4)) = some (.int .u8 ((rd_T47 l0_0 (rd t301 x10_3)).f0)) ∧ w'.cell? ⟨(ad299.add (((rd t301 x10_3)).toNat * 4)).block, (ad299.add (((rd t301 x10_3)).toNat * 4)).off + 1, none⟩ = some (.int .i64 ((rd_T47 l0_0 (rd t301 x10_3)).f1)) ∧ w'.cell? ⟨(ad299.add (((rd t301 x10_3)).toNat * 4)).block, (ad299.add (((rd t301 x10_3)).toNat * 4)).off + 2, none⟩ = some (.int .i64 ((rd_T47 l0_0 (rd t301 x10_3)).f2)) ∧ w'.cell? ⟨(ad299.add (((rd t301 x10_3)).toNat * 4)).block, (ad299.add (((rd t301 x10_3)).toNat * 4)).off + 3, none⟩ = some (.int .i64 ((rd_T47 l0_0 (rd t301 x10_3)).f3))) (ds := []) #[false, false, false, false, false, false, false, false, false, false] (by kernel_rfl) rfl rfl ⟨(blk_cell BK297.out 0).trans rfl, hx305_0, ((HB.out.cell (World.block_lt_of_cell? w _ hw306_0)).trans hw306_0), ((HB.out.cell (World.block_lt_of_cell? w _ hw306_1)).trans hw306_1), ((HB.out.cell (World.block_lt_of_cell? w _ hw306_2)).trans hw306_2), ((HB.out.cell (World.block_lt_of_cell? w _ hw306_3)).trans hw306_3)⟩ (fun hHeld => ?_); refine with_tabW monikerref4_Valid.tab14 monikerref4_Valid.bits14 (fun HT_ HW_ => ?_)
                                  generalize wr.drew = w36 at HO_7 BK297 BK300 HB hx305_0 hx306_0 hx306_1 hx306_2 hx306_3 hHeld ⊢
                                  refine pure_ (i := 0) (N := some 57) (v := ?_) (a' := ?_) #[true, false, false, false, false, false, false, false, false, false] rfl rfl (any_of HT_.out (by kernel_rfl)) (fun _ _ _ h => h) (Or.inl ⟨by rfl, ?_⟩) ?_ ?_
                                  rotate_left
                                  · intro w'
                                    go_simp
                                    with_reducible rfl
                                  rotate_left
                                  · simp only [Act.put, List.setIfInBounds_toArray, List.set_cons_zero, List.set_cons_succ, i64_w, i32_w]
                                    rfl
                                  refine pure_ (i := 2) (N := some 59) (v := ?_) (a' := ?_) #[true, false, true, false, false, false, false, false, false, false] rfl rfl (any_of HT_.out (by kernel_rfl)) (fun _ _ _ h => h) (Or.inl ⟨by rfl, ?_⟩) ?_ ?_
                                  rotate_left
                                  · intro w'
                                    go_simp
                                    with_reducible rfl
                                  rotate_left
                                  · simp only [Act.put, List.setIfInBounds_toArray, List.set_cons_zero, List.set_cons_succ, i64_w, i32_w]
                                    rfl
                                  refine pure_ (i := 3) (N := some 60) (v := ?_) (a' := ?_) #[true, false, true, true, false, false, false, false, false, false] rfl rfl (any_of HT_.out (by kernel_rfl)) (fun _ _ _ h => h) (Or.inl ⟨by rfl, ?_⟩) ?_ ?_
                                  rotate_left
                                  · intro w'
                                    go_simp
                                    with_reducible rfl
                                  rotate_left
                                  · simp only [Act.put, List.setIfInBounds_toArray, List.set_cons_zero, List.set_cons_succ, i64_w, i32_w]
                                    rfl
                                  refine pure_ (i := 4) (N := some 61) (v := ?_) (a' := ?_) #[true, false, true, true, true, false, false, false, false, false] rfl rfl (any_of HT_.out (by kernel_rfl)) (fun _ _ _ h => h) (Or.inl ⟨by rfl, ?_⟩) ?_ ?_
                                  rotate_left
                                  · intro w'
                                    go_simp
                                    with_reducible rfl
                                  rotate_left
                                  · simp only [Act.put, List.setIfInBounds_toArray, List.set_cons_zero, List.set_cons_succ, i64_w, i32_w]
                                    rfl
                                  refine take_ (i := 1) (N := some 58) (v := ?_) (a' := ?_) #[true, true, true, true, true, false, false, false, false, false] rfl rfl (take_ofW HT_.out HW_.out (by kernel_rfl)) (fun _ _ _ h => h) (Or.inl ⟨by rfl, ?_⟩) hHeld ?_ ?_
                                  rotate_left
                                  · rintro w' ⟨s0, s1, s2, s3, s4, s5⟩
                                    go_simp
                                    with_reducible rfl
                                  rotate_left
                                  · simp only [Act.put, List.setIfInBounds_toArray, List.set_cons_zero, List.set_cons_succ, i64_w, i32_w]
                                    rfl
                                  refine take_ (i := 5) (N := some 62) (v := ?_) (a' := ?_) #[true, true, true, true, true, true, false, false, false, false] rfl rfl (take_ofW HT_.out HW_.out (by kernel_rfl)) (fun _ _ _ h => h) (Or.inl ⟨by rfl, ?_⟩) hHeld ?_ ?_
                                  rotate_left
                                  · rintro w' ⟨s0, s1, s2, s3, s4, s5⟩
                                    go_simp
                                    with_reducible rfl
                                  rotate_left
                                  · simp only [Act.put, List.setIfInBounds_toArray, List.set_cons_zero, List.set_cons_succ, i64_w, i32_w]
                                    rfl
                                  refine pure_ (i := 6) (N := some 63) (v := ?_) (a' := ?_) #[true, true, true, true, true, true, true, false, false, false] rfl rfl (any_of HT_.out (by kernel_rfl)) (fun _ _ _ h => h) (Or.inl ⟨by rfl, ?_⟩) ?_ ?_
                                  rotate_left
                                  · intro w'
                                    go_simp
                                    with_reducible rfl
                                  rotate_left
                                  · simp only [Act.put, List.setIfInBounds_toArray, List.set_cons_zero, List.set_cons_succ, i64_w, i32_w]
                                    rfl
                                  refine take_ (i := 7) (N := some 64) (v := ?_) (a' := ?_) #[true, true, true, true, true, true, true, true, false, false] rfl rfl (take_ofW HT_.out HW_.out (by kernel_rfl)) (fun _ _ _ h => h) (Or.inl ⟨by rfl, ?_⟩) hHeld ?_ ?_
                                  rotate_left
                                  · rintro w' ⟨s0, s1, s2, s3, s4, s5⟩
                                    go_simp
                                    with_reducible rfl
                                  rotate_left
                                  · simp only [Act.put, List.setIfInBounds_toArray, List.set_cons_zero, List.set_cons_succ, i64_w, i32_w]
                                    rfl
                                  refine one_ (i := 8) (N := some 11) #[true, true, true, true, true, true, true, true, true, false] rfl rfl (one_of HT_.out (by kernel_rfl)) (by decide) (fun K hK => ?_)
                                  refine box_step ?hg (N := 11) ?hd (cs := #[.int .u8 0, .int .i64 0, .int .i64 0, .int .i64 0]) (t := 47) ?hr ?_; (case hd => rfl); (case hg => rfl); (case hr => first | (go_simp; done) | (go_simp; rfl))
                                  intro gb307 hg w37 hbox hb
                                  have HS1_ := (hb.cell (World.block_lt_of_cell? _ _ (hHeld.2.1))).trans (hHeld.2.1)
                                  have n0_ := Aside0.mk (Kd.R_below (by (with_reducible repeat (first | apply Kd.R_alloc | apply Kd.R_drewN | apply Kd.R_drew)); exact HO_7.out) hb)
                                  have n1_ := Aside0.mk (blk_below (g := gb297) (o := .cells #[.slice (some ad299) l0_0.length c0_0] 25 (0, 0)) (by (with_reducible repeat (first | refine blk_drewN ?_ _ | refine blk_drew ?_ | refine blk_alloc ?_ _)); exact BK297.out) hb)
                                  have n2_ := Aside0.mk (blk_below (g := gb300) (o := .cells #[.int .u8 ((rd_T47 l0_0 x5_1).f0), .int .i64 ((rd_T47 l0_0 x5_1).f1), .int .i64 ((rd_T47 l0_0 x5_1).f2), .int .i64 ((rd_T47 l0_0 x5_1).f3)] 47 (0, 0)) (by (with_reducible repeat (first | refine blk_drewN ?_ _ | refine blk_drew ?_ | refine blk_alloc ?_ _)); exact BK300.out) hb)
                                  have n3_ := Aside0.mk (below_step (by repeat (first | (with_reducible first | exact HB.out | apply below_alloc | apply pw_below_drewN | apply below_drew1 | refine below_set ?_ GE297.out | refine below_set ?_ GE300.out) | exact HB.out)) hb)
                                  have n4_ := Aside0.mk (hbox)
                                  have n5_ := Aside0.mk ((by rw [hg]; exact (below_size (by repeat (first | (with_reducible first | exact HB.out | apply below_alloc | apply pw_below_drewN | apply below_drew1 | refine below_set ?_ GE297.out | refine below_set ?_ GE300.out) | exact HB.out))) : w.heap.size ≤ gb307))
                                  have n6_ := Aside0.mk ((by rw [hg]; exact (below_size (by repeat (first | (with_reducible first | exact HB.out | apply below_alloc | apply pw_below_drewN | apply below_drew1 | refine below_set ?_ GE297.out | refine below_set ?_ GE300.out) | exact HB.out))) : w.heap.size ≤ gb307))
                                  have n7_ := Aside0.mk ((by rw [hg]; exact Nat.ne_of_lt (blk_lt (g := gb297) (o := .cells #[.slice (some ad299) l0_0.length c0_0] 25 (0, 0)) (by (with_reducible repeat (first | refine blk_drewN ?_ _ | refine blk_drew ?_ | refine blk_alloc ?_ _)); exact BK297.out)) : gb297 ≠ gb307))
                                  have n8_ := Aside0.mk ((by rw [hg]; exact Nat.ne_of_gt (blk_lt (g := gb297) (o := .cells #[.slice (some ad299) l0_0.length c0_0] 25 (0, 0)) (by (with_reducible repeat (first | refine blk_drewN ?_ _ | refine blk_drew ?_ | refine blk_alloc ?_ _)); exact BK297.out)) : gb307 ≠ gb297))
                                  have n9_ := Aside0.mk ((by rw [hg]; exact Nat.ne_of_lt (blk_lt (g := gb300) (o := .cells #[.int .u8 ((rd_T47 l0_0 x5_1).f0), .int .i64 ((rd_T47 l0_0 x5_1).f1), .int .i64 ((rd_T47 l0_0 x5_1).f2), .int .i64 ((rd_T47 l0_0 x5_1).f3)] 47 (0, 0)) (by (with_reducible repeat (first | refine blk_drewN ?_ _ | refine blk_drew ?_ | refine blk_alloc ?_ _)); exact BK300.out)) : gb300 ≠ gb307))
                                  have n10_ := Aside0.mk ((by rw [hg]; exact Nat.ne_of_gt (blk_lt (g := gb300) (o := .cells #[.int .u8 ((rd_T47 l0_0 x5_1).f0), .int .i64 ((rd_T47 l0_0 x5_1).f1), .int .i64 ((rd_T47 l0_0 x5_1).f2), .int .i64 ((rd_T47 l0_0 x5_1).f3)] 47 (0, 0)) (by (with_reducible repeat (first | refine blk_drewN ?_ _ | refine blk_drew ?_ | refine blk_alloc ?_ _)); exact BK300.out)) : gb307 ≠ gb300))
                                  clear HO_7
                                  clear BK297
                                  clear BK300
                                  clear HB
                                  have HO_7 := n0_
                                  have BK297 := n1_
                                  have BK300 := n2_
                                  have HB := n3_
                                  have BK307 := n4_
                                  have GW307 := n5_
                                  have GE307 := n6_
                                  have NB297_307 := n7_
                                  have NB307_297 := n8_
                                  have NB300_307 := n9_
                                  have NB307_300 := n10_
                                  clear n0_ n1_ n2_ n3_ n4_ n5_ n6_ n7_ n8_ n9_ n10_
                                  clear hb hbox hg
                                  refine hK.out _ _ ⟨(blk_cell BK297.out 0).trans rfl, HS1_, ((HB.out.cell (World.block_lt_of_cell? w _ hw306_0)).trans hw306_0), ((HB.out.cell (World.block_lt_of_cell? w _ hw306_1)).trans hw306_1), ((HB.out.cell (World.block_lt_of_cell? w _ hw306_2)).trans hw306_2), ((HB.out.cell (World.block_lt_of_cell? w _ hw306_3)).trans hw306_3)⟩ (fun hHeld => ?_)
                                  clear hK K
                                  refine norm_ (a' := ?_) ?_ ?_
                                  rotate_left
                                  · show Act.put _ (some 11) _ = _
                                    simp only [Act.put, List.setIfInBounds_toArray, List.set_cons_zero, List.set_cons_succ, i64_w, i32_w]
                                    rfl
                                  refine one_ (i := 9) (N := none) #[true, true, true, true, true, true, true, true, true, true] rfl rfl (one_of HT_.out (by kernel_rfl)) (by decide) (fun K hK => ?_)
                                  have hs38 : w37.cell? ⟨gb307, 0, none⟩ = some (.int .u8 0) := (blk_cell BK307.out 0).trans rfl
                                  have hfs38 := blk_frozen BK307.out 0
                                  have hns38_0 := NB297_307.out
                                  have hns38_1 := NB300_307.out
                                  have hms38_0 := NB307_297.out
                                  have hms38_1 := NB307_300.out
                                  have hs39 : w37.cell? ⟨gb307, 1, none⟩ = some (.int .i64 0) := (blk_cell BK307.out 1).trans rfl
                                  have hfs39 := blk_frozen BK307.out 1
                                  have hns39_0 := NB297_307.out
                                  have hns39_1 := NB300_307.out
                                  have hms39_0 := NB307_297.out
                                  have hms39_1 := NB307_300.out
                                  have hs40 : w37.cell? ⟨gb307, 2, none⟩ = some (.int .i64 0) := (blk_cell BK307.out 2).trans rfl
                                  have hfs40 := blk_frozen BK307.out 2
                                  have hns40_0 := NB297_307.out
                                  have hns40_1 := NB300_307.out
                                  have hms40_0 := NB307_297.out
                                  have hms40_1 := NB307_300.out
                                  have hs41 : w37.cell? ⟨gb307, 3, none⟩ = some (.int .i64 0) := (blk_cell BK307.out 3).trans rfl
                                  have hfs41 := blk_frozen BK307.out 3
                                  have hns41_0 := NB297_307.out
                                  have hns41_1 := NB300_307.out
                                  have hms41_0 := NB307_297.out
                                  have hms41_1 := NB307_300.out
                                  refine skip_ (w1 := ?_) (by rfl) rfl ?_ ?_
                                  rotate_left
                                  · go_simp
                                    rfl
                                  refine hK.out _ _ ⟨((cell_far (p := ⟨gb307, _, none⟩) NB297_307.out _).trans (((cell_far (p := ⟨gb307, _, none⟩) NB297_307.out _).trans (((cell_far (p := ⟨gb307, _, none⟩) NB297_307.out _).trans (((cell_far (p := ⟨gb307, _, none⟩) NB297_307.out _).trans (hHeld.1)))))))), ((cell_far (p := ⟨gb307, _, none⟩) (by first | exact Kd.own_blk (Kd.R_ne HO_7.out BK307.out (by decide)) | (rw [add_block]; exact Kd.own_blk (Kd.R_ne HO_7.out BK307.out (by decide))) | (show (Addr.add _ _).block ≠ _; rw [add_block]; exact Kd.own_blk (Kd.R_ne HO_7.out BK307.out (by decide))) | (dsimp only; exact Kd.own_blk (Kd.R_ne HO_7.out BK307.out (by decide)))) _).trans (((cell_far (p := ⟨gb307, _, none⟩) (by first | exact Kd.own_blk (Kd.R_ne HO_7.out BK307.out (by decide)) | (rw [add_block]; exact Kd.own_blk (Kd.R_ne HO_7.out BK307.out (by decide))) | (show (Addr.add _ _).block ≠ _; rw [add_block]; exact Kd.own_blk (Kd.R_ne HO_7.out BK307.out (by decide))) | (dsimp only; exact Kd.own_blk (Kd.R_ne HO_7.out BK307.out (by decide)))) _).trans (((cell_far (p := ⟨gb307, _, none⟩) (by first | exact Kd.own_blk (Kd.R_ne HO_7.out BK307.out (by decide)) | (rw [add_block]; exact Kd.own_blk (Kd.R_ne HO_7.out BK307.out (by decide))) | (show (Addr.add _ _).block ≠ _; rw [add_block]; exact Kd.own_blk (Kd.R_ne HO_7.out BK307.out (by decide))) | (dsimp only; exact Kd.own_blk (Kd.R_ne HO_7.out BK307.out (by decide)))) _).trans (((cell_far (p := ⟨gb307, _, none⟩) (by first | exact Kd.own_blk (Kd.R_ne HO_7.out BK307.out (by decide)) | (rw [add_block]; exact Kd.own_blk (Kd.R_ne HO_7.out BK307.out (by decide))) | (show (Addr.add _ _).block ≠ _; rw [add_block]; exact Kd.own_blk (Kd.R_ne HO_7.out BK307.out (by decide))) | (dsimp only; exact Kd.own_blk (Kd.R_ne HO_7.out BK307.out (by decide)))) _).trans (hHeld.2.1)))))))), ((cell_far (p := ⟨gb307, _, none⟩) (by first | exact Nat.ne_of_lt (Nat.lt_of_lt_of_le (by have := World.block_lt_of_cell? _ _ hw306_0; first | rwa [add_block] at this | exact this) GW307.out) | (rw [add_block]; exact Nat.ne_of_lt (Nat.lt_of_lt_of_le (by have := World.block_lt_of_cell? _ _ hw306_0; first | rwa [add_block] at this | exact this) GW307.out)) | (show (Addr.add _ _).block ≠ _; rw [add_block]; exact Nat.ne_of_lt (Nat.lt_of_lt_of_le (by have := World.block_lt_of_cell? _ _ hw306_0; first | rwa [add_block] at this | exact this) GW307.out)) | (dsimp only; exact Nat.ne_of_lt (Nat.lt_of_lt_of_le (by have := World.block_lt_of_cell? _ _ hw306_0; first | rwa [add_block] at this | exact this) GW307.out))) _).trans (((cell_far (p := ⟨gb307, _, none⟩) (by first | exact Nat.ne_of_lt (Nat.lt_of_lt_of_le (by have := World.block_lt_of_cell? _ _ hw306_0; first | rwa [add_block] at this | exact this) GW307.out) | (rw [add_block]; exact Nat.ne_of_lt (Nat.lt_of_lt_of_le (by have := World.block_lt_of_cell? _ _ hw306_0; first | rwa [add_block] at this | exact this) GW307.out)) | (show (Addr.add _ _).block ≠ _; rw [add_block]; exact Nat.ne_of_lt (Nat.lt_of_lt_of_le (by have := World.block_lt_of_cell? _ _ hw306_0; first | rwa [add_block] at this | exact this) GW307.out)) | (dsimp only; exact Nat.ne_of_lt (Nat.lt_of_lt_of_le (by have := World.block_lt_of_cell? _ _ hw306_0; first | rwa [add_block] at this | exact this) GW307.out))) _).trans (((cell_far (p := ⟨gb307, _, none⟩) (by first | exact Nat.ne_of_lt (Nat.lt_of_lt_of_le (by have := World.block_lt_of_cell? _ _ hw306_0; first | rwa [add_block] at this | exact this) GW307.out) | (rw [add_block]; exact Nat.ne_of_lt (Nat.lt_of_lt_of_le (by have := World.block_lt_of_cell? _ _ hw306_0; first | rwa [add_block] at this | exact this) GW307.out)) | (show (Addr.add _ _).block ≠ _; rw [add_block]; exact Nat.ne_of_lt (Nat.lt_of_lt_of_le (by have := World.block_lt_of_cell? _ _ hw306_0; first | rwa [add_block] at this | exact this) GW307.out)) | (dsimp only; exact Nat.ne_of_lt (Nat.lt_of_lt_of_le (by have := World.block_lt_of_cell? _ _ hw306_0; first | rwa [add_block] at this | exact this) GW307.out))) _).trans (((cell_far (p := ⟨gb307, _, none⟩) (by first | exact Nat.ne_of_lt (Nat.lt_of_lt_of_le (by have := World.block_lt_of_cell? _ _ hw306_0; first | rwa [add_block] at this | exact this) GW307.out) | (rw [add_block]; exact Nat.ne_of_lt (Nat.lt_of_lt_of_le (by have := World.block_lt_of_cell? _ _ hw306_0; first | rwa [add_block] at this | exact this) GW307.out)) | (show (Addr.add _ _).block ≠ _; rw [add_block]; exact Nat.ne_of_lt (Nat.lt_of_lt_of_le (by have := World.block_lt_of_cell? _ _ hw306_0; first | rwa [add_block] at this | exact this) GW307.out)) | (dsimp only; exact Nat.ne_of_lt (Nat.lt_of_lt_of_le (by have := World.block_lt_of_cell? _ _ hw306_0; first | rwa [add_block] at this | exact this) GW307.out))) _).trans (hHeld.2.2.1)))))))), ((cell_far (p := ⟨gb307, _, none⟩) (by first | exact Nat.ne_of_lt (Nat.lt_of_lt_of_le (by have := World.block_lt_of_cell? _ _ hw306_1; first | rwa [add_block] at this | exact this) GW307.out) | (rw [add_block]; exact Nat.ne_of_lt (Nat.lt_of_lt_of_le (by have := World.block_lt_of_cell? _ _ hw306_1; first | rwa [add_block] at this | exact this) GW307.out)) | (show (Addr.add _ _).block ≠ _; rw [add_block]; exact Nat.ne_of_lt (Nat.lt_of_lt_of_le (by have := World.block_lt_of_cell? _ _ hw306_1; first | rwa [add_block] at this | exact this) GW307.out)) | (dsimp only; exact Nat.ne_of_lt (Nat.lt_of_lt_of_le (by have := World.block_lt_of_cell? _ _ hw306_1; first | rwa [add_block] at this | exact this) GW307.out))) _).trans (((cell_far (p := ⟨gb307, _, none⟩) (by first | exact Nat.ne_of_lt (Nat.lt_of_lt_of_le (by have := World.block_lt_of_cell? _ _ hw306_1; first | rwa [add_block] at this | exact this) GW307.out) | (rw [add_block]; exact Nat.ne_of_lt (Nat.lt_of_lt_of_le (by have := World.block_lt_of_cell? _ _ hw306_1; first | rwa [add_block] at this | exact this) GW307.out)) | (show (Addr.add _ _).block ≠ _; rw [add_block]; exact Nat.ne_of_lt (Nat.lt_of_lt_of_le (by have := World.block_lt_of_cell? _ _ hw306_1; first | rwa [add_block] at this | exact this) GW307.out)) | (dsimp only; exact Nat.ne_of_lt (Nat.lt_of_lt_of_le (by have := World.block_lt_of_cell? _ _ hw306_1; first | rwa [add_block] at this | exact this) GW307.out))) _).trans (((cell_far (p := ⟨gb307, _, none⟩) (by first | exact Nat.ne_of_lt (Nat.lt_of_lt_of_le (by have := World.block_lt_of_cell? _ _ hw306_1; first | rwa [add_block] at this | exact this) GW307.out) | (rw [add_block]; exact Nat.ne_of_lt (Nat.lt_of_lt_of_le (by have := World.block_lt_of_cell? _ _ hw306_1; first | rwa [add_block] at this | exact this) GW307.out)) | (show (Addr.add _ _).block ≠ _; rw [add_block]; exact Nat.ne_of_lt (Nat.lt_of_lt_of_le (by have := World.block_lt_of_cell? _ _ hw306_1; first | rwa [add_block] at this | exact this) GW307.out)) | (dsimp only; exact Nat.ne_of_lt (Nat.lt_of_lt_of_le (by have := World.block_lt_of_cell? _ _ hw306_1; first | rwa [add_block] at this | exact this) GW307.out))) _).trans (((cell_far (p := ⟨gb307, _, none⟩) (by first | exact Nat.ne_of_lt (Nat.lt_of_lt_of_le (by have := World.block_lt_of_cell? _ _ hw306_1; first | rwa [add_block] at this | exact this) GW307.out) | (rw [add_block]; exact Nat.ne_of_lt (Nat.lt_of_lt_of_le (by have := World.block_lt_of_cell? _ _ hw306_1; first | rwa [add_block] at this | exact this) GW307.out)) | (show (Addr.add _ _).block ≠ _; rw [add_block]; exact Nat.ne_of_lt (Nat.lt_of_lt_of_le (by have := World.block_lt_of_cell? _ _ hw306_1; first | rwa [add_block] at this | exact this) GW307.out)) | (dsimp only; exact Nat.ne_of_lt (Nat.lt_of_lt_of_le (by have := World.block_lt_of_cell? _ _ hw306_1; first | rwa [add_block] at this | exact this) GW307.out))) _).trans (hHeld.2.2.2.1)))))))), ((cell_far (p := ⟨gb307, _, none⟩) (by first | exact Nat.ne_of_lt (Nat.lt_of_lt_of_le (by have := World.block_lt_of_cell? _ _ hw306_2; first | rwa [add_block] at this | exact this) GW307.out) | (rw [add_block]; exact Nat.ne_of_lt (Nat.lt_of_lt_of_le (by have := World.block_lt_of_cell? _ _ hw306_2; first | rwa [add_block] at this | exact this) GW307.out)) | (show (Addr.add _ _).block ≠ _; rw [add_block]; exact Nat.ne_of_lt (Nat.lt_of_lt_of_le (by have := World.block_lt_of_cell? _ _ hw306_2; first | rwa [add_block] at this | exact this) GW307.out)) | (dsimp only; exact Nat.ne_of_lt (Nat.lt_of_lt_of_le (by have := World.block_lt_of_cell? _ _ hw306_2; first | rwa [add_block] at this | exact this) GW307.out))) _).trans (((cell_far (p := ⟨gb307, _, none⟩) (by first | exact Nat.ne_of_lt (Nat.lt_of_lt_of_le (by have := World.block_lt_of_cell? _ _ hw306_2; first | rwa [add_block] at this | exact this) GW307.out) | (rw [add_block]; exact Nat.ne_of_lt (Nat.lt_of_lt_of_le (by have := World.block_lt_of_cell? _ _ hw306_2; first | rwa [add_block] at this | exact this) GW307.out)) | (show (Addr.add _ _).block ≠ _; rw [add_block]; exact Nat.ne_of_lt (Nat.lt_of_lt_of_le (by have := World.block_lt_of_cell? _ _ hw306_2; first | rwa [add_block] at this | exact this) GW307.out)) | (dsimp only; exact Nat.ne_of_lt (Nat.lt_of_lt_of_le (by have := World.block_lt_of_cell? _ _ hw306_2; first | rwa [add_block] at this | exact this) GW307.out))) _).trans (((cell_far (p := ⟨gb307, _, none⟩) (by first | exact Nat.ne_of_lt (Nat.lt_of_lt_of_le (by have := World.block_lt_of_cell? _ _ hw306_2; first | rwa [add_block] at this | exact this) GW307.out) | (rw [add_block]; exact Nat.ne_of_lt (Nat.lt_of_lt_of_le (by have := World.block_lt_of_cell? _ _ hw306_2; first | rwa [add_block] at this | exact this) GW307.out)) | (show (Addr.add _ _).block ≠ _; rw [add_block]; exact Nat.ne_of_lt (Nat.lt_of_lt_of_le (by have := World.block_lt_of_cell? _ _ hw306_2; first | rwa [add_block] at this | exact this) GW307.out)) | (dsimp only; exact Nat.ne_of_lt (Nat.lt_of_lt_of_le (by have := World.block_lt_of_cell? _ _ hw306_2; first | rwa [add_block] at this | exact this) GW307.out))) _).trans (((cell_far (p := ⟨gb307, _, none⟩) (by first | exact Nat.ne_of_lt (Nat.lt_of_lt_of_le (by have := World.block_lt_of_cell? _ _ hw306_2; first | rwa [add_block] at this | exact this) GW307.out) | (rw [add_block]; exact Nat.ne_of_lt (Nat.lt_of_lt_of_le (by have := World.block_lt_of_cell? _ _ hw306_2; first | rwa [add_block] at this | exact this) GW307.out)) | (show (Addr.add _ _).block ≠ _; rw [add_block]; exact Nat.ne_of_lt (Nat.lt_of_lt_of_le (by have := World.block_lt_of_cell? _ _ hw306_2; first | rwa [add_block] at this | exact this) GW307.out)) | (dsimp only; exact Nat.ne_of_lt (Nat.lt_of_lt_of_le (by have := World.block_lt_of_cell? _ _ hw306_2; first | rwa [add_block] at this | exact this) GW307.out))) _).trans (hHeld.2.2.2.2.1)))))))), ((cell_far (p := ⟨gb307, _, none⟩) (by first | exact Nat.ne_of_lt (Nat.lt_of_lt_of_le (by have := World.block_lt_of_cell? _ _ hw306_3; first | rwa [add_block] at this | exact this) GW307.out) | (rw [add_block]; exact Nat.ne_of_lt (Nat.lt_of_lt_of_le (by have := World.block_lt_of_cell? _ _ hw306_3; first | rwa [add_block] at this | exact this) GW307.out)) | (show (Addr.add _ _).block ≠ _; rw [add_block]; exact Nat.ne_of_lt (Nat.lt_of_lt_of_le (by have := World.block_lt_of_cell? _ _ hw306_3; first | rwa [add_block] at this | exact this) GW307.out)) | (dsimp only; exact Nat.ne_of_lt (Nat.lt_of_lt_of_le (by have := World.block_lt_of_cell? _ _ hw306_3; first | rwa [add_block] at this | exact this) GW307.out))) _).trans (((cell_far (p := ⟨gb307, _, none⟩) (by first | exact Nat.ne_of_lt (Nat.lt_of_lt_of_le (by have := World.block_lt_of_cell? _ _ hw306_3; first | rwa [add_block] at this | exact this) GW307.out) | (rw [add_block]; exact Nat.ne_of_lt (Nat.lt_of_lt_of_le (by have := World.block_lt_of_cell? _ _ hw306_3; first | rwa [add_block] at this | exact this) GW307.out)) | (show (Addr.add _ _).block ≠ _; rw [add_block]; exact Nat.ne_of_lt (Nat.lt_of_lt_of_le (by have := World.block_lt_of_cell? _ _ hw306_3; first | rwa [add_block] at this | exact this) GW307.out)) | (dsimp only; exact Nat.ne_of_lt (Nat.lt_of_lt_of_le (by have := World.block_lt_of_cell? _ _ hw306_3; first | rwa [add_block] at this | exact this) GW307.out))) _).trans (((cell_far (p := ⟨gb307, _, none⟩) (by first | exact Nat.ne_of_lt (Nat.lt_of_lt_of_le (by have := World.block_lt_of_cell? _ _ hw306_3; first | rwa [add_block] at this | exact this) GW307.out) | (rw [add_block]; exact Nat.ne_of_lt (Nat.lt_of_lt_of_le (by have := World.block_lt_of_cell? _ _ hw306_3; first | rwa [add_block] at this | exact this) GW307.out)) | (show (Addr.add _ _).block ≠ _; rw [add_block]; exact Nat.ne_of_lt (Nat.lt_of_lt_of_le (by have := World.block_lt_of_cell? _ _ hw306_3; first | rwa [add_block] at this | exact this) GW307.out)) | (dsimp only; exact Nat.ne_of_lt (Nat.lt_of_lt_of_le (by have := World.block_lt_of_cell? _ _ hw306_3; first | rwa [add_block] at this | exact this) GW307.out))) _).trans (((cell_far (p := ⟨gb307, _, none⟩) (by first | exact Nat.ne_of_lt (Nat.lt_of_lt_of_le (by have := World.block_lt_of_cell? _ _ hw306_3; first | rwa [add_block] at this | exact this) GW307.out) | (rw [add_block]; exact Nat.ne_of_lt (Nat.lt_of_lt_of_le (by have := World.block_lt_of_cell? _ _ hw306_3; first | rwa [add_block] at this | exact this) GW307.out)) | (show (Addr.add _ _).block ≠ _; rw [add_block]; exact Nat.ne_of_lt (Nat.lt_of_lt_of_le (by have := World.block_lt_of_cell? _ _ hw306_3; first | rwa [add_block] at this | exact this) GW307.out)) | (dsimp only; exact Nat.ne_of_lt (Nat.lt_of_lt_of_le (by have := World.block_lt_of_cell? _ _ hw306_3; first | rwa [add_block] at this | exact this) GW307.out))) _).trans (hHeld.2.2.2.2.2))))))))⟩ (fun hHeld => ?_)
                                  clear hK K
                                  refine done_ (done_of HT_.out (by kernel_rfl)) ?_
                                  have hnb42 := NB307_297.out
                                  have hnc42 := NB297_307.out
                                  have hnb43 := NB307_300.out
                                  have hnc43 := NB300_307.out
                                  have hcz44_0 : w37.cell? ⟨gb307, 0, none⟩ = some (.int .u8 0) := (blk_cell BK307.out 0).trans rfl
                                  have hcz44_1 : w37.cell? ⟨gb307, 1, none⟩ = some (.int .i64 0) := (blk_cell BK307.out 1).trans rfl
                                  have hcz44_2 : w37.cell? ⟨gb307, 2, none⟩ = some (.int .i64 0) := (blk_cell BK307.out 2).trans rfl
                                  have hcz44_3 : w37.cell? ⟨gb307, 3, none⟩ = some (.int .i64 0) := (blk_cell BK307.out 3).trans rfl
                                  have hfz44_0 := blk_frozen BK307.out 0
                                  have hfz44_1 := blk_frozen BK307.out 1
                                  have hfz44_2 := blk_frozen BK307.out 2
                                  have hfz44_3 := blk_frozen BK307.out 3
                                  have hnb45 := NB300_297.out
                                  have hnc45 := NB297_300.out
                                  have hcz46_0 : w37.cell? ⟨gb300, 0, none⟩ = some (.int .u8 ((rd_T47 l0_0 x5_1).f0)) := (blk_cell BK300.out 0).trans rfl
                                  have hcz46_1 : w37.cell? ⟨gb300, 1, none⟩ = some (.int .i64 ((rd_T47 l0_0 x5_1).f1)) := (blk_cell BK300.out 1).trans rfl
                                  have hcz46_2 : w37.cell? ⟨gb300, 2, none⟩ = some (.int .i64 ((rd_T47 l0_0 x5_1).f2)) := (blk_cell BK300.out 2).trans rfl
                                  have hcz46_3 : w37.cell? ⟨gb300, 3, none⟩ = some (.int .i64 ((rd_T47 l0_0 x5_1).f3)) := (blk_cell BK300.out 3).trans rfl
                                  have hfz46_0 := blk_frozen BK300.out 0
                                  have hfz46_1 := blk_frozen BK300.out 1
                                  have hfz46_2 := blk_frozen BK300.out 2
                                  have hfz46_3 := blk_frozen BK300.out 3
                                  try go_wp2
                                  go_ret
                                  exact ⟨by first | rfl | (simp [errW_none, errW_some] <;> rfl) | (simp [*, errW_none, errW_some] <;> rfl), by repeat (first | (with_reducible first | exact HB.out | apply below_alloc | apply pw_below_drewN | apply below_drew1 | refine below_set ?_ GE297.out | refine below_set ?_ GE300.out | refine below_set ?_ GE307.out) | exact HB.out)⟩
                                · rw [if_neg c34] at H
                                  have c34b0 : decide (((rd_T47 l0_0 (rd t301 x10_3)).f1) < ((rd_T47 l0_0 x5_1).f1)) = false := decide_eq_false c34
                                  clear c34
                                  have H' := Aside0.mk H
                                  clear H
                                  obtain ⟨Ao47, co47, eo47⟩ := Kd.R_slice HO_7.out
                                  subst eo47
                                  try go_wp2
                                  have n0_ := Aside0.mk (Kd.R_drew HO_7.out)
                                  have n1_ := Aside0.mk (blk_drew BK297.out)
                                  have n2_ := Aside0.mk (blk_drew BK300.out)
                                  have n3_ := Aside0.mk (below_drew1 HB.out)
                                  clear HO_7
                                  clear BK297
                                  clear BK300
                                  clear HB
                                  have HO_7 := n0_
                                  have BK297 := n1_
                                  have BK300 := n2_
                                  have HB := n3_
                                  clear n0_ n1_ n2_ n3_
                                  have p305 : 0 ≤ (x10_3 : Int) := of_decide_eq_true (by first | (with_reducible assumption) | assumption)
                                  have q305 : x10_3 < (t301.length : Int) := of_decide_eq_true (by first | (with_reducible assumption) | assumption)
                                  obtain ⟨ad305, e305, hx305_0⟩ := Kd.at_int (Kd.R_reads' HO_7.out).2.2 x10_3 p305 q305
                                  cases e305
                                  replace p305 := eq_true p305
                                  replace q305 := eq_true q305
                                  have p306 : 0 ≤ ((rd t301 x10_3) : Int) := of_decide_eq_true (by first | (with_reducible assumption) | assumption)
                                  have q306 : (rd t301 x10_3) < (l0_0.length : Int) := of_decide_eq_true (by first | (with_reducible assumption) | assumption)
                                  obtain ⟨ad306, e306, hx306_0, hx306_1, hx306_2, hx306_3⟩ := at_T47 HR0_0.out (rd t301 x10_3) p306 q306
                                  have hw306_3 := hx306_3
                                  have hw306_2 := hx306_2
                                  have hw306_1 := hx306_1
                                  have hw306_0 := hx306_0
                                  obtain rfl : ad299 = ad306 := (by injection e306)
                                  replace hx306_0 := (HB.out.cell (World.block_lt_of_cell? w _ hx306_0)).trans hx306_0
                                  replace hx306_1 := (HB.out.cell (World.block_lt_of_cell? w _ hx306_1)).trans hx306_1
                                  replace hx306_2 := (HB.out.cell (World.block_lt_of_cell? w _ hx306_2)).trans hx306_2
                                  replace hx306_3 := (HB.out.cell (World.block_lt_of_cell? w _ hx306_3)).trans hx306_3
                                  replace p306 := eq_true p306
                                  replace q306 := eq_true q306
                                  refine start_ (n := 10) (S := fun w' => w'.cell? ⟨gb297, 0, none⟩ = some (.slice (some ad299) l0_0.length c0_0) ∧ w'.cell? (ad305.add (x10_3).toNat) = some (.int .i64 (rd t301 x10_3)) ∧ w'.cell? (ad299.add (((rd t301 x10_3)).toNat * 4)) = some (.int .u8 ((rd_T47 l0_0 (rd t301 x10_3)).f0)) ∧ w'.cell? ⟨(ad299.add (((rd t301 x10_3)).toNat * 4)).block, (ad299.add (((rd t301 x10_3)).toNat * 4)).off + 1, none⟩ = some (.int .i64 ((rd_T47 l0_0 (rd t301 x10_3)).f1)) ∧ w'.cell? ⟨(ad299.add (((rd t301 x10_3)).toNat * 4)).block, (ad299.add (((rd t301 x10_3)).toNat * 4)).off + 2, none⟩ = some (.int .i64 ((rd_T47 l0_0 (rd t301 x10_3)).f2)) ∧ w'.cell? ⟨(ad299.add (((rd t301 x10_3)).toNat * 4)).block, (ad299.add (((rd t301 x10_3)).toNat * 4)).off + 3, none⟩ = some (.int .i64 ((rd_T47 l0_0 (rd t301 x10_3)).f3))) (ds := []) #[false, false, false, false, false, false, false, false, false, false] (by kernel_rfl) rfl rfl ⟨(blk_cell BK297.out 0).trans rfl, hx305_0, ((HB.out.cell (World.block_lt_of_cell? w _ hw306_0)).trans hw306_0), ((HB.out.cell (World.block_lt_of_cell? w _ hw306_1)).trans hw306_1), ((HB.out.cell (World.block_lt_of_cell? w _ hw306_2)).trans hw306_2), ((HB.out.cell (World.block_lt_of_cell? w _ hw306_3)).trans hw306_3)⟩ (fun hHeld => ?_); refine with_tabW monikerref4_Valid.tab14 monikerref4_Valid.bits14 (fun HT_ HW_ => ?_)
                                  generalize wr.drew = w48 at HO_7 BK297 BK300 HB hx305_0 hx306_0 hx306_1 hx306_2 hx306_3 hHeld ⊢
                                  refine pure_ (i := 0) (N := some 57) (v := ?_) (a' := ?_) #[true, false, false, false, false, false, false, false, false, false] rfl rfl (any_of HT_.out (by kernel_rfl)) (fun _ _ _ h => h) (Or.inl ⟨by rfl, ?_⟩) ?_ ?_
                                  rotate_left
                                  · intro w'
                                    go_simp
                                    with_reducible rfl
                                  rotate_left
                                  · simp only [Act.put, List.setIfInBounds_toArray, List.set_cons_zero, List.set_cons_succ, i64_w, i32_w]
                                    rfl
                                  refine pure_ (i := 2) (N := some 59) (v := ?_) (a' := ?_) #[true, false, true, false, false, false, false, false, false, false] rfl rfl (any_of HT_.out (by kernel_rfl)) (fun _ _ _ h => h) (Or.inl ⟨by rfl, ?_⟩) ?_ ?_
                                  rotate_left
                                  · intro w'
                                    go_simp
                                    with_reducible rfl
                                  rotate_left
                                  · simp only [Act.put, List.setIfInBounds_toArray, List.set_cons_zero, List.set_cons_succ, i64_w, i32_w]
                                    rfl
                                  refine pure_ (i := 3) (N := some 60) (v := ?_) (a' := ?_) #[true, false, true, true, false, false, false, false, false, false] rfl rfl (any_of HT_.out (by kernel_rfl)) (fun _ _ _ h => h) (Or.inl ⟨by rfl, ?_⟩) ?_ ?_
                                  rotate_left
                                  · intro w'
                                    go_simp
                                    with_reducible rfl
                                  rotate_left
                                  · simp only [Act.put, List.setIfInBounds_toArray, List.set_cons_zero, List.set_cons_succ, i64_w, i32_w]
                                    rfl
                                  refine pure_ (i := 4) (N := some 61) (v := ?_) (a' := ?_) #[true, false, true, true, true, false, false, false, false, false] rfl rfl (any_of HT_.out (by kernel_rfl)) (fun _ _ _ h => h) (Or.inl ⟨by rfl, ?_⟩) ?_ ?_
                                  rotate_left
                                  · intro w'
                                    go_simp
                                    with_reducible rfl
                                  rotate_left
                                  · simp only [Act.put, List.setIfInBounds_toArray, List.set_cons_zero, List.set_cons_succ, i64_w, i32_w]
                                    rfl
                                  refine take_ (i := 1) (N := some 58) (v := ?_) (a' := ?_) #[true, true, true, true, true, false, false, false, false, false] rfl rfl (take_ofW HT_.out HW_.out (by kernel_rfl)) (fun _ _ _ h => h) (Or.inl ⟨by rfl, ?_⟩) hHeld ?_ ?_
                                  rotate_left
                                  · rintro w' ⟨s0, s1, s2, s3, s4, s5⟩
                                    go_simp
                                    with_reducible rfl
                                  rotate_left
                                  · simp only [Act.put, List.setIfInBounds_toArray, List.set_cons_zero, List.set_cons_succ, i64_w, i32_w]
                                    rfl
                                  refine take_ (i := 5) (N := some 62) (v := ?_) (a' := ?_) #[true, true, true, true, true, true, false, false, false, false] rfl rfl (take_ofW HT_.out HW_.out (by kernel_rfl)) (fun _ _ _ h => h) (Or.inl ⟨by rfl, ?_⟩) hHeld ?_ ?_
                                  rotate_left
                                  · rintro w' ⟨s0, s1, s2, s3, s4, s5⟩
                                    go_simp
                                    with_reducible rfl
                                  rotate_left
                                  · simp only [Act.put, List.setIfInBounds_toArray, List.set_cons_zero, List.set_cons_succ, i64_w, i32_w]
                                    rfl
                                  refine pure_ (i := 6) (N := some 63) (v := ?_) (a' := ?_) #[true, true, true, true, true, true, true, false, false, false] rfl rfl (any_of HT_.out (by kernel_rfl)) (fun _ _ _ h => h) (Or.inl ⟨by rfl, ?_⟩) ?_ ?_
                                  rotate_left
                                  · intro w'
                                    go_simp
                                    with_reducible rfl
                                  rotate_left
                                  · simp only [Act.put, List.setIfInBounds_toArray, List.set_cons_zero, List.set_cons_succ, i64_w, i32_w]
                                    rfl
                                  refine take_ (i := 7) (N := some 64) (v := ?_) (a' := ?_) #[true, true, true, true, true, true, true, true, false, false] rfl rfl (take_ofW HT_.out HW_.out (by kernel_rfl)) (fun _ _ _ h => h) (Or.inl ⟨by rfl, ?_⟩) hHeld ?_ ?_
                                  rotate_left
                                  · rintro w' ⟨s0, s1, s2, s3, s4, s5⟩
                                    go_simp
                                    with_reducible rfl
                                  rotate_left
                                  · simp only [Act.put, List.setIfInBounds_toArray, List.set_cons_zero, List.set_cons_succ, i64_w, i32_w]
                                    rfl
                                  refine one_ (i := 8) (N := some 11) #[true, true, true, true, true, true, true, true, true, false] rfl rfl (one_of HT_.out (by kernel_rfl)) (by decide) (fun K hK => ?_)
                                  refine box_step ?hg (N := 11) ?hd (cs := #[.int .u8 0, .int .i64 0, .int .i64 0, .int .i64 0]) (t := 47) ?hr ?_; (case hd => rfl); (case hg => rfl); (case hr => first | (go_simp; done) | (go_simp; rfl))
                                  intro gb307 hg w49 hbox hb
                                  have HS1_ := (hb.cell (World.block_lt_of_cell? _ _ (hHeld.2.1))).trans (hHeld.2.1)
                                  have n0_ := Aside0.mk (Kd.R_below (by (with_reducible repeat (first | apply Kd.R_alloc | apply Kd.R_drewN | apply Kd.R_drew)); exact HO_7.out) hb)
                                  have n1_ := Aside0.mk (blk_below (g := gb297) (o := .cells #[.slice (some ad299) l0_0.length c0_0] 25 (0, 0)) (by (with_reducible repeat (first | refine blk_drewN ?_ _ | refine blk_drew ?_ | refine blk_alloc ?_ _)); exact BK297.out) hb)
                                  have n2_ := Aside0.mk (blk_below (g := gb300) (o := .cells #[.int .u8 ((rd_T47 l0_0 x5_1).f0), .int .i64 ((rd_T47 l0_0 x5_1).f1), .int .i64 ((rd_T47 l0_0 x5_1).f2), .int .i64 ((rd_T47 l0_0 x5_1).f3)] 47 (0, 0)) (by (with_reducible repeat (first | refine blk_drewN ?_ _ | refine blk_drew ?_ | refine blk_alloc ?_ _)); exact BK300.out) hb)
                                  have n3_ := Aside0.mk (below_step (by repeat (first | (with_reducible first | exact HB.out | apply below_alloc | apply pw_below_drewN | apply below_drew1 | refine below_set ?_ GE297.out | refine below_set ?_ GE300.out) | exact HB.out)) hb)
                                  have n4_ := Aside0.mk (hbox)
                                  have n5_ := Aside0.mk ((by rw [hg]; exact (below_size (by repeat (first | (with_reducible first | exact HB.out | apply below_alloc | apply pw_below_drewN | apply below_drew1 | refine below_set ?_ GE297.out | refine below_set ?_ GE300.out) | exact HB.out))) : w.heap.size ≤ gb307))
                                  have n6_ := Aside0.mk ((by rw [hg]; exact (below_size (by repeat (first | (with_reducible first | exact HB.out | apply below_alloc | apply pw_below_drewN | apply below_drew1 | refine below_set ?_ GE297.out | refine below_set ?_ GE300.out) | exact HB.out))) : w.heap.size ≤ gb307))
                                  have n7_ := Aside0.mk ((by rw [hg]; exact Nat.ne_of_lt (blk_lt (g := gb297) (o := .cells #[.slice (some ad299) l0_0.length c0_0] 25 (0, 0)) (by (with_reducible repeat (first | refine blk_drewN ?_ _ | refine blk_drew ?_ | refine blk_alloc ?_ _)); exact BK297.out)) : gb297 ≠ gb307))
                                  have n8_ := Aside0.mk ((by rw [hg]; exact Nat.ne_of_gt (blk_lt (g := gb297) (o := .cells #[.slice (some ad299) l0_0.length c0_0] 25 (0, 0)) (by (with_reducible repeat (first | refine blk_drewN ?_ _ | refine blk_drew ?_ | refine blk_alloc ?_ _)); exact BK297.out)) : gb307 ≠ gb297))
                                  have n9_ := Aside0.mk ((by rw [hg]; exact Nat.ne_of_lt (blk_lt (g := gb300) (o := .cells #[.int .u8 ((rd_T47 l0_0 x5_1).f0), .int .i64 ((rd_T47 l0_0 x5_1).f1), .int .i64 ((rd_T47 l0_0 x5_1).f2), .int .i64 ((rd_T47 l0_0 x5_1).f3)] 47 (0, 0)) (by (with_reducible repeat (first | refine blk_drewN ?_ _ | refine blk_drew ?_ | refine blk_alloc ?_ _)); exact BK300.out)) : gb300 ≠ gb307))
                                  have n10_ := Aside0.mk ((by rw [hg]; exact Nat.ne_of_gt (blk_lt (g := gb300) (o := .cells #[.int .u8 ((rd_T47 l0_0 x5_1).f0), .int .i64 ((rd_T47 l0_0 x5_1).f1), .int .i64 ((rd_T47 l0_0 x5_1).f2), .int .i64 ((rd_T47 l0_0 x5_1).f3)] 47 (0, 0)) (by (with_reducible repeat (first | refine blk_drewN ?_ _ | refine blk_drew ?_ | refine blk_alloc ?_ _)); exact BK300.out)) : gb307 ≠ gb300))
                                  clear HO_7
                                  clear BK297
                                  clear BK300
                                  clear HB
                                  have HO_7 := n0_
                                  have BK297 := n1_
                                  have BK300 := n2_
                                  have HB := n3_
                                  have BK307 := n4_
                                  have GW307 := n5_
                                  have GE307 := n6_
                                  have NB297_307 := n7_
                                  have NB307_297 := n8_
                                  have NB300_307 := n9_
                                  have NB307_300 := n10_
                                  clear n0_ n1_ n2_ n3_ n4_ n5_ n6_ n7_ n8_ n9_ n10_
                                  clear hb hbox hg
                                  refine hK.out _ _ ⟨(blk_cell BK297.out 0).trans rfl, HS1_, ((HB.out.cell (World.block_lt_of_cell? w _ hw306_0)).trans hw306_0), ((HB.out.cell (World.block_lt_of_cell? w _ hw306_1)).trans hw306_1), ((HB.out.cell (World.block_lt_of_cell? w _ hw306_2)).trans hw306_2), ((HB.out.cell (World.block_lt_of_cell? w _ hw306_3)).trans hw306_3)⟩ (fun hHeld => ?_)
                                  clear hK K
                                  refine norm_ (a' := ?_) ?_ ?_
                                  rotate_left
                                  · show Act.put _ (some 11) _ = _
                                    simp only [Act.put, List.setIfInBounds_toArray, List.set_cons_zero, List.set_cons_succ, i64_w, i32_w]
                                    rfl
                                  refine one_ (i := 9) (N := none) #[true, true, true, true, true, true, true, true, true, true] rfl rfl (one_of HT_.out (by kernel_rfl)) (by decide) (fun K hK => ?_)
                                  have hs50 : w49.cell? ⟨gb307, 0, none⟩ = some (.int .u8 0) := (blk_cell BK307.out 0).trans rfl
                                  have hfs50 := blk_frozen BK307.out 0
                                  have hns50_0 := NB297_307.out
                                  have hns50_1 := NB300_307.out
                                  have hms50_0 := NB307_297.out
                                  have hms50_1 := NB307_300.out
                                  have hs51 : w49.cell? ⟨gb307, 1, none⟩ = some (.int .i64 0) := (blk_cell BK307.out 1).trans rfl
                                  have hfs51 := blk_frozen BK307.out 1
                                  have hns51_0 := NB297_307.out
                                  have hns51_1 := NB300_307.out
                                  have hms51_0 := NB307_297.out
                                  have hms51_1 := NB307_300.out
                                  have hs52 : w49.cell? ⟨gb307, 2, none⟩ = some (.int .i64 0) := (blk_cell BK307.out 2).trans rfl
                                  have hfs52 := blk_frozen BK307.out 2
                                  have hns52_0 := NB297_307.out
                                  have hns52_1 := NB300_307.out
                                  have hms52_0 := NB307_297.out
                                  have hms52_1 := NB307_300.out
                                  have hs53 : w49.cell? ⟨gb307, 3, none⟩ = some (.int .i64 0) := (blk_cell BK307.out 3).trans rfl
                                  have hfs53 := blk_frozen BK307.out 3
                                  have hns53_0 := NB297_307.out
                                  have hns53_1 := NB300_307.out
                                  have hms53_0 := NB307_297.out
                                  have hms53_1 := NB307_300.out
                                  refine skip_ (w1 := ?_) (by rfl) rfl ?_ ?_
                                  rotate_left
                                  · go_simp
                                    rfl
                                  refine hK.out _ _ ⟨((cell_far (p := ⟨gb307, _, none⟩) NB297_307.out _).trans (((cell_far (p := ⟨gb307, _, none⟩) NB297_307.out _).trans (((cell_far (p := ⟨gb307, _, none⟩) NB297_307.out _).trans (((cell_far (p := ⟨gb307, _, none⟩) NB297_307.out _).trans (hHeld.1)))))))), ((cell_far (p := ⟨gb307, _, none⟩) (by first | exact Kd.own_blk (Kd.R_ne HO_7.out BK307.out (by decide)) | (rw [add_block]; exact Kd.own_blk (Kd.R_ne HO_7.out BK307.out (by decide))) | (show (Addr.add _ _).block ≠ _; rw [add_block]; exact Kd.own_blk (Kd.R_ne HO_7.out BK307.out (by decide))) | (dsimp only; exact Kd.own_blk (Kd.R_ne HO_7.out BK307.out (by decide)))) _).trans (((cell_far (p := ⟨gb307, _, none⟩) (by first | exact Kd.own_blk (Kd.R_ne HO_7.out BK307.out (by decide)) | (rw [add_block]; exact Kd.own_blk (Kd.R_ne HO_7.out BK307.out (by decide))) | (show (Addr.add _ _).block ≠ _; rw [add_block]; exact Kd.own_blk (Kd.R_ne HO_7.out BK307.out (by decide))) | (dsimp only; exact Kd.own_blk (Kd.R_ne HO_7.out BK307.out (by decide)))) _).trans (((cell_far (p := ⟨gb307, _, none⟩) (by first | exact Kd.own_blk (Kd.R_ne HO_7.out BK307.out (by decide)) | (rw [add_block]; exact Kd.own_blk (Kd.R_ne HO_7.out BK307.out (by decide))) | (show (Addr.add _ _).block ≠ _; rw [add_block]; exact Kd.own_blk (Kd.R_ne HO_7.out BK307.out (by decide))) | (dsimp only; exact Kd.own_blk (Kd.R_ne HO_7.out BK307.out (by decide)))) _).trans (((cell_far (p := ⟨gb307, _, none⟩) (by first | exact Kd.own_blk (Kd.R_ne HO_7.out BK307.out (by decide)) | (rw [add_block]; exact Kd.own_blk (Kd.R_ne HO_7.out BK307.out (by decide))) | (show (Addr.add _ _).block ≠ _; rw [add_block]; exact Kd.own_blk (Kd.R_ne HO_7.out BK307.out (by decide))) | (dsimp only; exact Kd.own_blk (Kd.R_ne HO_7.out BK307.out (by decide)))) _).trans (hHeld.2.1)))))))), ((cell_far (p := ⟨gb307, _, none⟩) (by first | exact Nat.ne_of_lt (Nat.lt_of_lt_of_le (by have := World.block_lt_of_cell? _ _ hw306_0; first | rwa [add_block] at this | exact this) GW307.out) | (rw [add_block]; exact Nat.ne_of_lt (Nat.lt_of_lt_of_le (by have := World.block_lt_of_cell? _ _ hw306_0; first | rwa [add_block] at this | exact this) GW307.out)) | (show (Addr.add _ _).block ≠ _; rw [add_block]; exact Nat.ne_of_lt (Nat.lt_of_lt_of_le (by have := World.block_lt_of_cell? _ _ hw306_0; first | rwa [add_block] at this | exact this) GW307.out)) | (dsimp only; exact Nat.ne_of_lt (Nat.lt_of_lt_of_le (by have := World.block_lt_of_cell? _ _ hw306_0; first | rwa [add_block] at this | exact this) GW307.out))) _).trans (((cell_far (p := ⟨gb307, _, none⟩) (by first | exact Nat.ne_of_lt (Nat.lt_of_lt_of_le (by have := World.block_lt_of_cell? _ _ hw306_0; first | rwa [add_block] at this | exact this) GW307.out) | (rw [add_block]; exact Nat.ne_of_lt (Nat.lt_of_lt_of_le (by have := World.block_lt_of_cell? _ _ hw306_0; first | rwa [add_block] at this | exact this) GW307.out)) | (show (Addr.add _ _).block ≠ _; rw [add_block]; exact Nat.ne_of_lt (Nat.lt_of_lt_of_le (by have := World.block_lt_of_cell? _ _ hw306_0; first | rwa [add_block] at this | exact this) GW307.out)) | (dsimp only; exact Nat.ne_of_lt (Nat.lt_of_lt_of_le (by have := World.block_lt_of_cell? _ _ hw306_0; first | rwa [add_block] at this | exact this) GW307.out))) _).trans (((cell_far (p := ⟨gb307, _, none⟩) (by first | exact Nat.ne_of_lt (Nat.lt_of_lt_of_le (by have := World.block_lt_of_cell? _ _ hw306_0; first | rwa [add_block] at this | exact this) GW307.out) | (rw [add_block]; exact Nat.ne_of_lt (Nat.lt_of_lt_of_le (by have := World.block_lt_of_cell? _ _ hw306_0; first | rwa [add_block] at this | exact this) GW307.out)) | (show (Addr.add _ _).block ≠ _; rw [add_block]; exact Nat.ne_of_lt (Nat.lt_of_lt_of_le (by have := World.block_lt_of_cell? _ _ hw306_0; first | rwa [add_block] at this | exact this) GW307.out)) | (dsimp only; exact Nat.ne_of_lt (Nat.lt_of_lt_of_le (by have := World.block_lt_of_cell? _ _ hw306_0; first | rwa [add_block] at this | exact this) GW307.out))) _).trans (((cell_far (p := ⟨gb307, _, none⟩) (by first | exact Nat.ne_of_lt (Nat.lt_of_lt_of_le (by have := World.block_lt_of_cell? _ _ hw306_0; first | rwa [add_block] at this | exact this) GW307.out) | (rw [add_block]; exact Nat.ne_of_lt (Nat.lt_of_lt_of_le (by have := World.block_lt_of_cell? _ _ hw306_0; first | rwa [add_block] at this | exact this) GW307.out)) | (show (Addr.add _ _).block ≠ _; rw [add_block]; exact Nat.ne_of_lt (Nat.lt_of_lt_of_le (by have := World.block_lt_of_cell? _ _ hw306_0; first | rwa [add_block] at this | exact this) GW307.out)) | (dsimp only; exact Nat.ne_of_lt (Nat.lt_of_lt_of_le (by have := World.block_lt_of_cell? _ _ hw306_0; first | rwa [add_block] at this | exact this) GW307.out))) _).trans (hHeld.2.2.1)))))))), ((cell_far (p := ⟨gb307, _, none⟩) (by first | exact Nat.ne_of_lt (Nat.lt_of_lt_of_le (by have := World.block_lt_of_cell? _ _ hw306_1; first | rwa [add_block] at this | exact this) GW307.out) | (rw [add_block]; exact Nat.ne_of_lt (Nat.lt_of_lt_of_le (by have := World.block_lt_of_cell? _ _ hw306_1; first | rwa [add_block] at this | exact this) GW307.out)) | (show (Addr.add _ _).block ≠ _; rw [add_block]; exact Nat.ne_of_lt (Nat.lt_of_lt_of_le (by have := World.block_lt_of_cell? _ _ hw306_1; first | rwa [add_block] at this | exact this) GW307.out)) | (dsimp only; exact Nat.ne_of_lt (Nat.lt_of_lt_of_le (by have := World.block_lt_of_cell? _ _ hw306_1; first | rwa [add_block] at this | exact this) GW307.out))) _).trans (((cell_far (p := ⟨gb307, _, none⟩) (by first | exact Nat.ne_of_lt (Nat.lt_of_lt_of_le (by have := World.block_lt_of_cell? _ _ hw306_1; first | rwa [add_block] at this | exact this) GW307.out) | (rw [add_block]; exact Nat.ne_of_lt (Nat.lt_of_lt_of_le (by have := World.block_lt_of_cell? _ _ hw306_1; first | rwa [add_block] at this | exact this) GW307.out)) | (show (Addr.add _ _).block ≠ _; rw [add_block]; exact Nat.ne_of_lt (Nat.lt_of_lt_of_le (by have := World.block_lt_of_cell? _ _ hw306_1; first | rwa [add_block] at this | exact this) GW307.out)) | (dsimp only; exact Nat.ne_of_lt (Nat.lt_of_lt_of_le (by have := World.block_lt_of_cell? _ _ hw306_1; first | rwa [add_block] at this | exact this) GW307.out))) _).trans (((cell_far (p := ⟨gb307, _, none⟩) (by first | exact Nat.ne_of_lt (Nat.lt_of_lt_of_le (by have := World.block_lt_of_cell? _ _ hw306_1; first | rwa [add_block] at this | exact this) GW307.out) | (rw [add_block]; exact Nat.ne_of_lt (Nat.lt_of_lt_of_le (by have := World.block_lt_of_cell? _ _ hw306_1; first | rwa [add_block] at this | exact this) GW307.out)) | (show (Addr.add _ _).block ≠ _; rw [add_block]; exact Nat.ne_of_lt (Nat.lt_of_lt_of_le (by have := World.block_lt_of_cell? _ _ hw306_1; first | rwa [add_block] at this | exact this) GW307.out)) | (dsimp only; exact Nat.ne_of_lt (Nat.lt_of_lt_of_le (by have := World.block_lt_of_cell? _ _ hw306_1; first | rwa [add_block] at this | exact this) GW307.out))) _).trans (((cell_far (p := ⟨gb307, _, none⟩) (by first | exact Nat.ne_of_lt (Nat.lt_of_lt_of_le (by have := World.block_lt_of_cell? _ _ hw306_1; first | rwa [add_block] at this | exact this) GW307.out) | (rw [add_block]; exact Nat.ne_of_lt (Nat.lt_of_lt_of_le (by have := World.block_lt_of_cell? _ _ hw306_1; first | rwa [add_block] at this | exact this) GW307.out)) | (show (Addr.add _ _).block ≠ _; rw [add_block]; exact Nat.ne_of_lt (Nat.lt_of_lt_of_le (by have := World.block_lt_of_cell? _ _ hw306_1; first | rwa [add_block] at this | exact this) GW307.out)) | (dsimp only; exact Nat.ne_of_lt (Nat.lt_of_lt_of_le (by have := World.block_lt_of_cell? _ _ hw306_1; first | rwa [add_block] at this | exact this) GW307.out))) _).trans (hHeld.2.2.2.1)))))))), ((cell_far (p := ⟨gb307, _, none⟩) (by first | exact Nat.ne_of_lt (Nat.lt_of_lt_of_le (by have := World.block_lt_of_cell? _ _ hw306_2; first | rwa [add_block] at this | exact this) GW307.out) | (rw [add_block]; exact Nat.ne_of_lt (Nat.lt_of_lt_of_le (by have := World.block_lt_of_cell? _ _ hw306_2; first | rwa [add_block] at this | exact this) GW307.out)) | (show (Addr.add _ _).block ≠ _; rw [add_block]; exact Nat.ne_of_lt (Nat.lt_of_lt_of_le (by have := World.block_lt_of_cell? _ _ hw306_2; first | rwa [add_block] at this | exact this) GW307.out)) | (dsimp only; exact Nat.ne_of_lt (Nat.lt_of_lt_of_le (by have := World.block_lt_of_cell? _ _ hw306_2; first | rwa [add_block] at this | exact this) GW307.out))) _).trans (((cell_far (p := ⟨gb307, _, none⟩) (by first | exact Nat.ne_of_lt (Nat.lt_of_lt_of_le (by have := World.block_lt_of_cell? _ _ hw306_2; first | rwa [add_block] at this | exact this) GW307.out) | (rw [add_block]; exact Nat.ne_of_lt (Nat.lt_of_lt_of_le (by have := World.block_lt_of_cell? _ _ hw306_2; first | rwa [add_block] at this | exact this) GW307.out)) | (show (Addr.add _ _).block ≠ _; rw [add_block]; exact Nat.ne_of_lt (Nat.lt_of_lt_of_le (by have := World.block_lt_of_cell? _ _ hw306_2; first | rwa [add_block] at this | exact this) GW307.out)) | (dsimp only; exact Nat.ne_of_lt (Nat.lt_of_lt_of_le (by have := World.block_lt_of_cell? _ _ hw306_2; first | rwa [add_block] at this | exact this) GW307.out))) _).trans (((cell_far (p := ⟨gb307, _, none⟩) (by first | exact Nat.ne_of_lt (Nat.lt_of_lt_of_le (by have := World.block_lt_of_cell? _ _ hw306_2; first | rwa [add_block] at this | exact this) GW307.out) | (rw [add_block]; exact Nat.ne_of_lt (Nat.lt_of_lt_of_le (by have := World.block_lt_of_cell? _ _ hw306_2; first | rwa [add_block] at this | exact this) GW307.out)) | (show (Addr.add _ _).block ≠ _; rw [add_block]; exact Nat.ne_of_lt (Nat.lt_of_lt_of_le (by have := World.block_lt_of_cell? _ _ hw306_2; first | rwa [add_block] at this | exact this) GW307.out)) | (dsimp only; exact Nat.ne_of_lt (Nat.lt_of_lt_of_le (by have := World.block_lt_of_cell? _ _ hw306_2; first | rwa [add_block] at this | exact this) GW307.out))) _).trans (((cell_far (p := ⟨gb307, _, none⟩) (by first | exact Nat.ne_of_lt (Nat.lt_of_lt_of_le (by have := World.block_lt_of_cell? _ _ hw306_2; first | rwa [add_block] at this | exact this) GW307.out) | (rw [add_block]; exact Nat.ne_of_lt (Nat.lt_of_lt_of_le (by have := World.block_lt_of_cell? _ _ hw306_2; first | rwa [add_block] at this | exact this) GW307.out)) | (show (Addr.add _ _).block ≠ _; rw [add_block]; exact Nat.ne_of_lt (Nat.lt_of_lt_of_le (by have := World.block_lt_of_cell? _ _ hw306_2; first | rwa [add_block] at this | exact this) GW307.out)) | (dsimp only; exact Nat.ne_of_lt (Nat.lt_of_lt_of_le (by have := World.block_lt_of_cell? _ _ hw306_2; first | rwa [add_block] at this | exact this) GW307.out))) _).trans (hHeld.2.2.2.2.1)))))))), ((cell_far (p := ⟨gb307, _, none⟩) (by first | exact Nat.ne_of_lt (Nat.lt_of_lt_of_le (by have := World.block_lt_of_cell? _ _ hw306_3; first | rwa [add_block] at this | exact this) GW307.out) | (rw [add_block]; exact Nat.ne_of_lt (Nat.lt_of_lt_of_le (by have := World.block_lt_of_cell? _ _ hw306_3; first | rwa [add_block] at this | exact this) GW307.out)) | (show (Addr.add _ _).block ≠ _; rw [add_block]; exact Nat.ne_of_lt (Nat.lt_of_lt_of_le (by have := World.block_lt_of_cell? _ _ hw306_3; first | rwa [add_block] at this | exact this) GW307.out)) | (dsimp only; exact Nat.ne_of_lt (Nat.lt_of_lt_of_le (by have := World.block_lt_of_cell? _ _ hw306_3; first | rwa [add_block] at this | exact this) GW307.out))) _).trans (((cell_far (p := ⟨gb307, _, none⟩) (by first | exact Nat.ne_of_lt (Nat.lt_of_lt_of_le (by have := World.block_lt_of_cell? _ _ hw306_3; first | rwa [add_block] at this | exact this) GW307.out) | (rw [add_block]; exact Nat.ne_of_lt (Nat.lt_of_lt_of_le (by have := World.block_lt_of_cell? _ _ hw306_3; first | rwa [add_block] at this | exact this) GW307.out)) | (show (Addr.add _ _).block ≠ _; rw [add_block]; exact Nat.ne_of_lt (Nat.lt_of_lt_of_le (by have := World.block_lt_of_cell? _ _ hw306_3; first | rwa [add_block] at this | exact this) GW307.out)) | (dsimp only; exact Nat.ne_of_lt (Nat.lt_of_lt_of_le (by have := World.block_lt_of_cell? _ _ hw306_3; first | rwa [add_block] at this | exact this) GW307.out))) _).trans (((cell_far (p := ⟨gb307, _, none⟩) (by first | exact Nat.ne_of_lt (Nat.lt_of_lt_of_le (by have := World.block_lt_of_cell? _ _ hw306_3; first | rwa [add_block] at this | exact this) GW307.out) | (rw [add_block]; exact Nat.ne_of_lt (Nat.lt_of_lt_of_le (by have := World.block_lt_of_cell? _ _ hw306_3; first | rwa [add_block] at this | exact this) GW307.out)) | (show (Addr.add _ _).block ≠ _; rw [add_block]; exact Nat.ne_of_lt (Nat.lt_of_lt_of_le (by have := World.block_lt_of_cell? _ _ hw306_3; first | rwa [add_block] at this | exact this) GW307.out)) | (dsimp only; exact Nat.ne_of_lt (Nat.lt_of_lt_of_le (by have := World.block_lt_of_cell? _ _ hw306_3; first | rwa [add_block] at this | exact this) GW307.out))) _).trans (((cell_far (p := ⟨gb307, _, none⟩) (by first | exact Nat.ne_of_lt (Nat.lt_of_lt_of_le (by have := World.block_lt_of_cell? _ _ hw306_3; first | rwa [add_block] at this | exact this) GW307.out) | (rw [add_block]; exact Nat.ne_of_lt (Nat.lt_of_lt_of_le (by have := World.block_lt_of_cell? _ _ hw306_3; first | rwa [add_block] at this | exact this) GW307.out)) | (show (Addr.add _ _).block ≠ _; rw [add_block]; exact Nat.ne_of_lt (Nat.lt_of_lt_of_le (by have := World.block_lt_of_cell? _ _ hw306_3; first | rwa [add_block] at this | exact this) GW307.out)) | (dsimp only; exact Nat.ne_of_lt (Nat.lt_of_lt_of_le (by have := World.block_lt_of_cell? _ _ hw306_3; first | rwa [add_block] at this | exact this) GW307.out))) _).trans (hHeld.2.2.2.2.2))))))))⟩ (fun hHeld => ?_)
                                  clear hK K
                                  refine done_ (done_of HT_.out (by kernel_rfl)) ?_
                                  have hnb54 := NB307_297.out
                                  have hnc54 := NB297_307.out
                                  have hnb55 := NB307_300.out
                                  have hnc55 := NB300_307.out
                                  have hcz56_0 : w49.cell? ⟨gb307, 0, none⟩ = some (.int .u8 0) := (blk_cell BK307.out 0).trans rfl
                                  have hcz56_1 : w49.cell? ⟨gb307, 1, none⟩ = some (.int .i64 0) := (blk_cell BK307.out 1).trans rfl
                                  have hcz56_2 : w49.cell? ⟨gb307, 2, none⟩ = some (.int .i64 0) := (blk_cell BK307.out 2).trans rfl
                                  have hcz56_3 : w49.cell? ⟨gb307, 3, none⟩ = some (.int .i64 0) := (blk_cell BK307.out 3).trans rfl
                                  have hfz56_0 := blk_frozen BK307.out 0
                                  have hfz56_1 := blk_frozen BK307.out 1
                                  have hfz56_2 := blk_frozen BK307.out 2
                                  have hfz56_3 := blk_frozen BK307.out 3
                                  have hnb57 := NB300_297.out
                                  have hnc57 := NB297_300.out
                                  have hcz58_0 : w49.cell? ⟨gb300, 0, none⟩ = some (.int .u8 ((rd_T47 l0_0 x5_1).f0)) := (blk_cell BK300.out 0).trans rfl
                                  have hcz58_1 : w49.cell? ⟨gb300, 1, none⟩ = some (.int .i64 ((rd_T47 l0_0 x5_1).f1)) := (blk_cell BK300.out 1).trans rfl
                                  have hcz58_2 : w49.cell? ⟨gb300, 2, none⟩ = some (.int .i64 ((rd_T47 l0_0 x5_1).f2)) := (blk_cell BK300.out 2).trans rfl
                                  have hcz58_3 : w49.cell? ⟨gb300, 3, none⟩ = some (.int .i64 ((rd_T47 l0_0 x5_1).f3)) := (blk_cell BK300.out 3).trans rfl
                                  have hfz58_0 := blk_frozen BK300.out 0
                                  have hfz58_1 := blk_frozen BK300.out 1
                                  have hfz58_2 := blk_frozen BK300.out 2
                                  have hfz58_3 := blk_frozen BK300.out 3
                                  try go_wp2
                                  go_roundg k3
                                  case measure => have := HK1.out; have := HJ9.out; have := HK3.out; omega
                                  case rel => exact ⟨(x9_3), (wrap64 (x10_3 + 1)), (by first | rfl | (simp; done) | (simp [*]; done)), (by first | rfl | (simp; done) | (simp [*]; done)), H', ⟨by have := HK1.out; have := HJ9.out; have := HK3.out; omega⟩, ⟨by (with_reducible repeat (first | apply Kd.R_alloc | apply Kd.R_drewN | apply Kd.R_drew)); exact Kd.R_mono (Kd.R_far (p := ⟨gb307, 3, none⟩) (Kd.R_far (p := ⟨gb307, 2, none⟩) (Kd.R_far (p := ⟨gb307, 1, none⟩) (Kd.R_far (p := ⟨gb307, 0, none⟩) (Kd.R_types HO_7.out BK307.out (by decide)) (fun _ hk => hk.2) (.int .u8 ((rd_T47 l0_0 (rd t301 x10_3)).f0))) (fun _ hk => hk.2) (.int .i64 ((rd_T47 l0_0 (rd t301 x10_3)).f1))) (fun _ hk => hk.2) (.int .i64 ((rd_T47 l0_0 (rd t301 x10_3)).f2))) (fun _ hk => hk.2) (.int .i64 ((rd_T47 l0_0 (rd t301 x10_3)).f3))) (fun _ hk => trivial)⟩, ⟨by (with_reducible repeat (first | refine blk_drewN ?_ _ | refine blk_drew ?_ | refine blk_alloc ?_ _)); refine blk_far ?_ NB297_307.out _; (with_reducible repeat (first | refine blk_drewN ?_ _ | refine blk_drew ?_ | refine blk_alloc ?_ _)); refine blk_far ?_ NB297_307.out _; (with_reducible repeat (first | refine blk_drewN ?_ _ | refine blk_drew ?_ | refine blk_alloc ?_ _)); refine blk_far ?_ NB297_307.out _; (with_reducible repeat (first | refine blk_drewN ?_ _ | refine blk_drew ?_ | refine blk_alloc ?_ _)); refine blk_far ?_ NB297_307.out _; (with_reducible repeat (first | refine blk_drewN ?_ _ | refine blk_drew ?_ | refine blk_alloc ?_ _)); exact BK297.out⟩, ⟨by (with_reducible repeat (first | refine blk_drewN ?_ _ | refine blk_drew ?_ | refine blk_alloc ?_ _)); refine blk_far ?_ NB300_307.out _; (with_reducible repeat (first | refine blk_drewN ?_ _ | refine blk_drew ?_ | refine blk_alloc ?_ _)); refine blk_far ?_ NB300_307.out _; (with_reducible repeat (first | refine blk_drewN ?_ _ | refine blk_drew ?_ | refine blk_alloc ?_ _)); refine blk_far ?_ NB300_307.out _; (with_reducible repeat (first | refine blk_drewN ?_ _ | refine blk_drew ?_ | refine blk_alloc ?_ _)); refine blk_far ?_ NB300_307.out _; (with_reducible repeat (first | refine blk_drewN ?_ _ | refine blk_drew ?_ | refine blk_alloc ?_ _)); exact BK300.out⟩, ⟨by repeat (first | (with_reducible first | exact HB.out | apply below_alloc | apply pw_below_drewN | apply below_drew1 | refine below_set ?_ GE297.out | refine below_set ?_ GE300.out | refine below_set ?_ GE307.out) | exact HB.out)⟩⟩
                              · rw [if_neg c33] at H
                                have c33b0 : (((rd_T47 l0_0 (rd t301 x10_3)).f1) == ((rd_T47 l0_0 (rd t301 x10_3)).f2)) = false := beq_eq_false_iff_ne.mpr c33
                                have c33b1 : (((rd_T47 l0_0 (rd t301 x10_3)).f1) != ((rd_T47 l0_0 (rd t301 x10_3)).f2)) = true := bne_iff_ne.mpr c33
                                by_cases c59 : ((rd_T47 l0_0 (rd t301 x10_3)).f1) < x9_3
                                · rw [if_pos c59] at H
                                  have c59b0 : decide (((rd_T47 l0_0 (rd t301 x10_3)).f1) < x9_3) = true := decide_eq_true c59
                                  clear c59
                                  obtain rfl := Option.some.inj H
                                  obtain ⟨Ao60, co60, eo60⟩ := Kd.R_slice HO_7.out
                                  subst eo60
                                  try go_wp2
                                  have n0_ := Aside0.mk (Kd.R_drew HO_7.out)
                                  have n1_ := Aside0.mk (blk_drew BK297.out)
                                  have n2_ := Aside0.mk (blk_drew BK300.out)
                                  have n3_ := Aside0.mk (below_drew1 HB.out)
                                  clear HO_7
                                  clear BK297
                                  clear BK300
                                  clear HB
                                  have HO_7 := n0_
                                  have BK297 := n1_
                                  have BK300 := n2_
                                  have HB := n3_
                                  clear n0_ n1_ n2_ n3_
                                  have p305 : 0 ≤ (x10_3 : Int) := of_decide_eq_true (by first | (with_reducible assumption) | assumption)
                                  have q305 : x10_3 < (t301.length : Int) := of_decide_eq_true (by first | (with_reducible assumption) | assumption)
                                  obtain ⟨ad305, e305, hx305_0⟩ := Kd.at_int (Kd.R_reads' HO_7.out).2.2 x10_3 p305 q305
                                  cases e305
                                  replace p305 := eq_true p305
                                  replace q305 := eq_true q305
                                  have p306 : 0 ≤ ((rd t301 x10_3) : Int) := of_decide_eq_true (by first | (with_reducible assumption) | assumption)
                                  have q306 : (rd t301 x10_3) < (l0_0.length : Int) := of_decide_eq_true (by first | (with_reducible assumption) | assumption)
                                  obtain ⟨ad306, e306, hx306_0, hx306_1, hx306_2, hx306_3⟩ := at_T47 HR0_0.out (rd t301 x10_3) p306 q306
                                  have hw306_3 := hx306_3
                                  have hw306_2 := hx306_2
                                  have hw306_1 := hx306_1
                                  have hw306_0 := hx306_0
                                  obtain rfl : ad299 = ad306 := (by injection e306)
                                  replace hx306_0 := (HB.out.cell (World.block_lt_of_cell? w _ hx306_0)).trans hx306_0
                                  replace hx306_1 := (HB.out.cell (World.block_lt_of_cell? w _ hx306_1)).trans hx306_1
                                  replace hx306_2 := (HB.out.cell (World.block_lt_of_cell? w _ hx306_2)).trans hx306_2
                                  replace hx306_3 := (HB.out.cell (World.block_lt_of_cell? w _ hx306_3)).trans hx306_3
                                  replace p306 := eq_true p306
                                  replace q306 := eq_true q306
                                  refine start_ (n := 10) (S := fun w' => w'.cell? ⟨gb297, 0, none⟩ = some (.slice (some ad299) l0_0.length c0_0) ∧ w'.cell? (ad305.add (x10_3).toNat) = some (.int .i64 (rd t301 x10_3)) ∧ w'.cell? (ad299.add (((rd t301 x10_3)).toNat * 4)) = some (.int .u8 ((rd_T47 l0_0 (rd t301 x10_3)).f0)) ∧ w'.cell? ⟨(ad299.add (((rd t301 x10_3)).toNat * 4)).block, (ad299.add (((rd t301 x10_3)).toNat * 4)).off + 1, none⟩ = some (.int .i64 ((rd_T47 l0_0 (rd t301 x10_3)).f1)) ∧ w'.cell? ⟨(ad299.add (((rd t301 x10_3)).toNat * 4)).block, (ad299.add (((rd t301 x10_3)).toNat * 4)).off + 2, none⟩ = some (.int .i64 ((rd_T47 l0_0 (rd t301 x10_3)).f2)) ∧ w'.cell? ⟨(ad299.add (((rd t301 x10_3)).toNat * 4)).block, (ad299.add (((rd t301 x10_3)).toNat * 4)).off + 3, none⟩ = some (.int .i64 ((rd_T47 l0_0 (rd t301 x10_3)).f3))) (ds := []) #[false, false, false, false, false, false, false, false, false, false] (by kernel_rfl) rfl rfl ⟨(blk_cell BK297.out 0).trans rfl, hx305_0, ((HB.out.cell (World.block_lt_of_cell? w _ hw306_0)).trans hw306_0), ((HB.out.cell (World.block_lt_of_cell? w _ hw306_1)).trans hw306_1), ((HB.out.cell (World.block_lt_of_cell? w _ hw306_2)).trans hw306_2), ((HB.out.cell (World.block_lt_of_cell? w _ hw306_3)).trans hw306_3)⟩ (fun hHeld => ?_); refine with_tabW monikerref4_Valid.tab14 monikerref4_Valid.bits14 (fun HT_ HW_ => ?_)
                                  generalize wr.drew = w61 at HO_7 BK297 BK300 HB hx305_0 hx306_0 hx306_1 hx306_2 hx306_3 hHeld ⊢
                                  refine pure_ (i := 0) (N := some 57) (v := ?_) (a' := ?_) #[true, false, false, false, false, false, false, false, false, false] rfl rfl (any_of HT_.out (by kernel_rfl)) (fun _ _ _ h => h) (Or.inl ⟨by rfl, ?_⟩) ?_ ?_
                                  rotate_left
                                  · intro w'
                                    go_simp
                                    with_reducible rfl
                                  rotate_left
                                  · simp only [Act.put, List.setIfInBounds_toArray, List.set_cons_zero, List.set_cons_succ, i64_w, i32_w]
                                    rfl
                                  refine pure_ (i := 2) (N := some 59) (v := ?_) (a' := ?_) #[true, false, true, false, false, false, false, false, false, false] rfl rfl (any_of HT_.out (by kernel_rfl)) (fun _ _ _ h => h) (Or.inl ⟨by rfl, ?_⟩) ?_ ?_
                                  rotate_left
                                  · intro w'
                                    go_simp
                                    with_reducible rfl
                                  rotate_left
                                  · simp only [Act.put, List.setIfInBounds_toArray, List.set_cons_zero, List.set_cons_succ, i64_w, i32_w]
                                    rfl
                                  refine pure_ (i := 3) (N := some 60) (v := ?_) (a' := ?_) #[true, false, true, true, false, false, false, false, false, false] rfl rfl (any_of HT_.out (by kernel_rfl)) (fun _ _ _ h => h) (Or.inl ⟨by rfl, ?_⟩) ?_ ?_
                                  rotate_left
                                  · intro w'
                                    go_simp
                                    with_reducible rfl
                                  rotate_left
                                  · simp only [Act.put, List.setIfInBounds_toArray, List.set_cons_zero, List.set_cons_succ, i64_w, i32_w]
                                    rfl
                                  refine pure_ (i := 4) (N := some 61) (v := ?_) (a' := ?_) #[true, false, true, true, true, false, false, false, false, false] rfl rfl (any_of HT_.out (by kernel_rfl)) (fun _ _ _ h => h) (Or.inl ⟨by rfl, ?_⟩) ?_ ?_
                                  rotate_left
                                  · intro w'
                                    go_simp
                                    with_reducible rfl
                                  rotate_left
                                  · simp only [Act.put, List.setIfInBounds_toArray, List.set_cons_zero, List.set_cons_succ, i64_w, i32_w]
                                    rfl
                                  refine take_ (i := 1) (N := some 58) (v := ?_) (a' := ?_) #[true, true, true, true, true, false, false, false, false, false] rfl rfl (take_ofW HT_.out HW_.out (by kernel_rfl)) (fun _ _ _ h => h) (Or.inl ⟨by rfl, ?_⟩) hHeld ?_ ?_
                                  rotate_left
                                  · rintro w' ⟨s0, s1, s2, s3, s4, s5⟩
                                    go_simp
                                    with_reducible rfl
                                  rotate_left
                                  · simp only [Act.put, List.setIfInBounds_toArray, List.set_cons_zero, List.set_cons_succ, i64_w, i32_w]
                                    rfl
                                  refine take_ (i := 5) (N := some 62) (v := ?_) (a' := ?_) #[true, true, true, true, true, true, false, false, false, false] rfl rfl (take_ofW HT_.out HW_.out (by kernel_rfl)) (fun _ _ _ h => h) (Or.inl ⟨by rfl, ?_⟩) hHeld ?_ ?_
                                  rotate_left
                                  · rintro w' ⟨s0, s1, s2, s3, s4, s5⟩
                                    go_simp
                                    with_reducible rfl
                                  rotate_left
                                  · simp only [Act.put, List.setIfInBounds_toArray, List.set_cons_zero, List.set_cons_succ, i64_w, i32_w]
                                    rfl
                                  refine pure_ (i := 6) (N := some 63) (v := ?_) (a' := ?_) #[true, true, true, true, true, true, true, false, false, false] rfl rfl (any_of HT_.out (by kernel_rfl)) (fun _ _ _ h => h) (Or.inl ⟨by rfl, ?_⟩) ?_ ?_
                                  rotate_left
                                  · intro w'
                                    go_simp
                                    with_reducible rfl
                                  rotate_left
                                  · simp only [Act.put, List.setIfInBounds_toArray, List.set_cons_zero, List.set_cons_succ, i64_w, i32_w]
                                    rfl
                                  refine take_ (i := 7) (N := some 64) (v := ?_) (a' := ?_) #[true, true, true, true, true, true, true, true, false, false] rfl rfl (take_ofW HT_.out HW_.out (by kernel_rfl)) (fun _ _ _ h => h) (Or.inl ⟨by rfl, ?_⟩) hHeld ?_ ?_
                                  rotate_left
                                  · rintro w' ⟨s0, s1, s2, s3, s4, s5⟩
                                    go_simp
                                    with_reducible rfl
                                  rotate_left
                                  · simp only [Act.put, List.setIfInBounds_toArray, List.set_cons_zero, List.set_cons_succ, i64_w, i32_w]
                                    rfl
                                  refine one_ (i := 8) (N := some 11) #[true, true, true, true, true, true, true, true, true, false] rfl rfl (one_of HT_.out (by kernel_rfl)) (by decide) (fun K hK => ?_)
                                  refine box_step ?hg (N := 11) ?hd (cs := #[.int .u8 0, .int .i64 0, .int .i64 0, .int .i64 0]) (t := 47) ?hr ?_; (case hd => rfl); (case hg => rfl); (case hr => first | (go_simp; done) | (go_simp; rfl))
                                  intro gb307 hg w62 hbox hb
                                  have HS1_ := (hb.cell (World.block_lt_of_cell? _ _ (hHeld.2.1))).trans (hHeld.2.1)
                                  have n0_ := Aside0.mk (Kd.R_below (by (with_reducible repeat (first | apply Kd.R_alloc | apply Kd.R_drewN | apply Kd.R_drew)); exact HO_7.out) hb)
                                  have n1_ := Aside0.mk (blk_below (g := gb297) (o := .cells #[.slice (some ad299) l0_0.length c0_0] 25 (0, 0)) (by (with_reducible repeat (first | refine blk_drewN ?_ _ | refine blk_drew ?_ | refine blk_alloc ?_ _)); exact BK297.out) hb)
                                  have n2_ := Aside0.mk (blk_below (g := gb300) (o := .cells #[.int .u8 ((rd_T47 l0_0 x5_1).f0), .int .i64 ((rd_T47 l0_0 x5_1).f1), .int .i64 ((rd_T47 l0_0 x5_1).f2), .int .i64 ((rd_T47 l0_0 x5_1).f3)] 47 (0, 0)) (by (with_reducible repeat (first | refine blk_drewN ?_ _ | refine blk_drew ?_ | refine blk_alloc ?_ _)); exact BK300.out) hb)
                                  have n3_ := Aside0.mk (below_step (by repeat (first | (with_reducible first | exact HB.out | apply below_alloc | apply pw_below_drewN | apply below_drew1 | refine below_set ?_ GE297.out | refine below_set ?_ GE300.out) | exact HB.out)) hb)
                                  have n4_ := Aside0.mk (hbox)
                                  have n5_ := Aside0.mk ((by rw [hg]; exact (below_size (by repeat (first | (with_reducible first | exact HB.out | apply below_alloc | apply pw_below_drewN | apply below_drew1 | refine below_set ?_ GE297.out | refine below_set ?_ GE300.out) | exact HB.out))) : w.heap.size ≤ gb307))
                                  have n6_ := Aside0.mk ((by rw [hg]; exact (below_size (by repeat (first | (with_reducible first | exact HB.out | apply below_alloc | apply pw_below_drewN | apply below_drew1 | refine below_set ?_ GE297.out | refine below_set ?_ GE300.out) | exact HB.out))) : w.heap.size ≤ gb307))
                                  have n7_ := Aside0.mk ((by rw [hg]; exact Nat.ne_of_lt (blk_lt (g := gb297) (o := .cells #[.slice (some ad299) l0_0.length c0_0] 25 (0, 0)) (by (with_reducible repeat (first | refine blk_drewN ?_ _ | refine blk_drew ?_ | refine blk_alloc ?_ _)); exact BK297.out)) : gb297 ≠ gb307))
                                  have n8_ := Aside0.mk ((by rw [hg]; exact Nat.ne_of_gt (blk_lt (g := gb297) (o := .cells #[.slice (some ad299) l0_0.length c0_0] 25 (0, 0)) (by (with_reducible repeat (first | refine blk_drewN ?_ _ | refine blk_drew ?_ | refine blk_alloc ?_ _)); exact BK297.out)) : gb307 ≠ gb297))
                                  have n9_ := Aside0.mk ((by rw [hg]; exact Nat.ne_of_lt (blk_lt (g := gb300) (o := .cells #[.int .u8 ((rd_T47 l0_0 x5_1).f0), .int .i64 ((rd_T47 l0_0 x5_1).f1), .int .i64 ((rd_T47 l0_0 x5_1).f2), .int .i64 ((rd_T47 l0_0 x5_1).f3)] 47 (0, 0)) (by (with_reducible repeat (first | refine blk_drewN ?_ _ | refine blk_drew ?_ | refine blk_alloc ?_ _)); exact BK300.out)) : gb300 ≠ gb307))
                                  have n10_ := Aside0.mk ((by rw [hg]; exact Nat.ne_of_gt (blk_lt (g := gb300) (o := .cells #[.int .u8 ((rd_T47 l0_0 x5_1).f0), .int .i64 ((rd_T47 l0_0 x5_1).f1), .int .i64 ((rd_T47 l0_0 x5_1).f2), .int .i64 ((rd_T47 l0_0 x5_1).f3)] 47 (0, 0)) (by (with_reducible repeat (first | refine blk_drewN ?_ _ | refine blk_drew ?_ | refine blk_alloc ?_ _)); exact BK300.out)) : gb307 ≠ gb300))
                                  clear HO_7
                                  clear BK297
                                  clear BK300
                                  clear HB
                                  have HO_7 := n0_
                                  have BK297 := n1_
                                  have BK300 := n2_
                                  have HB := n3_
                                  have BK307 := n4_
                                  have GW307 := n5_
                                  have GE307 := n6_
                                  have NB297_307 := n7_
                                  have NB307_297 := n8_
                                  have NB300_307 := n9_
                                  have NB307_300 := n10_
                                  clear n0_ n1_ n2_ n3_ n4_ n5_ n6_ n7_ n8_ n9_ n10_
                                  clear hb hbox hg
                                  refine hK.out _ _ ⟨(blk_cell BK297.out 0).trans rfl, HS1_, ((HB.out.cell (World.block_lt_of_cell? w _ hw306_0)).trans hw306_0), ((HB.out.cell (World.block_lt_of_cell? w _ hw306_1)).trans hw306_1), ((HB.out.cell (World.block_lt_of_cell? w _ hw306_2)).trans hw306_2), ((HB.out.cell (World.block_lt_of_cell? w _ hw306_3)).trans hw306_3)⟩ (fun hHeld => ?_)
                                  clear hK K
                                  refine norm_ (a' := ?_) ?_ ?_
                                  rotate_left
                                  · show Act.put _ (some 11) _ = _
                                    simp only [Act.put, List.setIfInBounds_toArray, List.set_cons_zero, List.set_cons_succ, i64_w, i32_w]
                                    rfl
                                  refine one_ (i := 9) (N := none) #[true, true, true, true, true, true, true, true, true, true] rfl rfl (one_of HT_.out (by kernel_rfl)) (by decide) (fun K hK => ?_)
                                  have hs63 : w62.cell? ⟨gb307, 0, none⟩ = some (.int .u8 0) := (blk_cell BK307.out 0).trans rfl
                                  have hfs63 := blk_frozen BK307.out 0
                                  have hns63_0 := NB297_307.out
                                  have hns63_1 := NB300_307.out
                                  have hms63_0 := NB307_297.out
                                  have hms63_1 := NB307_300.out
                                  have hs64 : w62.cell? ⟨gb307, 1, none⟩ = some (.int .i64 0) := (blk_cell BK307.out 1).trans rfl
                                  have hfs64 := blk_frozen BK307.out 1
                                  have hns64_0 := NB297_307.out
                                  have hns64_1 := NB300_307.out
                                  have hms64_0 := NB307_297.out
                                  have hms64_1 := NB307_300.out
                                  have hs65 : w62.cell? ⟨gb307, 2, none⟩ = some (.int .i64 0) := (blk_cell BK307.out 2).trans rfl
                                  have hfs65 := blk_frozen BK307.out 2
                                  have hns65_0 := NB297_307.out
                                  have hns65_1 := NB300_307.out
                                  have hms65_0 := NB307_297.out
                                  have hms65_1 := NB307_300.out
                                  have hs66 : w62.cell? ⟨gb307, 3, none⟩ = some (.int .i64 0) := (blk_cell BK307.out 3).trans rfl
                                  have hfs66 := blk_frozen BK307.out 3
                                  have hns66_0 := NB297_307.out
                                  have hns66_1 := NB300_307.out
                                  have hms66_0 := NB307_297.out
                                  have hms66_1 := NB307_300.out
                                  refine skip_ (w1 := ?_) (by rfl) rfl ?_ ?_
                                  rotate_left
                                  · go_simp
                                    rfl
                                  refine hK.out _ _ ⟨((cell_far (p := ⟨gb307, _, none⟩) NB297_307.out _).trans (((cell_far (p := ⟨gb307, _, none⟩) NB297_307.out _).trans (((cell_far (p := ⟨gb307, _, none⟩) NB297_307.out _).trans (((cell_far (p := ⟨gb307, _, none⟩) NB297_307.out _).trans (hHeld.1)))))))), ((cell_far (p := ⟨gb307, _, none⟩) (by first | exact Kd.own_blk (Kd.R_ne HO_7.out BK307.out (by decide)) | (rw [add_block]; exact Kd.own_blk (Kd.R_ne HO_7.out BK307.out (by decide))) | (show (Addr.add _ _).block ≠ _; rw [add_block]; exact Kd.own_blk (Kd.R_ne HO_7.out BK307.out (by decide))) | (dsimp only; exact Kd.own_blk (Kd.R_ne HO_7.out BK307.out (by decide)))) _).trans (((cell_far (p := ⟨gb307, _, none⟩) (by first | exact Kd.own_blk (Kd.R_ne HO_7.out BK307.out (by decide)) | (rw [add_block]; exact Kd.own_blk (Kd.R_ne HO_7.out BK307.out (by decide))) | (show (Addr.add _ _).block ≠ _; rw [add_block]; exact Kd.own_blk (Kd.R_ne HO_7.out BK307.out (by decide))) | (dsimp only; exact Kd.own_blk (Kd.R_ne HO_7.out BK307.out (by decide)))) _).trans (((cell_far (p := ⟨gb307, _, none⟩) (by first | exact Kd.own_blk (Kd.R_ne HO_7.out BK307.out (by decide)) | (rw [add_block]; exact Kd.own_blk (Kd.R_ne HO_7.out BK307.out (by decide))) | (show (Addr.add _ _).block ≠ _; rw [add_block]; exact Kd.own_blk (Kd.R_ne HO_7.out BK307.out (by decide))) | (dsimp only; exact Kd.own_blk (Kd.R_ne HO_7.out BK307.out (by decide)))) _).trans (((cell_far (p := ⟨gb307, _, none⟩) (by first | exact Kd.own_blk (Kd.R_ne HO_7.out BK307.out (by decide)) | (rw [add_block]; exact Kd.own_blk (Kd.R_ne HO_7.out BK307.out (by decide))) | (show (Addr.add _ _).block ≠ _; rw [add_block]; exact Kd.own_blk (Kd.R_ne HO_7.out BK307.out (by decide))) | (dsimp only; exact Kd.own_blk (Kd.R_ne HO_7.out BK307.out (by decide)))) _).trans (hHeld.2.1)))))))), ((cell_far (p := ⟨gb307, _, none⟩) (by first | exact Nat.ne_of_lt (Nat.lt_of_lt_of_le (by have := World.block_lt_of_cell? _ _ hw306_0; first | rwa [add_block] at this | exact this) GW307.out) | (rw [add_block]; exact Nat.ne_of_lt (Nat.lt_of_lt_of_le (by have := World.block_lt_of_cell? _ _ hw306_0; first | rwa [add_block] at this | exact this) GW307.out)) | (show (Addr.add _ _).block ≠ _; rw [add_block]; exact Nat.ne_of_lt (Nat.lt_of_lt_of_le (by have := World.block_lt_of_cell? _ _ hw306_0; first | rwa [add_block] at this | exact this) GW307.out)) | (dsimp only; exact Nat.ne_of_lt (Nat.lt_of_lt_of_le (by have := World.block_lt_of_cell? _ _ hw306_0; first | rwa [add_block] at this | exact this) GW307.out))) _).trans (((cell_far (p := ⟨gb307, _, none⟩) (by first | exact Nat.ne_of_lt (Nat.lt_of_lt_of_le (by have := World.block_lt_of_cell? _ _ hw306_0; first | rwa [add_block] at this | exact this) GW307.out) | (rw [add_block]; exact Nat.ne_of_lt (Nat.lt_of_lt_of_le (by have := World.block_lt_of_cell? _ _ hw306_0; first | rwa [add_block] at this | exact this) GW307.out)) | (show (Addr.add _ _).block ≠ _; rw [add_block]; exact Nat.ne_of_lt (Nat.lt_of_lt_of_le (by have := World.block_lt_of_cell? _ _ hw306_0; first | rwa [add_block] at this | exact this) GW307.out)) | (dsimp only; exact Nat.ne_of_lt (Nat.lt_of_lt_of_le (by have := World.block_lt_of_cell? _ _ hw306_0; first | rwa [add_block] at this | exact this) GW307.out))) _).trans (((cell_far (p := ⟨gb307, _, none⟩) (by first | exact Nat.ne_of_lt (Nat.lt_of_lt_of_le (by have := World.block_lt_of_cell? _ _ hw306_0; first | rwa [add_block] at this | exact this) GW307.out) | (rw [add_block]; exact Nat.ne_of_lt (Nat.lt_of_lt_of_le (by have := World.block_lt_of_cell? _ _ hw306_0; first | rwa [add_block] at this | exact this) GW307.out)) | (show (Addr.add _ _).block ≠ _; rw [add_block]; exact Nat.ne_of_lt (Nat.lt_of_lt_of_le (by have := World.block_lt_of_cell? _ _ hw306_0; first | rwa [add_block] at this | exact this) GW307.out)) | (dsimp only; exact Nat.ne_of_lt (Nat.lt_of_lt_of_le (by have := World.block_lt_of_cell? _ _ hw306_0; first | rwa [add_block] at this | exact this) GW307.out))) _).trans (((cell_far (p := ⟨gb307, _, none⟩) (by first | exact Nat.ne_of_lt (Nat.lt_of_lt_of_le (by have := World.block_lt_of_cell? _ _ hw306_0; first | rwa [add_block] at this | exact this) GW307.out) | (rw [add_block]; exact Nat.ne_of_lt (Nat.lt_of_lt_of_le (by have := World.block_lt_of_cell? _ _ hw306_0; first | rwa [add_block] at this | exact this) GW307.out)) | (show (Addr.add _ _).block ≠ _; rw [add_block]; exact Nat.ne_of_lt (Nat.lt_of_lt_of_le (by have := World.block_lt_of_cell? _ _ hw306_0; first | rwa [add_block] at this | exact this) GW307.out)) | (dsimp only; exact Nat.ne_of_lt (Nat.lt_of_lt_of_le (by have := World.block_lt_of_cell? _ _ hw306_0; first | rwa [add_block] at this | exact this) GW307.out))) _).trans (hHeld.2.2.1)))))))), ((cell_far (p := ⟨gb307, _, none⟩) (by first | exact Nat.ne_of_lt (Nat.lt_of_lt_of_le (by have := World.block_lt_of_cell? _ _ hw306_1; first | rwa [add_block] at this | exact this) GW307.out) | (rw [add_block]; exact Nat.ne_of_lt (Nat.lt_of_lt_of_le (by have := World.block_lt_of_cell? _ _ hw306_1; first | rwa [add_block] at this | exact this) GW307.out)) | (show (Addr.add _ _).block ≠ _; rw [add_block]; exact Nat.ne_of_lt (Nat.lt_of_lt_of_le (by have := World.block_lt_of_cell? _ _ hw306_1; first | rwa [add_block] at this | exact this) GW307.out)) | (dsimp only; exact Nat.ne_of_lt (Nat.lt_of_lt_of_le (by have := World.block_lt_of_cell? _ _ hw306_1; first | rwa [add_block] at this | exact this) GW307.out))) _).trans (((cell_far (p := ⟨gb307, _, none⟩) (by first | exact Nat.ne_of_lt (Nat.lt_of_lt_of_le (by have := World.block_lt_of_cell? _ _ hw306_1; first | rwa [add_block] at this | exact this) GW307.out) | (rw [add_block]; exact Nat.ne_of_lt (Nat.lt_of_lt_of_le (by have := World.block_lt_of_cell? _ _ hw306_1; first | rwa [add_block] at this | exact this) GW307.out)) | (show (Addr.add _ _).block ≠ _; rw [add_block]; exact Nat.ne_of_lt (Nat.lt_of_lt_of_le (by have := World.block_lt_of_cell? _ _ hw306_1; first | rwa [add_block] at this | exact this) GW307.out)) | (dsimp only; exact Nat.ne_of_lt (Nat.lt_of_lt_of_le (by have := World.block_lt_of_cell? _ _ hw306_1; first | rwa [add_block] at this | exact this) GW307.out))) _).trans (((cell_far (p := ⟨gb307, _, none⟩) (by first | exact Nat.ne_of_lt (Nat.lt_of_lt_of_le (by have := World.block_lt_of_cell? _ _ hw306_1; first | rwa [add_block] at this | exact this) GW307.out) | (rw [add_block]; exact Nat.ne_of_lt (Nat.lt_of_lt_of_le (by have := World.block_lt_of_cell? _ _ hw306_1; first | rwa [add_block] at this | exact this) GW307.out)) | (show (Addr.add _ _).block ≠ _; rw [add_block]; exact Nat.ne_of_lt (Nat.lt_of_lt_of_le (by have := World.block_lt_of_cell? _ _ hw306_1; first | rwa [add_block] at this | exact this) GW307.out)) | (dsimp only; exact Nat.ne_of_lt (Nat.lt_of_lt_of_le (by have := World.block_lt_of_cell? _ _ hw306_1; first | rwa [add_block] at this | exact this) GW307.out))) _).trans (((cell_far (p := ⟨gb307, _, none⟩) (by first | exact Nat.ne_of_lt (Nat.lt_of_lt_of_le (by have := World.block_lt_of_cell? _ _ hw306_1; first | rwa [add_block] at this | exact this) GW307.out) | (rw [add_block]; exact Nat.ne_of_lt (Nat.lt_of_lt_of_le (by have := World.block_lt_of_cell? _ _ hw306_1; first | rwa [add_block] at this | exact this) GW307.out)) | (show (Addr.add _ _).block ≠ _; rw [add_block]; exact Nat.ne_of_lt (Nat.lt_of_lt_of_le (by have := World.block_lt_of_cell? _ _ hw306_1; first | rwa [add_block] at this | exact this) GW307.out)) | (dsimp only; exact Nat.ne_of_lt (Nat.lt_of_lt_of_le (by have := World.block_lt_of_cell? _ _ hw306_1; first | rwa [add_block] at this | exact this) GW307.out))) _).trans (hHeld.2.2.2.1)))))))), ((cell_far (p := ⟨gb307, _, none⟩) (by first | exact Nat.ne_of_lt (Nat.lt_of_lt_of_le (by have := World.block_lt_of_cell? _ _ hw306_2; first | rwa [add_block] at this | exact this) GW307.out) | (rw [add_block]; exact Nat.ne_of_lt (Nat.lt_of_lt_of_le (by have := World.block_lt_of_cell? _ _ hw306_2; first | rwa [add_block] at this | exact this) GW307.out)) | (show (Addr.add _ _).block ≠ _; rw [add_block]; exact Nat.ne_of_lt (Nat.lt_of_lt_of_le (by have := World.block_lt_of_cell? _ _ hw306_2; first | rwa [add_block] at this | exact this) GW307.out)) | (dsimp only; exact Nat.ne_of_lt (Nat.lt_of_lt_of_le (by have := World.block_lt_of_cell? _ _ hw306_2; first | rwa [add_block] at this | exact this) GW307.out))) _).trans (((cell_far (p := ⟨gb307, _, none⟩) (by first | exact Nat.ne_of_lt (Nat.lt_of_lt_of_le (by have := World.block_lt_of_cell? _ _ hw306_2; first | rwa [add_block] at this | exact this) GW307.out) | (rw [add_block]; exact Nat.ne_of_lt (Nat.lt_of_lt_of_le (by have := World.block_lt_of_cell? _ _ hw306_2; first | rwa [add_block] at this | exact this) GW307.out)) | (show (Addr.add _ _).block ≠ _; rw [add_block]; exact Nat.ne_of_lt (Nat.lt_of_lt_of_le (by have := World.block_lt_of_cell? _ _ hw306_2; first | rwa [add_block] at this | exact this) GW307.out)) | (dsimp only; exact Nat.ne_of_lt (Nat.lt_of_lt_of_le (by have := World.block_lt_of_cell? _ _ hw306_2; first | rwa [add_block] at this | exact this) GW307.out))) _).trans (((cell_far (p := ⟨gb307, _, none⟩) (by first | exact Nat.ne_of_lt (Nat.lt_of_lt_of_le (by have := World.block_lt_of_cell? _ _ hw306_2; first | rwa [add_block] at this | exact this) GW307.out) | (rw [add_block]; exact Nat.ne_of_lt (Nat.lt_of_lt_of_le (by have := World.block_lt_of_cell? _ _ hw306_2; first | rwa [add_block] at this | exact this) GW307.out)) | (show (Addr.add _ _).block ≠ _; rw [add_block]; exact Nat.ne_of_lt (Nat.lt_of_lt_of_le (by have := World.block_lt_of_cell? _ _ hw306_2; first | rwa [add_block] at this | exact this) GW307.out)) | (dsimp only; exact Nat.ne_of_lt (Nat.lt_of_lt_of_le (by have := World.block_lt_of_cell? _ _ hw306_2; first | rwa [add_block] at this | exact this) GW307.out))) _).trans (((cell_far (p := ⟨gb307, _, none⟩) (by first | exact Nat.ne_of_lt (Nat.lt_of_lt_of_le (by have := World.block_lt_of_cell? _ _ hw306_2; first | rwa [add_block] at this | exact this) GW307.out) | (rw [add_block]; exact Nat.ne_of_lt (Nat.lt_of_lt_of_le (by have := World.block_lt_of_cell? _ _ hw306_2; first | rwa [add_block] at this | exact this) GW307.out)) | (show (Addr.add _ _).block ≠ _; rw [add_block]; exact Nat.ne_of_lt (Nat.lt_of_lt_of_le (by have := World.block_lt_of_cell? _ _ hw306_2; first | rwa [add_block] at this | exact this) GW307.out)) | (dsimp only; exact Nat.ne_of_lt (Nat.lt_of_lt_of_le (by have := World.block_lt_of_cell? _ _ hw306_2; first | rwa [add_block] at this | exact this) GW307.out))) _).trans (hHeld.2.2.2.2.1)))))))), ((cell_far (p := ⟨gb307, _, none⟩) (by first | exact Nat.ne_of_lt (Nat.lt_of_lt_of_le (by have := World.block_lt_of_cell? _ _ hw306_3; first | rwa [add_block] at this | exact this) GW307.out) | (rw [add_block]; exact Nat.ne_of_lt (Nat.lt_of_lt_of_le (by have := World.block_lt_of_cell? _ _ hw306_3; first | rwa [add_block] at this | exact this) GW307.out)) | (show (Addr.add _ _).block ≠ _; rw [add_block]; exact Nat.ne_of_lt (Nat.lt_of_lt_of_le (by have := World.block_lt_of_cell? _ _ hw306_3; first | rwa [add_block] at this | exact this) GW307.out)) | (dsimp only; exact Nat.ne_of_lt (Nat.lt_of_lt_of_le (by have := World.block_lt_of_cell? _ _ hw306_3; first | rwa [add_block] at this | exact this) GW307.out))) _).trans (((cell_far (p := ⟨gb307, _, none⟩) (by first | exact Nat.ne_of_lt (Nat.lt_of_lt_of_le (by have := World.block_lt_of_cell? _ _ hw306_3; first | rwa [add_block] at this | exact this) GW307.out) | (rw [add_block]; exact Nat.ne_of_lt (Nat.lt_of_lt_of_le (by have := World.block_lt_of_cell? _ _ hw306_3; first | rwa [add_block] at this | exact this) GW307.out)) | (show (Addr.add _ _).block ≠ _; rw [add_block]; exact Nat.ne_of_lt (Nat.lt_of_lt_of_le (by have := World.block_lt_of_cell? _ _ hw306_3; first | rwa [add_block] at this | exact this) GW307.out)) | (dsimp only; exact Nat.ne_of_lt (Nat.lt_of_lt_of_le (by have := World.block_lt_of_cell? _ _ hw306_3; first | rwa [add_block] at this | exact this) GW307.out))) _).trans (((cell_far (p := ⟨gb307, _, none⟩) (by first | exact Nat.ne_of_lt (Nat.lt_of_lt_of_le (by have := World.block_lt_of_cell? _ _ hw306_3; first | rwa [add_block] at this | exact this) GW307.out) | (rw [add_block]; exact Nat.ne_of_lt (Nat.lt_of_lt_of_le (by have := World.block_lt_of_cell? _ _ hw306_3; first | rwa [add_block] at this | exact this) GW307.out)) | (show (Addr.add _ _).block ≠ _; rw [add_block]; exact Nat.ne_of_lt (Nat.lt_of_lt_of_le (by have := World.block_lt_of_cell? _ _ hw306_3; first | rwa [add_block] at this | exact this) GW307.out)) | (dsimp only; exact Nat.ne_of_lt (Nat.lt_of_lt_of_le (by have := World.block_lt_of_cell? _ _ hw306_3; first | rwa [add_block] at this | exact this) GW307.out))) _).trans (((cell_far (p := ⟨gb307, _, none⟩) (by first | exact Nat.ne_of_lt (Nat.lt_of_lt_of_le (by have := World.block_lt_of_cell? _ _ hw306_3; first | rwa [add_block] at this | exact this) GW307.out) | (rw [add_block]; exact Nat.ne_of_lt (Nat.lt_of_lt_of_le (by have := World.block_lt_of_cell? _ _ hw306_3; first | rwa [add_block] at this | exact this) GW307.out)) | (show (Addr.add _ _).block ≠ _; rw [add_block]; exact Nat.ne_of_lt (Nat.lt_of_lt_of_le (by have := World.block_lt_of_cell? _ _ hw306_3; first | rwa [add_block] at this | exact this) GW307.out)) | (dsimp only; exact Nat.ne_of_lt (Nat.lt_of_lt_of_le (by have := World.block_lt_of_cell? _ _ hw306_3; first | rwa [add_block] at this | exact this) GW307.out))) _).trans (hHeld.2.2.2.2.2))))))))⟩ (fun hHeld => ?_)
                                  clear hK K
                                  refine done_ (done_of HT_.out (by kernel_rfl)) ?_
                                  have hnb67 := NB307_297.out
                                  have hnc67 := NB297_307.out
                                  have hnb68 := NB307_300.out
                                  have hnc68 := NB300_307.out
                                  have hcz69_0 : w62.cell? ⟨gb307, 0, none⟩ = some (.int .u8 0) := (blk_cell BK307.out 0).trans rfl
                                  have hcz69_1 : w62.cell? ⟨gb307, 1, none⟩ = some (.int .i64 0) := (blk_cell BK307.out 1).trans rfl
                                  have hcz69_2 : w62.cell? ⟨gb307, 2, none⟩ = some (.int .i64 0) := (blk_cell BK307.out 2).trans rfl
                                  have hcz69_3 : w62.cell? ⟨gb307, 3, none⟩ = some (.int .i64 0) := (blk_cell BK307.out 3).trans rfl
                                  have hfz69_0 := blk_frozen BK307.out 0
                                  have hfz69_1 := blk_frozen BK307.out 1
                                  have hfz69_2 := blk_frozen BK307.out 2
                                  have hfz69_3 := blk_frozen BK307.out 3
                                  try go_wp2
                                  go_ret
                                  exact ⟨by first | rfl | (simp [errW_none, errW_some] <;> rfl) | (simp [*, errW_none, errW_some] <;> rfl), by repeat (first | (with_reducible first | exact HB.out | apply below_alloc | apply pw_below_drewN | apply below_drew1 | refine below_set ?_ GE297.out | refine below_set ?_ GE300.out | refine below_set ?_ GE307.out) | exact HB.out)⟩
                                · rw [if_neg c59] at H
                                  have c59b0 : decide (((rd_T47 l0_0 (rd t301 x10_3)).f1) < x9_3) = false := decide_eq_false c59
                                  clear c59
                                  by_cases c70 : ((rd_T47 l0_0 (rd t301 x10_3)).f2) > ((rd_T47 l0_0 x5_1).f2)
                                  · rw [if_pos c70] at H
                                    have c70b0 : decide (((rd_T47 l0_0 x5_1).f2) < ((rd_T47 l0_0 (rd t301 x10_3)).f2)) = true := decide_eq_true c70
                                    clear c70
                                    obtain rfl := Option.some.inj H
                                    obtain ⟨Ao71, co71, eo71⟩ := Kd.R_slice HO_7.out
                                    subst eo71
                                    try go_wp2
                                    have n0_ := Aside0.mk (Kd.R_drew HO_7.out)
                                    have n1_ := Aside0.mk (blk_drew BK297.out)
                                    have n2_ := Aside0.mk (blk_drew BK300.out)
                                    have n3_ := Aside0.mk (below_drew1 HB.out)
                                    clear HO_7
                                    clear BK297
                                    clear BK300
                                    clear HB
                                    have HO_7 := n0_
                                    have BK297 := n1_
                                    have BK300 := n2_
                                    have HB := n3_
                                    clear n0_ n1_ n2_ n3_
                                    have p305 : 0 ≤ (x10_3 : Int) := of_decide_eq_true (by first | (with_reducible assumption) | assumption)
                                    have q305 : x10_3 < (t301.length : Int) := of_decide_eq_true (by first | (with_reducible assumption) | assumption)
                                    obtain ⟨ad305, e305, hx305_0⟩ := Kd.at_int (Kd.R_reads' HO_7.out).2.2 x10_3 p305 q305
                                    cases e305
                                    replace p305 := eq_true p305
                                    replace q305 := eq_true q305
                                    have p306 : 0 ≤ ((rd t301 x10_3) : Int) := of_decide_eq_true (by first | (with_reducible assumption) | assumption)
                                    have q306 : (rd t301 x10_3) < (l0_0.length : Int) := of_decide_eq_true (by first | (with_reducible assumption) | assumption)
                                    obtain ⟨ad306, e306, hx306_0, hx306_1, hx306_2, hx306_3⟩ := at_T47 HR0_0.out (rd t301 x10_3) p306 q306
                                    have hw306_3 := hx306_3
                                    have hw306_2 := hx306_2
                                    have hw306_1 := hx306_1
                                    have hw306_0 := hx306_0
                                    obtain rfl : ad299 = ad306 := (by injection e306)
                                    replace hx306_0 := (HB.out.cell (World.block_lt_of_cell? w _ hx306_0)).trans hx306_0
                                    replace hx306_1 := (HB.out.cell (World.block_lt_of_cell? w _ hx306_1)).trans hx306_1
                                    replace hx306_2 := (HB.out.cell (World.block_lt_of_cell? w _ hx306_2)).trans hx306_2
                                    replace hx306_3 := (HB.out.cell (World.block_lt_of_cell? w _ hx306_3)).trans hx306_3
                                    replace p306 := eq_true p306
                                    replace q306 := eq_true q306
                                    refine start_ (n := 10) (S := fun w' => w'.cell? ⟨gb297, 0, none⟩ = some (.slice (some ad299) l0_0.length c0_0) ∧ w'.cell? (ad305.add (x10_3).toNat) = some (.int .i64 (rd t301 x10_3)) ∧ w'.cell? (ad299.add (((rd t301 x10_3)).toNat * 4)) = some (.int .u8 ((rd_T47 l0_0 (rd t301 x10_3)).f0)) ∧ w'.cell? ⟨(ad299.add (((rd t301 x10_3)).toNat * 4)).block, (ad299.add (((rd t301 x10_3)).toNat * 4)).off + 1, none⟩ = some (.int .i64 ((rd_T47 l0_0 (rd t301 x10_3)).f1)) ∧ w'.cell? ⟨(ad299.add (((rd t301 x10_3)).toNat * 4)).block, (ad299.add (((rd t301 x10_3)).toNat * 4)).off + 2, none⟩ = some (.int .i64 ((rd_T47 l0_0 (rd t301 x10_3)).f2)) ∧ w'.cell? ⟨(ad299.add (((rd t301 x10_3)).toNat * 4)).block, (ad299.add (((rd t301 x10_3)).toNat * 4)).off + 3, none⟩ = some (.int .i64 ((rd_T47 l0_0 (rd t301 x10_3)).f3))) (ds := []) #[false, false, false, false, false, false, false, false, false, false] (by kernel_rfl) rfl rfl ⟨(blk_cell BK297.out 0).trans rfl, hx305_0, ((HB.out.cell (World.block_lt_of_cell? w _ hw306_0)).trans hw306_0), ((HB.out.cell (World.block_lt_of_cell? w _ hw306_1)).trans hw306_1), ((HB.out.cell (World.block_lt_of_cell? w _ hw306_2)).trans hw306_2), ((HB.out.cell (World.block_lt_of_cell? w _ hw306_3)).trans hw306_3)⟩ (fun hHeld => ?_); refine with_tabW monikerref4_Valid.tab14 monikerref4_Valid.bits14 (fun HT_ HW_ => ?_)
                                    generalize wr.drew = w72 at HO_7 BK297 BK300 HB hx305_0 hx306_0 hx306_1 hx306_2 hx306_3 hHeld ⊢
                                    refine pure_ (i := 0) (N := some 57) (v := ?_) (a' := ?_) #[true, false, false, false, false, false, false, false, false, false] rfl rfl (any_of HT_.out (by kernel_rfl)) (fun _ _ _ h => h) (Or.inl ⟨by rfl, ?_⟩) ?_ ?_
                                    rotate_left
                                    · intro w'
                                      go_simp
                                      with_reducible rfl
                                    rotate_left
                                    · simp only [Act.put, List.setIfInBounds_toArray, List.set_cons_zero, List.set_cons_succ, i64_w, i32_w]
                                      rfl
                                    refine pure_ (i := 2) (N := some 59) (v := ?_) (a' := ?_) #[true, false, true, false, false, false, false, false, false, false] rfl rfl (any_of HT_.out (by kernel_rfl)) (fun _ _ _ h => h) (Or.inl ⟨by rfl, ?_⟩) ?_ ?_
                                    rotate_left
                                    · intro w'
                                      go_simp
                                      with_reducible rfl
                                    rotate_left
                                    · simp only [Act.put, List.setIfInBounds_toArray, List.set_cons_zero, List.set_cons_succ, i64_w, i32_w]
                                      rfl
                                    refine pure_ (i := 3) (N := some 60) (v := ?_) (a' := ?_) #[true, false, true, true, false, false, false, false, false, false] rfl rfl (any_of HT_.out (by kernel_rfl)) (fun _ _ _ h => h) (Or.inl ⟨by rfl, ?_⟩) ?_ ?_
                                    rotate_left
                                    · intro w'
                                      go_simp
                                      with_reducible rfl
                                    rotate_left
                                    · simp only [Act.put, List.setIfInBounds_toArray, List.set_cons_zero, List.set_cons_succ, i64_w, i32_w]
                                      rfl
                                    refine pure_ (i := 4) (N := some 61) (v := ?_) (a' := ?_) #[true, false, true, true, true, false, false, false, false, false] rfl rfl (any_of HT_.out (by kernel_rfl)) (fun _ _ _ h => h) (Or.inl ⟨by rfl, ?_⟩) ?_ ?_
                                    rotate_left
                                    · intro w'
                                      go_simp
                                      with_reducible rfl
                                    rotate_left
                                    · simp only [Act.put, List.setIfInBounds_toArray, List.set_cons_zero, List.set_cons_succ, i64_w, i32_w]
                                      rfl
                                    refine take_ (i := 1) (N := some 58) (v := ?_) (a' := ?_) #[true, true, true, true, true, false, false, false, false, false] rfl rfl (take_ofW HT_.out HW_.out (by kernel_rfl)) (fun _ _ _ h => h) (Or.inl ⟨by rfl, ?_⟩) hHeld ?_ ?_
                                    rotate_left
                                    · rintro w' ⟨s0, s1, s2, s3, s4, s5⟩
                                      go_simp
                                      with_reducible rfl
                                    rotate_left
                                    · simp only [Act.put, List.setIfInBounds_toArray, List.set_cons_zero, List.set_cons_succ, i64_w, i32_w]
                                      rfl
                                    refine take_ (i := 5) (N := some 62) (v := ?_) (a' := ?_) #[true, true, true, true, true, true, false, false, false, false] rfl rfl (take_ofW HT_.out HW_.out (by kernel_rfl)) (fun _ _ _ h => h) (Or.inl ⟨by rfl, ?_⟩) hHeld ?_ ?_
                                    rotate_left
                                    · rintro w' ⟨s0, s1, s2, s3, s4, s5⟩
                                      go_simp
                                      with_reducible rfl
                                    rotate_left
                                    · simp only [Act.put, List.setIfInBounds_toArray, List.set_cons_zero, List.set_cons_succ, i64_w, i32_w]
                                      rfl
                                    refine pure_ (i := 6) (N := some 63) (v := ?_) (a' := ?_) #[true, true, true, true, true, true, true, false, false, false] rfl rfl (any_of HT_.out (by kernel_rfl)) (fun _ _ _ h => h) (Or.inl ⟨by rfl, ?_⟩) ?_ ?_
                                    rotate_left
                                    · intro w'
                                      go_simp
                                      with_reducible rfl
                                    rotate_left
                                    · simp only [Act.put, List.setIfInBounds_toArray, List.set_cons_zero, List.set_cons_succ, i64_w, i32_w]
                                      rfl
                                    refine take_ (i := 7) (N := some 64) (v := ?_) (a' := ?_) #[true, true, true, true, true, true, true, true, false, false] rfl rfl (take_ofW HT_.out HW_.out (by kernel_rfl)) (fun _ _ _ h => h) (Or.inl ⟨by rfl, ?_⟩) hHeld ?_ ?_
                                    rotate_left
                                    · rintro w' ⟨s0, s1, s2, s3, s4, s5⟩
                                      go_simp
                                      with_reducible rfl
                                    rotate_left
                                    · simp only [Act.put, List.setIfInBounds_toArray, List.set_cons_zero, List.set_cons_succ, i64_w, i32_w]
                                      rfl
                                    refine one_ (i := 8) (N := some 11) #[true, true, true, true, true, true, true, true, true, false] rfl rfl (one_of HT_.out (by kernel_rfl)) (by decide) (fun K hK => ?_)
                                    refine box_step ?hg (N := 11) ?hd (cs := #[.int .u8 0, .int .i64 0, .int .i64 0, .int .i64 0]) (t := 47) ?hr ?_; (case hd => rfl); (case hg => rfl); (case hr => first | (go_simp; done) | (go_simp; rfl))
                                    intro gb307 hg w73 hbox hb
                                    have HS1_ := (hb.cell (World.block_lt_of_cell? _ _ (hHeld.2.1))).trans (hHeld.2.1)
                                    have n0_ := Aside0.mk (Kd.R_below (by (with_reducible repeat (first | apply Kd.R_alloc | apply Kd.R_drewN | apply Kd.R_drew)); exact HO_7.out) hb)
                                    have n1_ := Aside0.mk (blk_below (g := gb297) (o := .cells #[.slice (some ad299) l0_0.length c0_0] 25 (0, 0)) (by (with_reducible repeat (first | refine blk_drewN ?_ _ | refine blk_drew ?_ | refine blk_alloc ?_ _)); exact BK297.out) hb)
                                    have n2_ := Aside0.mk (blk_below (g := gb300) (o := .cells #[.int .u8 ((rd_T47 l0_0 x5_1).f0), .int .i64 ((rd_T47 l0_0 x5_1).f1), .int .i64 ((rd_T47 l0_0 x5_1).f2), .int .i64 ((rd_T47 l0_0 x5_1).f3)] 47 (0, 0)) (by (with_reducible repeat (first | refine blk_drewN ?_ _ | refine blk_drew ?_ | refine blk_alloc ?_ _)); exact BK300.out) hb)
                                    have n3_ := Aside0.mk (below_step (by repeat (first | (with_reducible first | exact HB.out | apply below_alloc | apply pw_below_drewN | apply below_drew1 | refine below_set ?_ GE297.out | refine below_set ?_ GE300.out) | exact HB.out)) hb)
                                    have n4_ := Aside0.mk (hbox)
                                    have n5_ := Aside0.mk ((by rw [hg]; exact (below_size (by repeat (first | (with_reducible first | exact HB.out | apply below_alloc | apply pw_below_drewN | apply below_drew1 | refine below_set ?_ GE297.out | refine below_set ?_ GE300.out) | exact HB.out))) : w.heap.size ≤ gb307))
                                    have n6_ := Aside0.mk ((by rw [hg]; exact (below_size (by repeat (first | (with_reducible first | exact HB.out | apply below_alloc | apply pw_below_drewN | apply below_drew1 | refine below_set ?_ GE297.out | refine below_set ?_ GE300.out) | exact HB.out))) : w.heap.size ≤ gb307))
                                    have n7_ := Aside0.mk ((by rw [hg]; exact Nat.ne_of_lt (blk_lt (g := gb297) (o := .cells #[.slice (some ad299) l0_0.length c0_0] 25 (0, 0)) (by (with_reducible repeat (first | refine blk_drewN ?_ _ | refine blk_drew ?_ | refine blk_alloc ?_ _)); exact BK297.out)) : gb297 ≠ gb307))
                                    have n8_ := Aside0.mk ((by rw [hg]; exact Nat.ne_of_gt (blk_lt (g := gb297) (o := .cells #[.slice (some ad299) l0_0.length c0_0] 25 (0, 0)) (by (with_reducible repeat (first | refine blk_drewN ?_ _ | refine blk_drew ?_ | refine blk_alloc ?_ _)); exact BK297.out)) : gb307 ≠ gb297))
                                    have n9_ := Aside0.mk ((by rw [hg]; exact Nat.ne_of_lt (blk_lt (g := gb300) (o := .cells #[.int .u8 ((rd_T47 l0_0 x5_1).f0), .int .i64 ((rd_T47 l0_0 x5_1).f1), .int .i64 ((rd_T47 l0_0 x5_1).f2), .int .i64 ((rd_T47 l0_0 x5_1).f3)] 47 (0, 0)) (by (with_reducible repeat (first | refine blk_drewN ?_ _ | refine blk_drew ?_ | refine blk_alloc ?_ _)); exact BK300.out)) : gb300 ≠ gb307))
                                    have n10_ := Aside0.mk ((by rw [hg]; exact Nat.ne_of_gt (blk_lt (g := gb300) (o := .cells #[.int .u8 ((rd_T47 l0_0 x5_1).f0), .int .i64 ((rd_T47 l0_0 x5_1).f1), .int .i64 ((rd_T47 l0_0 x5_1).f2), .int .i64 ((rd_T47 l0_0 x5_1).f3)] 47 (0, 0)) (by (with_reducible repeat (first | refine blk_drewN ?_ _ | refine blk_drew ?_ | refine blk_alloc ?_ _)); exact BK300.out)) : gb307 ≠ gb300))
                                    clear HO_7
                                    clear BK297
                                    clear BK300
                                    clear HB
                                    have HO_7 := n0_
                                    have BK297 := n1_
                                    have BK300 := n2_
                                    have HB := n3_
                                    have BK307 := n4_
                                    have GW307 := n5_
                                    have GE307 := n6_
                                    have NB297_307 := n7_
                                    have NB307_297 := n8_
                                    have NB300_307 := n9_
                                    have NB307_300 := n10_
                                    clear n0_ n1_ n2_ n3_ n4_ n5_ n6_ n7_ n8_ n9_ n10_
                                    clear hb hbox hg
                                    refine hK.out _ _ ⟨(blk_cell BK297.out 0).trans rfl, HS1_, ((HB.out.cell (World.block_lt_of_cell? w _ hw306_0)).trans hw306_0), ((HB.out.cell (World.block_lt_of_cell? w _ hw306_1)).trans hw306_1), ((HB.out.cell (World.block_lt_of_cell? w _ hw306_2)).trans hw306_2), ((HB.out.cell (World.block_lt_of_cell? w _ hw306_3)).trans hw306_3)⟩ (fun hHeld => ?_)
                                    clear hK K
                                    refine norm_ (a' := ?_) ?_ ?_
                                    rotate_left
                                    · show Act.put _ (some 11) _ = _
                                      simp only [Act.put, List.setIfInBounds_toArray, List.set_cons_zero, List.set_cons_succ, i64_w, i32_w]
                                      rfl
                                    refine one_ (i := 9) (N := none) #[true, true, true, true, true, true, true, true, true, true] rfl rfl (one_of HT_.out (by kernel_rfl)) (by decide) (fun K hK => ?_)
                                    have hs74 : w73.cell? ⟨gb307, 0, none⟩ = some (.int .u8 0) := (blk_cell BK307.out 0).trans rfl
                                    have hfs74 := blk_frozen BK307.out 0
                                    have hns74_0 := NB297_307.out
                                    have hns74_1 := NB300_307.out
                                    have hms74_0 := NB307_297.out
                                    have hms74_1 := NB307_300.out
                                    have hs75 : w73.cell? ⟨gb307, 1, none⟩ = some (.int .i64 0) := (blk_cell BK307.out 1).trans rfl
                                    have hfs75 := blk_frozen BK307.out 1
                                    have hns75_0 := NB297_307.out
                                    have hns75_1 := NB300_307.out
                                    have hms75_0 := NB307_297.out
                                    have hms75_1 := NB307_300.out
                                    have hs76 : w73.cell? ⟨gb307, 2, none⟩ = some (.int .i64 0) := (blk_cell BK307.out 2).trans rfl
                                    have hfs76 := blk_frozen BK307.out 2
                                    have hns76_0 := NB297_307.out
                                    have hns76_1 := NB300_307.out
                                    have hms76_0 := NB307_297.out
                                    have hms76_1 := NB307_300.out
                                    have hs77 : w73.cell? ⟨gb307, 3, none⟩ = some (.int .i64 0) := (blk_cell BK307.out 3).trans rfl
                                    have hfs77 := blk_frozen BK307.out 3
                                    have hns77_0 := NB297_307.out
                                    have hns77_1 := NB300_307.out
                                    have hms77_0 := NB307_297.out
                                    have hms77_1 := NB307_300.out
                                    refine skip_ (w1 := ?_) (by rfl) rfl ?_ ?_
                                    rotate_left
                                    · go_simp
                                      rfl
                                    refine hK.out _ _ ⟨((cell_far (p := ⟨gb307, _, none⟩) NB297_307.out _).trans (((cell_far (p := ⟨gb307, _, none⟩) NB297_307.out _).trans (((cell_far (p := ⟨gb307, _, none⟩) NB297_307.out _).trans (((cell_far (p := ⟨gb307, _, none⟩) NB297_307.out _).trans (hHeld.1)))))))), ((cell_far (p := ⟨gb307, _, none⟩) (by first | exact Kd.own_blk (Kd.R_ne HO_7.out BK307.out (by decide)) | (rw [add_block]; exact Kd.own_blk (Kd.R_ne HO_7.out BK307.out (by decide))) | (show (Addr.add _ _).block ≠ _; rw [add_block]; exact Kd.own_blk (Kd.R_ne HO_7.out BK307.out (by decide))) | (dsimp only; exact Kd.own_blk (Kd.R_ne HO_7.out BK307.out (by decide)))) _).trans (((cell_far (p := ⟨gb307, _, none⟩) (by first | exact Kd.own_blk (Kd.R_ne HO_7.out BK307.out (by decide)) | (rw [add_block]; exact Kd.own_blk (Kd.R_ne HO_7.out BK307.out (by decide))) | (show (Addr.add _ _).block ≠ _; rw [add_block]; exact Kd.own_blk (Kd.R_ne HO_7.out BK307.out (by decide))) | (dsimp only; exact Kd.own_blk (Kd.R_ne HO_7.out BK307.out (by decide)))) _).trans (((cell_far (p := ⟨gb307, _, none⟩) (by first | exact Kd.own_blk (Kd.R_ne HO_7.out BK307.out (by decide)) | (rw [add_block]; exact Kd.own_blk (Kd.R_ne HO_7.out BK307.out (by decide))) | (show (Addr.add _ _).block ≠ _; rw [add_block]; exact Kd.own_blk (Kd.R_ne HO_7.out BK307.out (by decide))) | (dsimp only; exact Kd.own_blk (Kd.R_ne HO_7.out BK307.out (by decide)))) _).trans (((cell_far (p := ⟨gb307, _, none⟩) (by first | exact Kd.own_blk (Kd.R_ne HO_7.out BK307.out (by decide)) | (rw [add_block]; exact Kd.own_blk (Kd.R_ne HO_7.out BK307.out (by decide))) | (show (Addr.add _ _).block ≠ _; rw [add_block]; exact Kd.own_blk (Kd.R_ne HO_7.out BK307.out (by decide))) | (dsimp only; exact Kd.own_blk (Kd.R_ne HO_7.out BK307.out (by decide)))) _).trans (hHeld.2.1)))))))), ((cell_far (p := ⟨gb307, _, none⟩) (by first | exact Nat.ne_of_lt (Nat.lt_of_lt_of_le (by have := World.block_lt_of_cell? _ _ hw306_0; first | rwa [add_block] at this | exact this) GW307.out) | (rw [add_block]; exact Nat.ne_of_lt (Nat.lt_of_lt_of_le (by have := World.block_lt_of_cell? _ _ hw306_0; first | rwa [add_block] at this | exact this) GW307.out)) | (show (Addr.add _ _).block ≠ _; rw [add_block]; exact Nat.ne_of_lt (Nat.lt_of_lt_of_le (by have := World.block_lt_of_cell? _ _ hw306_0; first | rwa [add_block] at this | exact this) GW307.out)) | (dsimp only; exact Nat.ne_of_lt (Nat.lt_of_lt_of_le (by have := World.block_lt_of_cell? _ _ hw306_0; first | rwa [add_block] at this | exact this) GW307.out))) _).trans (((cell_far (p := ⟨gb307, _, none⟩) (by first | exact Nat.ne_of_lt (Nat.lt_of_lt_of_le (by have := World.block_lt_of_cell? _ _ hw306_0; first | rwa [add_block] at this | exact this) GW307.out) | (rw [add_block]; exact Nat.ne_of_lt (Nat.lt_of_lt_of_le (by have := World.block_lt_of_cell? _ _ hw306_0; first | rwa [add_block] at this | exact this) GW307.out)) | (show (Addr.add _ _).block ≠ _; rw [add_block]; exact Nat.ne_of_lt (Nat.lt_of_lt_of_le (by have := World.block_lt_of_cell? _ _ hw306_0; first | rwa [add_block] at this | exact this) GW307.out)) | (dsimp only; exact Nat.ne_of_lt (Nat.lt_of_lt_of_le (by have := World.block_lt_of_cell? _ _ hw306_0; first | rwa [add_block] at this | exact this) GW307.out))) _).trans (((cell_far (p := ⟨gb307, _, none⟩) (by first | exact Nat.ne_of_lt (Nat.lt_of_lt_of_le (by have := World.block_lt_of_cell? _ _ hw306_0; first | rwa [add_block] at this | exact this) GW307.out) | (rw [add_block]; exact Nat.ne_of_lt (Nat.lt_of_lt_of_le (by have := World.block_lt_of_cell? _ _ hw306_0; first | rwa [add_block] at this | exact this) GW307.out)) | (show (Addr.add _ _).block ≠ _; rw [add_block]; exact Nat.ne_of_lt (Nat.lt_of_lt_of_le (by have := World.block_lt_of_cell? _ _ hw306_0; first | rwa [add_block] at this | exact this) GW307.out)) | (dsimp only; exact Nat.ne_of_lt (Nat.lt_of_lt_of_le (by have := World.block_lt_of_cell? _ _ hw306_0; first | rwa [add_block] at this | exact this) GW307.out))) _).trans (((cell_far (p := ⟨gb307, _, none⟩) (by first | exact Nat.ne_of_lt (Nat.lt_of_lt_of_le (by have := World.block_lt_of_cell? _ _ hw306_0; first | rwa [add_block] at this | exact this) GW307.out) | (rw [add_block]; exact Nat.ne_of_lt (Nat.lt_of_lt_of_le (by have := World.block_lt_of_cell? _ _ hw306_0; first | rwa [add_block] at this | exact this) GW307.out)) | (show (Addr.add _ _).block ≠ _; rw [add_block]; exact Nat.ne_of_lt (Nat.lt_of_lt_of_le (by have := World.block_lt_of_cell? _ _ hw306_0; first | rwa [add_block] at this | exact this) GW307.out)) | (dsimp only; exact Nat.ne_of_lt (Nat.lt_of_lt_of_le (by have := World.block_lt_of_cell? _ _ hw306_0; first | rwa [add_block] at this | exact this) GW307.out))) _).trans (hHeld.2.2.1)))))))), ((cell_far (p := ⟨gb307, _, none⟩) (by first | exact Nat.ne_of_lt (Nat.lt_of_lt_of_le (by have := World.block_lt_of_cell? _ _ hw306_1; first | rwa [add_block] at this | exact this) GW307.out) | (rw [add_block]; exact Nat.ne_of_lt (Nat.lt_of_lt_of_le (by have := World.block_lt_of_cell? _ _ hw306_1; first | rwa [add_block] at this | exact this) GW307.out)) | (show (Addr.add _ _).block ≠ _; rw [add_block]; exact Nat.ne_of_lt (Nat.lt_of_lt_of_le (by have := World.block_lt_of_cell? _ _ hw306_1; first | rwa [add_block] at this | exact this) GW307.out)) | (dsimp only; exact Nat.ne_of_lt (Nat.lt_of_lt_of_le (by have := World.block_lt_of_cell? _ _ hw306_1; first | rwa [add_block] at this | exact this) GW307.out))) _).trans (((cell_far (p := ⟨gb307, _, none⟩) (by first | exact Nat.ne_of_lt (Nat.lt_of_lt_of_le (by have := World.block_lt_of_cell? _ _ hw306_1; first | rwa [add_block] at this | exact this) GW307.out) | (rw [add_block]; exact Nat.ne_of_lt (Nat.lt_of_lt_of_le (by have := World.block_lt_of_cell? _ _ hw306_1; first | rwa [add_block] at this | exact this) GW307.out)) | (show (Addr.add _ _).block ≠ _; rw [add_block]; exact Nat.ne_of_lt (Nat.lt_of_lt_of_le (by have := World.block_lt_of_cell? _ _ hw306_1; first | rwa [add_block] at this | exact this) GW307.out)) | (dsimp only; exact Nat.ne_of_lt (Nat.lt_of_lt_of_le (by have := World.block_lt_of_cell? _ _ hw306_1; first | rwa [add_block] at this | exact this) GW307.out))) _).trans (((cell_far (p := ⟨gb307, _, none⟩) (by first | exact Nat.ne_of_lt (Nat.lt_of_lt_of_le (by have := World.block_lt_of_cell? _ _ hw306_1; first | rwa [add_block] at this | exact this) GW307.out) | (rw [add_block]; exact Nat.ne_of_lt (Nat.lt_of_lt_of_le (by have := World.block_lt_of_cell? _ _ hw306_1; first | rwa [add_block] at this | exact this) GW307.out)) | (show (Addr.add _ _).block ≠ _; rw [add_block]; exact Nat.ne_of_lt (Nat.lt_of_lt_of_le (by have := World.block_lt_of_cell? _ _ hw306_1; first | rwa [add_block] at this | exact this) GW307.out)) | (dsimp only; exact Nat.ne_of_lt (Nat.lt_of_lt_of_le (by have := World.block_lt_of_cell? _ _ hw306_1; first | rwa [add_block] at this | exact this) GW307.out))) _).trans (((cell_far (p := ⟨gb307, _, none⟩) (by first | exact Nat.ne_of_lt (Nat.lt_of_lt_of_le (by have := World.block_lt_of_cell? _ _ hw306_1; first | rwa [add_block] at this | exact this) GW307.out) | (rw [add_block]; exact Nat.ne_of_lt (Nat.lt_of_lt_of_le (by have := World.block_lt_of_cell? _ _ hw306_1; first | rwa [add_block] at this | exact this) GW307.out)) | (show (Addr.add _ _).block ≠ _; rw [add_block]; exact Nat.ne_of_lt (Nat.lt_of_lt_of_le (by have := World.block_lt_of_cell? _ _ hw306_1; first | rwa [add_block] at this | exact this) GW307.out)) | (dsimp only; exact Nat.ne_of_lt (Nat.lt_of_lt_of_le (by have := World.block_lt_of_cell? _ _ hw306_1; first | rwa [add_block] at this | exact this) GW307.out))) _).trans (hHeld.2.2.2.1)))))))), ((cell_far (p := ⟨gb307, _, none⟩) (by first | exact Nat.ne_of_lt (Nat.lt_of_lt_of_le (by have := World.block_lt_of_cell? _ _ hw306_2; first | rwa [add_block] at this | exact this) GW307.out) | (rw [add_block]; exact Nat.ne_of_lt (Nat.lt_of_lt_of_le (by have := World.block_lt_of_cell? _ _ hw306_2; first | rwa [add_block] at this | exact this) GW307.out)) | (show (Addr.add _ _).block ≠ _; rw [add_block]; exact Nat.ne_of_lt (Nat.lt_of_lt_of_le (by have := World.block_lt_of_cell? _ _ hw306_2; first | rwa [add_block] at this | exact this) GW307.out)) | (dsimp only; exact Nat.ne_of_lt (Nat.lt_of_lt_of_le (by have := World.block_lt_of_cell? _ _ hw306_2; first | rwa [add_block] at this | exact this) GW307.out))) _).trans (((cell_far (p := ⟨gb307, _, none⟩) (by first | exact Nat.ne_of_lt (Nat.lt_of_lt_of_le (by have := World.block_lt_of_cell? _ _ hw306_2; first | rwa [add_block] at this | exact this) GW307.out) | (rw [add_block]; exact Nat.ne_of_lt (Nat.lt_of_lt_of_le (by have := World.block_lt_of_cell? _ _ hw306_2; first | rwa [add_block] at this | exact this) GW307.out)) | (show (Addr.add _ _).block ≠ _; rw [add_block]; exact Nat.ne_of_lt (Nat.lt_of_lt_of_le (by have := World.block_lt_of_cell? _ _ hw306_2; first | rwa [add_block] at this | exact this) GW307.out)) | (dsimp only; exact Nat.ne_of_lt (Nat.lt_of_lt_of_le (by have := World.block_lt_of_cell? _ _ hw306_2; first | rwa [add_block] at this | exact this) GW307.out))) _).trans (((cell_far (p := ⟨gb307, _, none⟩) (by first | exact Nat.ne_of_lt (Nat.lt_of_lt_of_le (by have := World.block_lt_of_cell? _ _ hw306_2; first | rwa [add_block] at this | exact this) GW307.out) | (rw [add_block]; exact Nat.ne_of_lt (Nat.lt_of_lt_of_le (by have := World.block_lt_of_cell? _ _ hw306_2; first | rwa [add_block] at this | exact this) GW307.out)) | (show (Addr.add _ _).block ≠ _; rw [add_block]; exact Nat.ne_of_lt (Nat.lt_of_lt_of_le (by have := World.block_lt_of_cell? _ _ hw306_2; first | rwa [add_block] at this | exact this) GW307.out)) | (dsimp only; exact Nat.ne_of_lt (Nat.lt_of_lt_of_le (by have := World.block_lt_of_cell? _ _ hw306_2; first | rwa [add_block] at this | exact this) GW307.out))) _).trans (((cell_far (p := ⟨gb307, _, none⟩) (by first | exact Nat.ne_of_lt (Nat.lt_of_lt_of_le (by have := World.block_lt_of_cell? _ _ hw306_2; first | rwa [add_block] at this | exact this) GW307.out) | (rw [add_block]; exact Nat.ne_of_lt (Nat.lt_of_lt_of_le (by have := World.block_lt_of_cell? _ _ hw306_2; first | rwa [add_block] at this | exact this) GW307.out)) | (show (Addr.add _ _).block ≠ _; rw [add_block]; exact Nat.ne_of_lt (Nat.lt_of_lt_of_le (by have := World.block_lt_of_cell? _ _ hw306_2; first | rwa [add_block] at this | exact this) GW307.out)) | (dsimp only; exact Nat.ne_of_lt (Nat.lt_of_lt_of_le (by have := World.block_lt_of_cell? _ _ hw306_2; first | rwa [add_block] at this | exact this) GW307.out))) _).trans (hHeld.2.2.2.2.1)))))))), ((cell_far (p := ⟨gb307, _, none⟩) (by first | exact Nat.ne_of_lt (Nat.lt_of_lt_of_le (by have := World.block_lt_of_cell? _ _ hw306_3; first | rwa [add_block] at this | exact this) GW307.out) | (rw [add_block]; exact Nat.ne_of_lt (Nat.lt_of_lt_of_le (by have := World.block_lt_of_cell? _ _ hw306_3; first | rwa [add_block] at this | exact this) GW307.out)) | (show (Addr.add _ _).block ≠ _; rw [add_block]; exact Nat.ne_of_lt (Nat.lt_of_lt_of_le (by have := World.block_lt_of_cell? _ _ hw306_3; first | rwa [add_block] at this | exact this) GW307.out)) | (dsimp only; exact Nat.ne_of_lt (Nat.lt_of_lt_of_le (by have := World.block_lt_of_cell? _ _ hw306_3; first | rwa [add_block] at this | exact this) GW307.out))) _).trans (((cell_far (p := ⟨gb307, _, none⟩) (by first | exact Nat.ne_of_lt (Nat.lt_of_lt_of_le (by have := World.block_lt_of_cell? _ _ hw306_3; first | rwa [add_block] at this | exact this) GW307.out) | (rw [add_block]; exact Nat.ne_of_lt (Nat.lt_of_lt_of_le (by have := World.block_lt_of_cell? _ _ hw306_3; first | rwa [add_block] at this | exact this) GW307.out)) | (show (Addr.add _ _).block ≠ _; rw [add_block]; exact Nat.ne_of_lt (Nat.lt_of_lt_of_le (by have := World.block_lt_of_cell? _ _ hw306_3; first | rwa [add_block] at this | exact this) GW307.out)) | (dsimp only; exact Nat.ne_of_lt (Nat.lt_of_lt_of_le (by have := World.block_lt_of_cell? _ _ hw306_3; first | rwa [add_block] at this | exact this) GW307.out))) _).trans (((cell_far (p := ⟨gb307, _, none⟩) (by first | exact Nat.ne_of_lt (Nat.lt_of_lt_of_le (by have := World.block_lt_of_cell? _ _ hw306_3; first | rwa [add_block] at this | exact this) GW307.out) | (rw [add_block]; exact Nat.ne_of_lt (Nat.lt_of_lt_of_le (by have := World.block_lt_of_cell? _ _ hw306_3; first | rwa [add_block] at this | exact this) GW307.out)) | (show (Addr.add _ _).block ≠ _; rw [add_block]; exact Nat.ne_of_lt (Nat.lt_of_lt_of_le (by have := World.block_lt_of_cell? _ _ hw306_3; first | rwa [add_block] at this | exact this) GW307.out)) | (dsimp only; exact Nat.ne_of_lt (Nat.lt_of_lt_of_le (by have := World.block_lt_of_cell? _ _ hw306_3; first | rwa [add_block] at this | exact this) GW307.out))) _).trans (((cell_far (p := ⟨gb307, _, none⟩) (by first | exact Nat.ne_of_lt (Nat.lt_of_lt_of_le (by have := World.block_lt_of_cell? _ _ hw306_3; first | rwa [add_block] at this | exact this) GW307.out) | (rw [add_block]; exact Nat.ne_of_lt (Nat.lt_of_lt_of_le (by have := World.block_lt_of_cell? _ _ hw306_3; first | rwa [add_block] at this | exact this) GW307.out)) | (show (Addr.add _ _).block ≠ _; rw [add_block]; exact Nat.ne_of_lt (Nat.lt_of_lt_of_le (by have := World.block_lt_of_cell? _ _ hw306_3; first | rwa [add_block] at this | exact this) GW307.out)) | (dsimp only; exact Nat.ne_of_lt (Nat.lt_of_lt_of_le (by have := World.block_lt_of_cell? _ _ hw306_3; first | rwa [add_block] at this | exact this) GW307.out))) _).trans (hHeld.2.2.2.2.2))))))))⟩ (fun hHeld => ?_)
                                    clear hK K
                                    refine done_ (done_of HT_.out (by kernel_rfl)) ?_
                                    have hnb78 := NB307_297.out
                                    have hnc78 := NB297_307.out
                                    have hnb79 := NB307_300.out
                                    have hnc79 := NB300_307.out
                                    have hcz80_0 : w73.cell? ⟨gb307, 0, none⟩ = some (.int .u8 0) := (blk_cell BK307.out 0).trans rfl
                                    have hcz80_1 : w73.cell? ⟨gb307, 1, none⟩ = some (.int .i64 0) := (blk_cell BK307.out 1).trans rfl
                                    have hcz80_2 : w73.cell? ⟨gb307, 2, none⟩ = some (.int .i64 0) := (blk_cell BK307.out 2).trans rfl
                                    have hcz80_3 : w73.cell? ⟨gb307, 3, none⟩ = some (.int .i64 0) := (blk_cell BK307.out 3).trans rfl
                                    have hfz80_0 := blk_frozen BK307.out 0
                                    have hfz80_1 := blk_frozen BK307.out 1
                                    have hfz80_2 := blk_frozen BK307.out 2
                                    have hfz80_3 := blk_frozen BK307.out 3
                                    have hnb81 := NB300_297.out
                                    have hnc81 := NB297_300.out
                                    have hcz82_0 : w73.cell? ⟨gb300, 0, none⟩ = some (.int .u8 ((rd_T47 l0_0 x5_1).f0)) := (blk_cell BK300.out 0).trans rfl
                                    have hcz82_1 : w73.cell? ⟨gb300, 1, none⟩ = some (.int .i64 ((rd_T47 l0_0 x5_1).f1)) := (blk_cell BK300.out 1).trans rfl
                                    have hcz82_2 : w73.cell? ⟨gb300, 2, none⟩ = some (.int .i64 ((rd_T47 l0_0 x5_1).f2)) := (blk_cell BK300.out 2).trans rfl
                                    have hcz82_3 : w73.cell? ⟨gb300, 3, none⟩ = some (.int .i64 ((rd_T47 l0_0 x5_1).f3)) := (blk_cell BK300.out 3).trans rfl
                                    have hfz82_0 := blk_frozen BK300.out 0
                                    have hfz82_1 := blk_frozen BK300.out 1
                                    have hfz82_2 := blk_frozen BK300.out 2
                                    have hfz82_3 := blk_frozen BK300.out 3
                                    try go_wp2
                                    go_ret
                                    exact ⟨by first | rfl | (simp [errW_none, errW_some] <;> rfl) | (simp [*, errW_none, errW_some] <;> rfl), by repeat (first | (with_reducible first | exact HB.out | apply below_alloc | apply pw_below_drewN | apply below_drew1 | refine below_set ?_ GE297.out | refine below_set ?_ GE300.out | refine below_set ?_ GE307.out) | exact HB.out)⟩
                                  · rw [if_neg c70] at H
                                    have c70b0 : decide (((rd_T47 l0_0 x5_1).f2) < ((rd_T47 l0_0 (rd t301 x10_3)).f2)) = false := decide_eq_false c70
                                    clear c70
                                    have H' := Aside0.mk H
                                    clear H
                                    obtain ⟨Ao83, co83, eo83⟩ := Kd.R_slice HO_7.out
                                    subst eo83
                                    try go_wp2
                                    have n0_ := Aside0.mk (Kd.R_drew HO_7.out)
                                    have n1_ := Aside0.mk (blk_drew BK297.out)
                                    have n2_ := Aside0.mk (blk_drew BK300.out)
                                    have n3_ := Aside0.mk (below_drew1 HB.out)
                                    clear HO_7
                                    clear BK297
                                    clear BK300
                                    clear HB
                                    have HO_7 := n0_
                                    have BK297 := n1_
                                    have BK300 := n2_
                                    have HB := n3_
                                    clear n0_ n1_ n2_ n3_
                                    have p305 : 0 ≤ (x10_3 : Int) := of_decide_eq_true (by first | (with_reducible assumption) | assumption)
                                    have q305 : x10_3 < (t301.length : Int) := of_decide_eq_true (by first | (with_reducible assumption) | assumption)
                                    obtain ⟨ad305, e305, hx305_0⟩ := Kd.at_int (Kd.R_reads' HO_7.out).2.2 x10_3 p305 q305
                                    cases e305
                                    replace p305 := eq_true p305
                                    replace q305 := eq_true q305
                                    have p306 : 0 ≤ ((rd t301 x10_3) : Int) := of_decide_eq_true (by first | (with_reducible assumption) | assumption)
                                    have q306 : (rd t301 x10_3) < (l0_0.length : Int) := of_decide_eq_true (by first | (with_reducible assumption) | assumption)
                                    obtain ⟨ad306, e306, hx306_0, hx306_1, hx306_2, hx306_3⟩ := at_T47 HR0_0.out (rd t301 x10_3) p306 q306
                                    have hw306_3 := hx306_3
                                    have hw306_2 := hx306_2
                                    have hw306_1 := hx306_1
                                    have hw306_0 := hx306_0
                                    obtain rfl : ad299 = ad306 := (by injection e306)
                                    replace hx306_0 := (HB.out.cell (World.block_lt_of_cell? w _ hx306_0)).trans hx306_0
                                    replace hx306_1 := (HB.out.cell (World.block_lt_of_cell? w _ hx306_1)).trans hx306_1
                                    replace hx306_2 := (HB.out.cell (World.block_lt_of_cell? w _ hx306_2)).trans hx306_2
                                    replace hx306_3 := (HB.out.cell (World.block_lt_of_cell? w _ hx306_3)).trans hx306_3
                                    replace p306 := eq_true p306
                                    replace q306 := eq_true q306
                                    refine start_ (n := 10) (S := fun w' => w'.cell? ⟨gb297, 0, none⟩ = some (.slice (some ad299) l0_0.length c0_0) ∧ w'.cell? (ad305.add (x10_3).toNat) = some (.int .i64 (rd t301 x10_3)) ∧ w'.cell? (ad299.add (((rd t301 x10_3)).toNat * 4)) = some (.int .u8 ((rd_T47 l0_0 (rd t301 x10_3)).f0)) ∧ w'.cell? ⟨(ad299.add (((rd t301 x10_3)).toNat * 4)).block, (ad299.add (((rd t301 x10_3)).toNat * 4)).off + 1, none⟩ = some (.int .i64 ((rd_T47 l0_0 (rd t301 x10_3)).f1)) ∧ w'.cell? ⟨(ad299.add (((rd t301 x10_3)).toNat * 4)).block, (ad299.add (((rd t301 x10_3)).toNat * 4)).off + 2, none⟩ = some (.int .i64 ((rd_T47 l0_0 (rd t301 x10_3)).f2)) ∧ w'.cell? ⟨(ad299.add (((rd t301 x10_3)).toNat * 4)).block, (ad299.add (((rd t301 x10_3)).toNat * 4)).off + 3, none⟩ = some (.int .i64 ((rd_T47 l0_0 (rd t301 x10_3)).f3))) (ds := []) #[false, false, false, false, false, false, false, false, false, false] (by kernel_rfl) rfl rfl ⟨(blk_cell BK297.out 0).trans rfl, hx305_0, ((HB.out.cell (World.block_lt_of_cell? w _ hw306_0)).trans hw306_0), ((HB.out.cell (World.block_lt_of_cell? w _ hw306_1)).trans hw306_1), ((HB.out.cell (World.block_lt_of_cell? w _ hw306_2)).trans hw306_2), ((HB.out.cell (World.block_lt_of_cell? w _ hw306_3)).trans hw306_3)⟩ (fun hHeld => ?_); refine with_tabW monikerref4_Valid.tab14 monikerref4_Valid.bits14 (fun HT_ HW_ => ?_)
                                    generalize wr.drew = w84 at HO_7 BK297 BK300 HB hx305_0 hx306_0 hx306_1 hx306_2 hx306_3 hHeld ⊢
                                    refine pure_ (i := 0) (N := some 57) (v := ?_) (a' := ?_) #[true, false, false, false, false, false, false, false, false, false] rfl rfl (any_of HT_.out (by kernel_rfl)) (fun _ _ _ h => h) (Or.inl ⟨by rfl, ?_⟩) ?_ ?_
                                    rotate_left
                                    · intro w'
                                      go_simp
                                      with_reducible rfl
                                    rotate_left
                                    · simp only [Act.put, List.setIfInBounds_toArray, List.set_cons_zero, List.set_cons_succ, i64_w, i32_w]
                                      rfl
                                    refine pure_ (i := 2) (N := some 59) (v := ?_) (a' := ?_) #[true, false, true, false, false, false, false, false, false, false] rfl rfl (any_of HT_.out (by kernel_rfl)) (fun _ _ _ h => h) (Or.inl ⟨by rfl, ?_⟩) ?_ ?_
                                    rotate_left
                                    · intro w'
                                      go_simp
                                      with_reducible rfl
                                    rotate_left
                                    · simp only [Act.put, List.setIfInBounds_toArray, List.set_cons_zero, List.set_cons_succ, i64_w, i32_w]
                                      rfl
                                    refine pure_ (i := 3) (N := some 60) (v := ?_) (a' := ?_) #[true, false, true, true, false, false, false, false, false, false] rfl rfl (any_of HT_.out (by kernel_rfl)) (fun _ _ _ h => h) (Or.inl ⟨by rfl, ?_⟩) ?_ ?_
                                    rotate_left
                                    · intro w'
                                      go_simp
                                      with_reducible rfl
                                    rotate_left
                                    · simp only [Act.put, List.setIfInBounds_toArray, List.set_cons_zero, List.set_cons_succ, i64_w, i32_w]
                                      rfl
                                    refine pure_ (i := 4) (N := some 61) (v := ?_) (a' := ?_) #[true, false, true, true, true, false, false, false, false, false] rfl rfl (any_of HT_.out (by kernel_rfl)) (fun _ _ _ h => h) (Or.inl ⟨by rfl, ?_⟩) ?_ ?_
                                    rotate_left
                                    · intro w'
                                      go_simp
                                      with_reducible rfl
                                    rotate_left
                                    · simp only [Act.put, List.setIfInBounds_toArray, List.set_cons_zero, List.set_cons_succ, i64_w, i32_w]
                                      rfl
                                    refine take_ (i := 1) (N := some 58) (v := ?_) (a' := ?_) #[true, true, true, true, true, false, false, false, false, false] rfl rfl (take_ofW HT_.out HW_.out (by kernel_rfl)) (fun _ _ _ h => h) (Or.inl ⟨by rfl, ?_⟩) hHeld ?_ ?_
                                    rotate_left
                                    · rintro w' ⟨s0, s1, s2, s3, s4, s5⟩
                                      go_simp
                                      with_reducible rfl
                                    rotate_left
                                    · simp only [Act.put, List.setIfInBounds_toArray, List.set_cons_zero, List.set_cons_succ, i64_w, i32_w]
                                      rfl
                                    refine take_ (i := 5) (N := some 62) (v := ?_) (a' := ?_) #[true, true, true, true, true, true, false, false, false, false] rfl rfl (take_ofW HT_.out HW_.out (by kernel_rfl)) (fun _ _ _ h => h) (Or.inl ⟨by rfl, ?_⟩) hHeld ?_ ?_
                                    rotate_left
                                    · rintro w' ⟨s0, s1, s2, s3, s4, s5⟩
                                      go_simp
                                      with_reducible rfl
                                    rotate_left
                                    · simp only [Act.put, List.setIfInBounds_toArray, List.set_cons_zero, List.set_cons_succ, i64_w, i32_w]
                                      rfl
                                    refine pure_ (i := 6) (N := some 63) (v := ?_) (a' := ?_) #[true, true, true, true, true, true, true, false, false, false] rfl rfl (any_of HT_.out (by kernel_rfl)) (fun _ _ _ h => h) (Or.inl ⟨by rfl, ?_⟩) ?_ ?_
                                    rotate_left
                                    · intro w'
                                      go_simp
                                      with_reducible rfl
                                    rotate_left
                                    · simp only [Act.put, List.setIfInBounds_toArray, List.set_cons_zero, List.set_cons_succ, i64_w, i32_w]
                                      rfl
                                    refine take_ (i := 7) (N := some 64) (v := ?_) (a' := ?_) #[true, true, true, true, true, true, true, true, false, false] rfl rfl (take_ofW HT_.out HW_.out (by kernel_rfl)) (fun _ _ _ h => h) (Or.inl ⟨by rfl, ?_⟩) hHeld ?_ ?_
                                    rotate_left
                                    · rintro w' ⟨s0, s1, s2, s3, s4, s5⟩
                                      go_simp
                                      with_reducible rfl
                                    rotate_left
                                    · simp only [Act.put, List.setIfInBounds_toArray, List.set_cons_zero, List.set_cons_succ, i64_w, i32_w]
                                      rfl
                                    refine one_ (i := 8) (N := some 11) #[true, true, true, true, true, true, true, true, true, false] rfl rfl (one_of HT_.out (by kernel_rfl)) (by decide) (fun K hK => ?_)
                                    refine box_step ?hg (N := 11) ?hd (cs := #[.int .u8 0, .int .i64 0, .int .i64 0, .int .i64 0]) (t := 47) ?hr ?_; (case hd => rfl); (case hg => rfl); (case hr => first | (go_simp; done) | (go_simp; rfl))
                                    intro gb307 hg w85 hbox hb
                                    have HS1_ := (hb.cell (World.block_lt_of_cell? _ _ (hHeld.2.1))).trans (hHeld.2.1)
                                    have n0_ := Aside0.mk (Kd.R_below (by (with_reducible repeat (first | apply Kd.R_alloc | apply Kd.R_drewN | apply Kd.R_drew)); exact HO_7.out) hb)
                                    have n1_ := Aside0.mk (blk_below (g := gb297) (o := .cells #[.slice (some ad299) l0_0.length c0_0] 25 (0, 0)) (by (with_reducible repeat (first | refine blk_drewN ?_ _ | refine blk_drew ?_ | refine blk_alloc ?_ _)); exact BK297.out) hb)
                                    have n2_ := Aside0.mk (blk_below (g := gb300) (o := .cells #[.int .u8 ((rd_T47 l0_0 x5_1).f0), .int .i64 ((rd_T47 l0_0 x5_1).f1), .int .i64 ((rd_T47 l0_0 x5_1).f2), .int .i64 ((rd_T47 l0_0 x5_1).f3)] 47 (0, 0)) (by (with_reducible repeat (first | refine blk_drewN ?_ _ | refine blk_drew ?_ | refine blk_alloc ?_ _)); exact BK300.out) hb)
                                    have n3_ := Aside0.mk (below_step (by repeat (first | (with_reducible first | exact HB.out | apply below_alloc | apply pw_below_drewN | apply below_drew1 | refine below_set ?_ GE297.out | refine below_set ?_ GE300.out) | exact HB.out)) hb)
                                    have n4_ := Aside0.mk (hbox)
                                    have n5_ := Aside0.mk ((by rw [hg]; exact (below_size (by repeat (first | (with_reducible first | exact HB.out | apply below_alloc | apply pw_below_drewN | apply below_drew1 | refine below_set ?_ GE297.out | refine below_set ?_ GE300.out) | exact HB.out))) : w.heap.size ≤ gb307))
                                    have n6_ := Aside0.mk ((by rw [hg]; exact (below_size (by repeat (first | (with_reducible first | exact HB.out | apply below_alloc | apply pw_below_drewN | apply below_drew1 | refine below_set ?_ GE297.out | refine below_set ?_ GE300.out) | exact HB.out))) : w.heap.size ≤ gb307))
                                    have n7_ := Aside0.mk ((by rw [hg]; exact Nat.ne_of_lt (blk_lt (g := gb297) (o := .cells #[.slice (some ad299) l0_0.length c0_0] 25 (0, 0)) (by (with_reducible repeat (first | refine blk_drewN ?_ _ | refine blk_drew ?_ | refine blk_alloc ?_ _)); exact BK297.out)) : gb297 ≠ gb307))
                                    have n8_ := Aside0.mk ((by rw [hg]; exact Nat.ne_of_gt (blk_lt (g := gb297) (o := .cells #[.slice (some ad299) l0_0.length c0_0] 25 (0, 0)) (by (with_reducible repeat (first | refine blk_drewN ?_ _ | refine blk_drew ?_ | refine blk_alloc ?_ _)); exact BK297.out)) : gb307 ≠ gb297))
                                    have n9_ := Aside0.mk ((by rw [hg]; exact Nat.ne_of_lt (blk_lt (g := gb300) (o := .cells #[.int .u8 ((rd_T47 l0_0 x5_1).f0), .int .i64 ((rd_T47 l0_0 x5_1).f1), .int .i64 ((rd_T47 l0_0 x5_1).f2), .int .i64 ((rd_T47 l0_0 x5_1).f3)] 47 (0, 0)) (by (with_reducible repeat (first | refine blk_drewN ?_ _ | refine blk_drew ?_ | refine blk_alloc ?_ _)); exact BK300.out)) : gb300 ≠ gb307))
                                    have n10_ := Aside0.mk ((by rw [hg]; exact Nat.ne_of_gt (blk_lt (g := gb300) (o := .cells #[.int .u8 ((rd_T47 l0_0 x5_1).f0), .int .i64 ((rd_T47 l0_0 x5_1).f1), .int .i64 ((rd_T47 l0_0 x5_1).f2), .int .i64 ((rd_T47 l0_0 x5_1).f3)] 47 (0, 0)) (by (with_reducible repeat (first | refine blk_drewN ?_ _ | refine blk_drew ?_ | refine blk_alloc ?_ _)); exact BK300.out)) : gb307 ≠ gb300))
                                    clear HO_7
                                    clear BK297
                                    clear BK300
                                    clear HB
                                    have HO_7 := n0_
                                    have BK297 := n1_
                                    have BK300 := n2_
                                    have HB := n3_
                                    have BK307 := n4_
                                    have GW307 := n5_
                                    have GE307 := n6_
                                    have NB297_307 := n7_
                                    have NB307_297 := n8_
                                    have NB300_307 := n9_
                                    have NB307_300 := n10_
                                    clear n0_ n1_ n2_ n3_ n4_ n5_ n6_ n7_ n8_ n9_ n10_
                                    clear hb hbox hg
                                    refine hK.out _ _ ⟨(blk_cell BK297.out 0).trans rfl, HS1_, ((HB.out.cell (World.block_lt_of_cell? w _ hw306_0)).trans hw306_0), ((HB.out.cell (World.block_lt_of_cell? w _ hw306_1)).trans hw306_1), ((HB.out.cell (World.block_lt_of_cell? w _ hw306_2)).trans hw306_2), ((HB.out.cell (World.block_lt_of_cell? w _ hw306_3)).trans hw306_3)⟩ (fun hHeld => ?_)
                                    clear hK K
                                    refine norm_ (a' := ?_) ?_ ?_
                                    rotate_left
                                    · show Act.put _ (some 11) _ = _
                                      simp only [Act.put, List.setIfInBounds_toArray, List.set_cons_zero, List.set_cons_succ, i64_w, i32_w]
                                      rfl
                                    refine one_ (i := 9) (N := none) #[true, true, true, true, true, true, true, true, true, true] rfl rfl (one_of HT_.out (by kernel_rfl)) (by decide) (fun K hK => ?_)
                                    have hs86 : w85.cell? ⟨gb307, 0, none⟩ = some (.int .u8 0) := (blk_cell BK307.out 0).trans rfl
                                    have hfs86 := blk_frozen BK307.out 0
                                    have hns86_0 := NB297_307.out
                                    have hns86_1 := NB300_307.out
                                    have hms86_0 := NB307_297.out
                                    have hms86_1 := NB307_300.out
                                    have hs87 : w85.cell? ⟨gb307, 1, none⟩ = some (.int .i64 0) := (blk_cell BK307.out 1).trans rfl
                                    have hfs87 := blk_frozen BK307.out 1
                                    have hns87_0 := NB297_307.out
                                    have hns87_1 := NB300_307.out
                                    have hms87_0 := NB307_297.out
                                    have hms87_1 := NB307_300.out
                                    have hs88 : w85.cell? ⟨gb307, 2, none⟩ = some (.int .i64 0) := (blk_cell BK307.out 2).trans rfl
                                    have hfs88 := blk_frozen BK307.out 2
                                    have hns88_0 := NB297_307.out
                                    have hns88_1 := NB300_307.out
                                    have hms88_0 := NB307_297.out
                                    have hms88_1 := NB307_300.out
                                    have hs89 : w85.cell? ⟨gb307, 3, none⟩ = some (.int .i64 0) := (blk_cell BK307.out 3).trans rfl
                                    have hfs89 := blk_frozen BK307.out 3
                                    have hns89_0 := NB297_307.out
                                    have hns89_1 := NB300_307.out
                                    have hms89_0 := NB307_297.out
                                    have hms89_1 := NB307_300.out
                                    refine skip_ (w1 := ?_) (by rfl) rfl ?_ ?_
                                    rotate_left
                                    · go_simp
                                      rfl
                                    refine hK.out _ _ ⟨((cell_far (p := ⟨gb307, _, none⟩) NB297_307.out _).trans (((cell_far (p := ⟨gb307, _, none⟩) NB297_307.out _).trans (((cell_far (p := ⟨gb307, _, none⟩) NB297_307.out _).trans (((cell_far (p := ⟨gb307, _, none⟩) NB297_307.out _).trans (hHeld.1)))))))), ((cell_far (p := ⟨gb307, _, none⟩) (by first | exact Kd.own_blk (Kd.R_ne HO_7.out BK307.out (by decide)) | (rw [add_block]; exact Kd.own_blk (Kd.R_ne HO_7.out BK307.out (by decide))) | (show (Addr.add _ _).block ≠ _; rw [add_block]; exact Kd.own_blk (Kd.R_ne HO_7.out BK307.out (by decide))) | (dsimp only; exact Kd.own_blk (Kd.R_ne HO_7.out BK307.out (by decide)))) _).trans (((cell_far (p := ⟨gb307, _, none⟩) (by first | exact Kd.own_blk (Kd.R_ne HO_7.out BK307.out (by decide)) | (rw [add_block]; exact Kd.own_blk (Kd.R_ne HO_7.out BK307.out (by decide))) | (show (Addr.add _ _).block ≠ _; rw [add_block]; exact Kd.own_blk (Kd.R_ne HO_7.out BK307.out (by decide))) | (dsimp only; exact Kd.own_blk (Kd.R_ne HO_7.out BK307.out (by decide)))) _).trans (((cell_far (p := ⟨gb307, _, none⟩) (by first | exact Kd.own_blk (Kd.R_ne HO_7.out BK307.out (by decide)) | (rw [add_block]; exact Kd.own_blk (Kd.R_ne HO_7.out BK307.out (by decide))) | (show (Addr.add _ _).block ≠ _; rw [add_block]; exact Kd.own_blk (Kd.R_ne HO_7.out BK307.out (by decide))) | (dsimp only; exact Kd.own_blk (Kd.R_ne HO_7.out BK307.out (by decide)))) _).trans (((cell_far (p := ⟨gb307, _, none⟩) (by first | exact Kd.own_blk (Kd.R_ne HO_7.out BK307.out (by decide)) | (rw [add_block]; exact Kd.own_blk (Kd.R_ne HO_7.out BK307.out (by decide))) | (show (Addr.add _ _).block ≠ _; rw [add_block]; exact Kd.own_blk (Kd.R_ne HO_7.out BK307.out (by decide))) | (dsimp only; exact Kd.own_blk (Kd.R_ne HO_7.out BK307.out (by decide)))) _).trans (hHeld.2.1)))))))), ((cell_far (p := ⟨gb307, _, none⟩) (by first | exact Nat.ne_of_lt (Nat.lt_of_lt_of_le (by have := World.block_lt_of_cell? _ _ hw306_0; first | rwa [add_block] at this | exact this) GW307.out) | (rw [add_block]; exact Nat.ne_of_lt (Nat.lt_of_lt_of_le (by have := World.block_lt_of_cell? _ _ hw306_0; first | rwa [add_block] at this | exact this) GW307.out)) | (show (Addr.add _ _).block ≠ _; rw [add_block]; exact Nat.ne_of_lt (Nat.lt_of_lt_of_le (by have := World.block_lt_of_cell? _ _ hw306_0; first | rwa [add_block] at this | exact this) GW307.out)) | (dsimp only; exact Nat.ne_of_lt (Nat.lt_of_lt_of_le (by have := World.block_lt_of_cell? _ _ hw306_0; first | rwa [add_block] at this | exact this) GW307.out))) _).trans (((cell_far (p := ⟨gb307, _, none⟩) (by first | exact Nat.ne_of_lt (Nat.lt_of_lt_of_le (by have := World.block_lt_of_cell? _ _ hw306_0; first | rwa [add_block] at this | exact this) GW307.out) | (rw [add_block]; exact Nat.ne_of_lt (Nat.lt_of_lt_of_le (by have := World.block_lt_of_cell? _ _ hw306_0; first | rwa [add_block] at this | exact this) GW307.out)) | (show (Addr.add _ _).block ≠ _; rw [add_block]; exact Nat.ne_of_lt (Nat.lt_of_lt_of_le (by have := World.block_lt_of_cell? _ _ hw306_0; first | rwa [add_block] at this | exact this) GW307.out)) | (dsimp only; exact Nat.ne_of_lt (Nat.lt_of_lt_of_le (by have := World.block_lt_of_cell? _ _ hw306_0; first | rwa [add_block] at this | exact this) GW307.out))) _).trans (((cell_far (p := ⟨gb307, _, none⟩) (by first | exact Nat.ne_of_lt (Nat.lt_of_lt_of_le (by have := World.block_lt_of_cell? _ _ hw306_0; first | rwa [add_block] at this | exact this) GW307.out) | (rw [add_block]; exact Nat.ne_of_lt (Nat.lt_of_lt_of_le (by have := World.block_lt_of_cell? _ _ hw306_0; first | rwa [add_block] at this | exact this) GW307.out)) | (show (Addr.add _ _).block ≠ _; rw [add_block]; exact Nat.ne_of_lt (Nat.lt_of_lt_of_le (by have := World.block_lt_of_cell? _ _ hw306_0; first | rwa [add_block] at this | exact this) GW307.out)) | (dsimp only; exact Nat.ne_of_lt (Nat.lt_of_lt_of_le (by have := World.block_lt_of_cell? _ _ hw306_0; first | rwa [add_block] at this | exact this) GW307.out))) _).trans (((cell_far (p := ⟨gb307, _, none⟩) (by first | exact Nat.ne_of_lt (Nat.lt_of_lt_of_le (by have := World.block_lt_of_cell? _ _ hw306_0; first | rwa [add_block] at this | exact this) GW307.out) | (rw [add_block]; exact Nat.ne_of_lt (Nat.lt_of_lt_of_le (by have := World.block_lt_of_cell? _ _ hw306_0; first | rwa [add_block] at this | exact this) GW307.out)) | (show (Addr.add _ _).block ≠ _; rw [add_block]; exact Nat.ne_of_lt (Nat.lt_of_lt_of_le (by have := World.block_lt_of_cell? _ _ hw306_0; first | rwa [add_block] at this | exact this) GW307.out)) | (dsimp only; exact Nat.ne_of_lt (Nat.lt_of_lt_of_le (by have := World.block_lt_of_cell? _ _ hw306_0; first | rwa [add_block] at this | exact this) GW307.out))) _).trans (hHeld.2.2.1)))))))), ((cell_far (p := ⟨gb307, _, none⟩) (by first | exact Nat.ne_of_lt (Nat.lt_of_lt_of_le (by have := World.block_lt_of_cell? _ _ hw306_1; first | rwa [add_block] at this | exact this) GW307.out) | (rw [add_block]; exact Nat.ne_of_lt (Nat.lt_of_lt_of_le (by have := World.block_lt_of_cell? _ _ hw306_1; first | rwa [add_block] at this | exact this) GW307.out)) | (show (Addr.add _ _).block ≠ _; rw [add_block]; exact Nat.ne_of_lt (Nat.lt_of_lt_of_le (by have := World.block_lt_of_cell? _ _ hw306_1; first | rwa [add_block] at this | exact this) GW307.out)) | (dsimp only; exact Nat.ne_of_lt (Nat.lt_of_lt_of_le (by have := World.block_lt_of_cell? _ _ hw306_1; first | rwa [add_block] at this | exact this) GW307.out))) _).trans (((cell_far (p := ⟨gb307, _, none⟩) (by first | exact Nat.ne_of_lt (Nat.lt_of_lt_of_le (by have := World.block_lt_of_cell? _ _ hw306_1; first | rwa [add_block] at this | exact this) GW307.out) | (rw [add_block]; exact Nat.ne_of_lt (Nat.lt_of_lt_of_le (by have := World.block_lt_of_cell? _ _ hw306_1; first | rwa [add_block] at this | exact this) GW307.out)) | (show (Addr.add _ _).block ≠ _; rw [add_block]; exact Nat.ne_of_lt (Nat.lt_of_lt_of_le (by have := World.block_lt_of_cell? _ _ hw306_1; first | rwa [add_block] at this | exact this) GW307.out)) | (dsimp only; exact Nat.ne_of_lt (Nat.lt_of_lt_of_le (by have := World.block_lt_of_cell? _ _ hw306_1; first | rwa [add_block] at this | exact this) GW307.out))) _).trans (((cell_far (p := ⟨gb307, _, none⟩) (by first | exact Nat.ne_of_lt (Nat.lt_of_lt_of_le (by have := World.block_lt_of_cell? _ _ hw306_1; first | rwa [add_block] at this | exact this) GW307.out) | (rw [add_block]; exact Nat.ne_of_lt (Nat.lt_of_lt_of_le (by have := World.block_lt_of_cell? _ _ hw306_1; first | rwa [add_block] at this | exact this) GW307.out)) | (show (Addr.add _ _).block ≠ _; rw [add_block]; exact Nat.ne_of_lt (Nat.lt_of_lt_of_le (by have := World.block_lt_of_cell? _ _ hw306_1; first | rwa [add_block] at this | exact this) GW307.out)) | (dsimp only; exact Nat.ne_of_lt (Nat.lt_of_lt_of_le (by have := World.block_lt_of_cell? _ _ hw306_1; first | rwa [add_block] at this | exact this) GW307.out))) _).trans (((cell_far (p := ⟨gb307, _, none⟩) (by first | exact Nat.ne_of_lt (Nat.lt_of_lt_of_le (by have := World.block_lt_of_cell? _ _ hw306_1; first | rwa [add_block] at this | exact this) GW307.out) | (rw [add_block]; exact Nat.ne_of_lt (Nat.lt_of_lt_of_le (by have := World.block_lt_of_cell? _ _ hw306_1; first | rwa [add_block] at this | exact this) GW307.out)) | (show (Addr.add _ _).block ≠ _; rw [add_block]; exact Nat.ne_of_lt (Nat.lt_of_lt_of_le (by have := World.block_lt_of_cell? _ _ hw306_1; first | rwa [add_block] at this | exact this) GW307.out)) | (dsimp only; exact Nat.ne_of_lt (Nat.lt_of_lt_of_le (by have := World.block_lt_of_cell? _ _ hw306_1; first | rwa [add_block] at this | exact this) GW307.out))) _).trans (hHeld.2.2.2.1)))))))), ((cell_far (p := ⟨gb307, _, none⟩) (by first | exact Nat.ne_of_lt (Nat.lt_of_lt_of_le (by have := World.block_lt_of_cell? _ _ hw306_2; first | rwa [add_block] at this | exact this) GW307.out) | (rw [add_block]; exact Nat.ne_of_lt (Nat.lt_of_lt_of_le (by have := World.block_lt_of_cell? _ _ hw306_2; first | rwa [add_block] at this | exact this) GW307.out)) | (show (Addr.add _ _).block ≠ _; rw [add_block]; exact Nat.ne_of_lt (Nat.lt_of_lt_of_le (by have := World.block_lt_of_cell? _ _ hw306_2; first | rwa [add_block] at this | exact this) GW307.out)) | (dsimp only; exact Nat.ne_of_lt (Nat.lt_of_lt_of_le (by have := World.block_lt_of_cell? _ _ hw306_2; first | rwa [add_block] at this | exact this) GW307.out))) _).trans (((cell_far (p := ⟨gb307, _, none⟩) (by first | exact Nat.ne_of_lt (Nat.lt_of_lt_of_le (by have := World.block_lt_of_cell? _ _ hw306_2; first | rwa [add_block] at this | exact this) GW307.out) | (rw [add_block]; exact Nat.ne_of_lt (Nat.lt_of_lt_of_le (by have := World.block_lt_of_cell? _ _ hw306_2; first | rwa [add_block] at this | exact this) GW307.out)) | (show (Addr.add _ _).block ≠ _; rw [add_block]; exact Nat.ne_of_lt (Nat.lt_of_lt_of_le (by have := World.block_lt_of_cell? _ _ hw306_2; first | rwa [add_block] at this | exact this) GW307.out)) | (dsimp only; exact Nat.ne_of_lt (Nat.lt_of_lt_of_le (by have := World.block_lt_of_cell? _ _ hw306_2; first | rwa [add_block] at this | exact this) GW307.out))) _).trans (((cell_far (p := ⟨gb307, _, none⟩) (by first | exact Nat.ne_of_lt (Nat.lt_of_lt_of_le (by have := World.block_lt_of_cell? _ _ hw306_2; first | rwa [add_block] at this | exact this) GW307.out) | (rw [add_block]; exact Nat.ne_of_lt (Nat.lt_of_lt_of_le (by have := World.block_lt_of_cell? _ _ hw306_2; first | rwa [add_block] at this | exact this) GW307.out)) | (show (Addr.add _ _).block ≠ _; rw [add_block]; exact Nat.ne_of_lt (Nat.lt_of_lt_of_le (by have := World.block_lt_of_cell? _ _ hw306_2; first | rwa [add_block] at this | exact this) GW307.out)) | (dsimp only; exact Nat.ne_of_lt (Nat.lt_of_lt_of_le (by have := World.block_lt_of_cell? _ _ hw306_2; first | rwa [add_block] at this | exact this) GW307.out))) _).trans (((cell_far (p := ⟨gb307, _, none⟩) (by first | exact Nat.ne_of_lt (Nat.lt_of_lt_of_le (by have := World.block_lt_of_cell? _ _ hw306_2; first | rwa [add_block] at this | exact this) GW307.out) | (rw [add_block]; exact Nat.ne_of_lt (Nat.lt_of_lt_of_le (by have := World.block_lt_of_cell? _ _ hw306_2; first | rwa [add_block] at this | exact this) GW307.out)) | (show (Addr.add _ _).block ≠ _; rw [add_block]; exact Nat.ne_of_lt (Nat.lt_of_lt_of_le (by have := World.block_lt_of_cell? _ _ hw306_2; first | rwa [add_block] at this | exact this) GW307.out)) | (dsimp only; exact Nat.ne_of_lt (Nat.lt_of_lt_of_le (by have := World.block_lt_of_cell? _ _ hw306_2; first | rwa [add_block] at this | exact this) GW307.out))) _).trans (hHeld.2.2.2.2.1)))))))), ((cell_far (p := ⟨gb307, _, none⟩) (by first | exact Nat.ne_of_lt (Nat.lt_of_lt_of_le (by have := World.block_lt_of_cell? _ _ hw306_3; first | rwa [add_block] at this | exact this) GW307.out) | (rw [add_block]; exact Nat.ne_of_lt (Nat.lt_of_lt_of_le (by have := World.block_lt_of_cell? _ _ hw306_3; first | rwa [add_block] at this | exact this) GW307.out)) | (show (Addr.add _ _).block ≠ _; rw [add_block]; exact Nat.ne_of_lt (Nat.lt_of_lt_of_le (by have := World.block_lt_of_cell? _ _ hw306_3; first | rwa [add_block] at this | exact this) GW307.out)) | (dsimp only; exact Nat.ne_of_lt (Nat.lt_of_lt_of_le (by have := World.block_lt_of_cell? _ _ hw306_3; first | rwa [add_block] at this | exact this) GW307.out))) _).trans (((cell_far (p := ⟨gb307, _, none⟩) (by first | exact Nat.ne_of_lt (Nat.lt_of_lt_of_le (by have := World.block_lt_of_cell? _ _ hw306_3; first | rwa [add_block] at this | exact this) GW307.out) | (rw [add_block]; exact Nat.ne_of_lt (Nat.lt_of_lt_of_le (by have := World.block_lt_of_cell? _ _ hw306_3; first | rwa [add_block] at this | exact this) GW307.out)) | (show (Addr.add _ _).block ≠ _; rw [add_block]; exact Nat.ne_of_lt (Nat.lt_of_lt_of_le (by have := World.block_lt_of_cell? _ _ hw306_3; first | rwa [add_block] at this | exact this) GW307.out)) | (dsimp only; exact Nat.ne_of_lt (Nat.lt_of_lt_of_le (by have := World.block_lt_of_cell? _ _ hw306_3; first | rwa [add_block] at this | exact this) GW307.out))) _).trans (((cell_far (p := ⟨gb307, _, none⟩) (by first | exact Nat.ne_of_lt (Nat.lt_of_lt_of_le (by have := World.block_lt_of_cell? _ _ hw306_3; first | rwa [add_block] at this | exact this) GW307.out) | (rw [add_block]; exact Nat.ne_of_lt (Nat.lt_of_lt_of_le (by have := World.block_lt_of_cell? _ _ hw306_3; first | rwa [add_block] at this | exact this) GW307.out)) | (show (Addr.add _ _).block ≠ _; rw [add_block]; exact Nat.ne_of_lt (Nat.lt_of_lt_of_le (by have := World.block_lt_of_cell? _ _ hw306_3; first | rwa [add_block] at this | exact this) GW307.out)) | (dsimp only; exact Nat.ne_of_lt (Nat.lt_of_lt_of_le (by have := World.block_lt_of_cell? _ _ hw306_3; first | rwa [add_block] at this | exact this) GW307.out))) _).trans (((cell_far (p := ⟨gb307, _, none⟩) (by first | exact Nat.ne_of_lt (Nat.lt_of_lt_of_le (by have := World.block_lt_of_cell? _ _ hw306_3; first | rwa [add_block] at this | exact this) GW307.out) | (rw [add_block]; exact Nat.ne_of_lt (Nat.lt_of_lt_of_le (by have := World.block_lt_of_cell? _ _ hw306_3; first | rwa [add_block] at this | exact this) GW307.out)) | (show (Addr.add _ _).block ≠ _; rw [add_block]; exact Nat.ne_of_lt (Nat.lt_of_lt_of_le (by have := World.block_lt_of_cell? _ _ hw306_3; first | rwa [add_block] at this | exact this) GW307.out)) | (dsimp only; exact Nat.ne_of_lt (Nat.lt_of_lt_of_le (by have := World.block_lt_of_cell? _ _ hw306_3; first | rwa [add_block] at this | exact this) GW307.out))) _).trans (hHeld.2.2.2.2.2))))))))⟩ (fun hHeld => ?_)
                                    clear hK K
                                    refine done_ (done_of HT_.out (by kernel_rfl)) ?_
                                    have hnb90 := NB307_297.out
                                    have hnc90 := NB297_307.out
                                    have hnb91 := NB307_300.out
                                    have hnc91 := NB300_307.out
                                    have hcz92_0 : w85.cell? ⟨gb307, 0, none⟩ = some (.int .u8 0) := (blk_cell BK307.out 0).trans rfl
                                    have hcz92_1 : w85.cell? ⟨gb307, 1, none⟩ = some (.int .i64 0) := (blk_cell BK307.out 1).trans rfl
                                    have hcz92_2 : w85.cell? ⟨gb307, 2, none⟩ = some (.int .i64 0) := (blk_cell BK307.out 2).trans rfl
                                    have hcz92_3 : w85.cell? ⟨gb307, 3, none⟩ = some (.int .i64 0) := (blk_cell BK307.out 3).trans rfl
                                    have hfz92_0 := blk_frozen BK307.out 0
                                    have hfz92_1 := blk_frozen BK307.out 1
                                    have hfz92_2 := blk_frozen BK307.out 2
                                    have hfz92_3 := blk_frozen BK307.out 3
                                    have hnb93 := NB300_297.out
                                    have hnc93 := NB297_300.out
                                    have hcz94_0 : w85.cell? ⟨gb300, 0, none⟩ = some (.int .u8 ((rd_T47 l0_0 x5_1).f0)) := (blk_cell BK300.out 0).trans rfl
                                    have hcz94_1 : w85.cell? ⟨gb300, 1, none⟩ = some (.int .i64 ((rd_T47 l0_0 x5_1).f1)) := (blk_cell BK300.out 1).trans rfl
                                    have hcz94_2 : w85.cell? ⟨gb300, 2, none⟩ = some (.int .i64 ((rd_T47 l0_0 x5_1).f2)) := (blk_cell BK300.out 2).trans rfl
                                    have hcz94_3 : w85.cell? ⟨gb300, 3, none⟩ = some (.int .i64 ((rd_T47 l0_0 x5_1).f3)) := (blk_cell BK300.out 3).trans rfl
                                    have hfz94_0 := blk_frozen BK300.out 0
                                    have hfz94_1 := blk_frozen BK300.out 1
                                    have hfz94_2 := blk_frozen BK300.out 2
                                    have hfz94_3 := blk_frozen BK300.out 3
                                    try go_wp2
                                    go_roundg k3
                                    case measure => have := HK1.out; have := HJ9.out; have := HK3.out; omega
                                    case rel => exact ⟨((rd_T47 l0_0 (rd t301 x10_3)).f2), (wrap64 (x10_3 + 1)), (by first | rfl | (simp; done) | (simp [*]; done)), (by first | rfl | (simp; done) | (simp [*]; done)), H', ⟨by have := HK1.out; have := HJ9.out; have := HK3.out; omega⟩, ⟨by (with_reducible repeat (first | apply Kd.R_alloc | apply Kd.R_drewN | apply Kd.R_drew)); exact Kd.R_mono (Kd.R_far (p := ⟨gb307, 3, none⟩) (Kd.R_far (p := ⟨gb307, 2, none⟩) (Kd.R_far (p := ⟨gb307, 1, none⟩) (Kd.R_far (p := ⟨gb307, 0, none⟩) (Kd.R_types HO_7.out BK307.out (by decide)) (fun _ hk => hk.2) (.int .u8 ((rd_T47 l0_0 (rd t301 x10_3)).f0))) (fun _ hk => hk.2) (.int .i64 ((rd_T47 l0_0 (rd t301 x10_3)).f1))) (fun _ hk => hk.2) (.int .i64 ((rd_T47 l0_0 (rd t301 x10_3)).f2))) (fun _ hk => hk.2) (.int .i64 ((rd_T47 l0_0 (rd t301 x10_3)).f3))) (fun _ hk => trivial)⟩, ⟨by (with_reducible repeat (first | refine blk_drewN ?_ _ | refine blk_drew ?_ | refine blk_alloc ?_ _)); refine blk_far ?_ NB297_307.out _; (with_reducible repeat (first | refine blk_drewN ?_ _ | refine blk_drew ?_ | refine blk_alloc ?_ _)); refine blk_far ?_ NB297_307.out _; (with_reducible repeat (first | refine blk_drewN ?_ _ | refine blk_drew ?_ | refine blk_alloc ?_ _)); refine blk_far ?_ NB297_307.out _; (with_reducible repeat (first | refine blk_drewN ?_ _ | refine blk_drew ?_ | refine blk_alloc ?_ _)); refine blk_far ?_ NB297_307.out _; (with_reducible repeat (first | refine blk_drewN ?_ _ | refine blk_drew ?_ | refine blk_alloc ?_ _)); exact BK297.out⟩, ⟨by (with_reducible repeat (first | refine blk_drewN ?_ _ | refine blk_drew ?_ | refine blk_alloc ?_ _)); refine blk_far ?_ NB300_307.out _; (with_reducible repeat (first | refine blk_drewN ?_ _ | refine blk_drew ?_ | refine blk_alloc ?_ _)); refine blk_far ?_ NB300_307.out _; (with_reducible repeat (first | refine blk_drewN ?_ _ | refine blk_drew ?_ | refine blk_alloc ?_ _)); refine blk_far ?_ NB300_307.out _; (with_reducible repeat (first | refine blk_drewN ?_ _ | refine blk_drew ?_ | refine blk_alloc ?_ _)); refine blk_far ?_ NB300_307.out _; (with_reducible repeat (first | refine blk_drewN ?_ _ | refine blk_drew ?_ | refine blk_alloc ?_ _)); exact BK300.out⟩, ⟨by repeat (first | (with_reducible first | exact HB.out | apply below_alloc | apply pw_below_drewN | apply below_drew1 | refine below_set ?_ GE297.out | refine below_set ?_ GE300.out | refine below_set ?_ GE307.out) | exact HB.out)⟩⟩
                            · rw [if_neg c32] at H
                              exact absurd H (by simp)
                          · rw [if_neg c31] at H
                            exact absurd H (by simp)
                        · rw [if_neg c30] at H
                          exact absurd H (by simp)
                      · rw [if_neg c29] at H
                        have c29b0 : decide (x10_3 < (t301.length : Int)) = false := decide_eq_false c29
                        clear c29
                        have H' := Aside0.mk H
                        clear H
                        obtain ⟨Ao95, co95, eo95⟩ := Kd.R_slice HO_7.out
                        subst eo95
                        go_wp2
                        go_roundg k3
                        case measure => have := HK1.out; have := HJ9.out; have := HK3.out; omega
                        case rel => exact ⟨(wrap64 (x5_1 + 1)), (by first | rfl | (simp; done) | (simp [*]; done)), H', ⟨by have := HK1.out; have := HJ9.out; have := HK3.out; omega⟩, ⟨by (with_reducible repeat (first | refine blk_drewN ?_ _ | refine blk_drew ?_ | refine blk_alloc ?_ _)); exact BK297.out⟩, ⟨by repeat (first | (with_reducible first | exact HB.out | apply below_alloc | apply pw_below_drewN | apply below_drew1 | refine below_set ?_ GE297.out | refine below_set ?_ GE300.out) | exact HB.out)⟩⟩
          · rw [if_neg c9] at H
            exact absurd H (by simp)
        · rw [if_neg c8] at H
          have c8b0 : decide (x5_1 < (l0_0.length : Int)) = false := decide_eq_false c8
          clear c8
          obtain rfl := Option.some.inj H
          have hcz96_0 : wr.cell? ⟨gb297, 0, none⟩ = some (.slice A0_0 l0_0.length c0_0) := (blk_cell BK297.out 0).trans rfl
          have hfz96_0 := blk_frozen BK297.out 0
          go_wp2
          go_ret
          exact ⟨by first | rfl | (simp [errW_none, errW_some] <;> rfl) | (simp [*, errW_none, errW_some] <;> rfl), by repeat (first | (with_reducible first | exact HB.out | apply below_alloc | apply pw_below_drewN | apply below_drew1 | refine below_set ?_ GE297.out) | exact HB.out)⟩
  · replace c4 := Bool.eq_false_iff.mpr c4
    subst c4
    have H1 : (some false) = some r := by rw [if_neg (show ¬ (false = true) by decide)] at H; exact H
    clear H
    have H := H1
    clear H1
    obtain rfl := Option.some.inj H
    go_enter Try.func42, Try.ntmps42
    go_wp2_with (first | ((with_reducible refine gate_dst (N := 2) rfl ?_); refine box_event ?hg (N := 2) ?hd (cs := #[.slice A0_0 l0_0.length c0_0]) (t := 25) ?hr ?_; (case hd => rfl); (case hg => rfl); (case hr => first | (go_simp; done) | (go_simp; rfl)); intro gb297 hg w97 hbox hb; have n0_ := Aside0.mk (below_step (by repeat (first | (with_reducible first | exact HB.out | apply below_alloc | apply pw_below_drewN | apply below_drew1) | exact HB.out)) hb); have n1_ := Aside0.mk (hbox); have n2_ := Aside0.mk ((by rw [hg]; exact (below_size (by repeat (first | (with_reducible first | exact HB.out | apply below_alloc | apply pw_below_drewN | apply below_drew1) | exact HB.out))) : w.heap.size ≤ gb297)); have n3_ := Aside0.mk ((by rw [hg]; exact (below_size (by repeat (first | (with_reducible first | exact HB.out | apply below_alloc | apply pw_below_drewN | apply below_drew1) | exact HB.out))) : w.heap.size ≤ gb297)); clear HB; have HB := n0_; have BK297 := n1_; have GW297 := n2_; have GE297 := n3_; clear n0_ n1_ n2_ n3_; clear hb hbox hg; have hcz98_0 : w97.cell? ⟨gb297, 0, none⟩ = some (.slice A0_0 l0_0.length c0_0) := (blk_cell BK297.out 0).trans rfl; have hfz98_0 := blk_frozen BK297.out 0) | ((with_reducible refine gate_callee (f := 59) rfl ?_); refine goesL_ (some 13) rfl rfl Try.func59 (by kernel_rfl) rfl #[.agg #[.slice A0_0 l0_0.length c0_0]] rfl (by (try simp only [List.map_toArray, List.map_cons, List.map_nil]); first | done | rfl | (simp only [List.length_drop, List.length_take]; rfl)) ?_; (with_reducible refine (monikerref4_Shaped.calls k _ _ l0_0 false _ ?side1 ?side2 A3.out).mono ?_); (case side1 => repeat (first | exact (Kd.C_below HR0_0.out HB.out) | (with_reducible refine Kd.C_alloc ?_ _) | (with_reducible refine Kd.C_drewN ?_ _) | (with_reducible refine Kd.C_drew ?_))); (case side2 => exact HC0_0.out); rintro e w99 ⟨rfl, hb⟩; refine ⟨_, rfl, ?_⟩; have n0_ := Aside0.mk (blk_below (g := gb297) (o := .cells #[.slice A0_0 l0_0.length c0_0] 25 (0, 0)) (by (with_reducible repeat (first | refine blk_drewN ?_ _ | refine blk_drew ?_ | refine blk_alloc ?_ _)); exact BK297.out) hb); have n1_ := Aside0.mk (below_step (by repeat (first | (with_reducible first | exact HB.out | apply below_alloc | apply pw_below_drewN | apply below_drew1 | refine below_set ?_ GE297.out) | exact HB.out)) hb); clear BK297; clear HB; have BK297 := n0_; have HB := n1_; clear n0_ n1_; (try clear hb); (try clear hb2); (try clear hk); (try clear hi)))
    go_ret
    exact ⟨by first | rfl | (simp [errW_none, errW_some] <;> rfl) | (simp [*, errW_none, errW_some] <;> rfl), by repeat (first | (with_reducible first | exact HB.out | apply below_alloc | apply pw_below_drewN | apply below_drew1 | refine below_set ?_ GE297.out) | exact HB.out)⟩

end Go.Proofs.Ytodldpdnhcafpaa.F

namespace Go.Proofs.Ytodldpdnhcafpaa.Q
open Go.RowKit Go.Proofs.YtodldpdnhcafpaaW.PrintWords Go.Proofs.YtodldpdnhcafpaaW.PrintLast Go.Proofs.YtodldpdnhcafpaaW.PrintMore
open Go.Proofs.Ytodldpdnhcafpaa.F Go.Proofs.Ytodldpdnhcafpaa.K
set_option linter.unusedSimpArgs false
set_option linter.unusedVariables false

def okS (l : List S47) (q n : Int) : Bool := decide (0 ≤ (rd_T47 l n).f1) && (decide ((rd_T47 l n).f1 ≤ (rd_T47 l n).f2) && decide ((rd_T47 l n).f2 ≤ q))
def rf (l : List S47) (nd : S47) : List Int → Int → Bool
  | [], _ => true
  | x :: ks, en => if (rd_T47 l x).f1 = (rd_T47 l x).f2 then (if (rd_T47 l x).f1 < nd.f1 then false else rf l nd ks en) else (if (rd_T47 l x).f1 < en then false else if (rd_T47 l x).f2 > nd.f2 then false else rf l nd ks (rd_T47 l x).f2)
def allV (l : List S47) (q : Int) : Nat → Int → Bool
  | 0, _ => true
  | f + 1, n => okS l q n && ((vfold l (rd_T47 l n) (kspec l n).1).1 && allV l q f (n + 1))
def allR (l : List S47) (q : Int) : Nat → Int → Bool
  | 0, _ => true
  | f + 1, n => okS l q n && (rf l (rd_T47 l n) (kidsOf l n) (rd_T47 l n).f1 && allR l q f (n + 1))
theorem kgo_mem (l : List S47) (en : Int) : ∀ (d : Nat) (pre : List Int) (x lo : Int), lo ≤ x → (∀ y ∈ pre, lo ≤ y ∧ y < en) → ∀ y ∈ (kgo l en d pre x).1, lo ≤ y ∧ y < en
  | 0, pre, x, lo, _, h => h
  | d + 1, pre, x, lo, hx, h => by
    simp only [kgo]
    split
    · rename_i hlt
      have h2 : ∀ y ∈ pre ++ [x], lo ≤ y ∧ y < en := by
        intro y hy
        rcases List.mem_append.1 hy with hy | hy
        · exact h y hy
        · have : y = x := by simpa using hy
          omega
      split
      · exact h2
      · split
        · exact h2
        · exact kgo_mem l en d _ _ lo (by omega) h2
    · exact h
theorem kspec_mem (l : List S47) (n : Int) : ∀ y ∈ (kspec l n).1, 0 ≤ y ∧ y < (l.length : Int) := by
  unfold kspec
  split
  · rename_i hs
    unfold sizedB at hs
    simp only [Bool.and_eq_true, decide_eq_true_eq] at hs
    intro y hy
    have := kgo_mem l _ _ [] (n + 1) (n + 1) (Int.le_refl _) (fun y hy => by cases hy) y hy
    omega
  · intro y hy; cases hy
theorem fold_rf (l : List S47) (nd : S47) (q : Int) (hok : ∀ m, 0 ≤ m → m < (l.length : Int) → okS l q m = true) : ∀ (ks : List Int), (∀ y ∈ ks, 0 ≤ y ∧ y < (l.length : Int)) → ∀ (g : Bool) (a : Int),
    (ks.foldl (fun s x => vstep nd (rd_T47 l x) s.1 s.2) (g, a)).1 = (g && rf l nd ks a)
  | [], _, g, a => by simp [rf]
  | x :: ks, hm, g, a => by
    have ih := fold_rf l nd q hok ks (fun y hy => hm y (List.mem_cons_of_mem _ hy))
    have h1 := hm x List.mem_cons_self
    have h2 := hok x h1.1 h1.2
    unfold okS at h2
    simp only [Bool.and_eq_true, decide_eq_true_eq] at h2
    simp only [List.foldl_cons, rf]
    generalize rd_T47 l x = y at *
    by_cases c : y.f1 = y.f2
    · have hv : vstep nd y g a = (g && decide (nd.f1 ≤ y.f1), a) := by unfold vstep; rw [if_pos c]
      rw [hv, ih, if_pos c]
      by_cases c2 : y.f1 < nd.f1
      · rw [if_pos c2, decide_eq_false (show ¬ nd.f1 ≤ y.f1 by omega)]; simp
      · rw [if_neg c2, decide_eq_true (show nd.f1 ≤ y.f1 by omega), Bool.and_true]
    · have hv : vstep nd y g a = (g && decide (a ≤ y.f1) && decide (y.f2 ≤ nd.f2), mx a y.f2) := by unfold vstep; rw [if_neg c]
      rw [hv, ih, if_neg c]
      by_cases c2 : y.f1 < a
      · rw [if_pos c2, decide_eq_false (show ¬ a ≤ y.f1 by omega)]; simp
      · rw [if_neg c2, decide_eq_true (show a ≤ y.f1 by omega)]
        have hmx : mx a y.f2 = y.f2 := by unfold mx; omega
        rw [hmx]
        by_cases c3 : y.f2 > nd.f2
        · rw [if_pos c3, decide_eq_false (show ¬ y.f2 ≤ nd.f2 by omega)]; simp
        · rw [if_neg c3, decide_eq_true (show y.f2 ≤ nd.f2 by omega)]; simp
theorem all_same (l : List S47) (q : Int) (hg : ∀ m, 0 ≤ m → m < (l.length : Int) → (kspec l m).2 = true) (hok : ∀ m, 0 ≤ m → m < (l.length : Int) → okS l q m = true) : ∀ (f : Nat) (n : Int), (l.length : Int) - n = f → 0 ≤ n → allV l q f n = allR l q f n
  | 0, _, _, _ => rfl
  | f + 1, n, hf, h0 => by
    simp only [allV, allR]
    rw [all_same l q hg hok f (n + 1) (by omega) (by omega)]
    have h1 := fold_rf l (rd_T47 l n) q hok (kspec l n).1 (kspec_mem l n) true (rd_T47 l n).f1
    have h2 : kidsOf l n = (kspec l n).1 := by unfold kidsOf; rw [if_pos (hg n h0 (by omega))]
    unfold vfold
    rw [h1, h2, Bool.true_and]
theorem all_bad (l : List S47) (q m : Int) (h : okS l q m = false) : ∀ (f : Nat) (n : Int), n ≤ m → m < n + f → allV l q f n = false ∧ allR l q f n = false
  | 0, n, h1, h2 => by omega
  | f + 1, n, h1, h2 => by
    simp only [allV, allR]
    by_cases c : n = m
    · rw [c, h]; simp
    · obtain ⟨i1, i2⟩ := all_bad l q m h f (n + 1) (by omega) (by omega)
      rw [i1, i2]; simp
theorem all_eq (l : List S47) (q : Int) (hg : ∀ m, 0 ≤ m → m < (l.length : Int) → (kspec l m).2 = true) : allV l q l.length 0 = allR l q l.length 0 := by
  by_cases h : ∀ m, 0 ≤ m → m < (l.length : Int) → okS l q m = true
  · exact all_same l q hg h l.length 0 (by omega) (by omega)
  · obtain ⟨m, hm⟩ : ∃ m, ¬ (0 ≤ m → m < (l.length : Int) → okS l q m = true) := Classical.byContradiction fun hh => h (fun m => Classical.byContradiction fun h3 => hh ⟨m, h3⟩)
    have h0 : 0 ≤ m := Classical.byContradiction fun h3 => hm (fun h4 => absurd h4 h3)
    have h1 : m < (l.length : Int) := Classical.byContradiction fun h3 => hm (fun _ h4 => absurd h4 h3)
    have h2 : okS l q m = false := by
      cases hh : okS l q m with
      | false => rfl
      | true => exact absurd (fun _ _ => hh) hm
    obtain ⟨i1, i2⟩ := all_bad l q m h2 l.length 0 h0 (by omega)
    rw [i1, i2]
theorem allG_at (l : List S47) : ∀ (f : Nat) (n : Int), allG l f n = true → ∀ m, n ≤ m → m < n + f → (kspec l m).2 = true
  | 0, n, _, m, h1, h2 => by omega
  | f + 1, n, h, m, h1, h2 => by
    simp only [allG, Bool.and_eq_true] at h
    by_cases c : n = m
    · subst c
      have := h.1
      unfold good at this
      simp only [Bool.and_eq_true] at this
      exact this.1
    · exact allG_at l f (n + 1) h.2 m (by omega) (by omega)
def validB (l : List S47) (q : Int) : Bool := shapedB l && allR l q l.length 0

theorem valid_loop (l : List S47) (hl : l.length ≤ 4398046511104) (q : Int) : ∀ (f : Nat) (n : Int), (l.length : Int) - n = f → 0 ≤ n → Ev (fun k => tree_Valid.l0 k l q n) (allV l q f n)
  | 0, n, hf, h0 => by
    refine ⟨1, fun m hm => ?_⟩
    obtain ⟨k, rfl⟩ : ∃ j, m = j + 1 := ⟨m - 1, by omega⟩
    simp only [tree_Valid.l0, allV]
    rw [if_neg (by omega)]
  | f + 1, n, hf, h0 => by
    have hlt : n < (l.length : Int) := by omega
    have ih := valid_loop l hl q f (n + 1) (by omega) (by omega)
    have hw1 : wrap64 (n + 1) = n + 1 := kw64 (by omega) (by omega)
    obtain ⟨k1, _, _⟩ := Kids_all l hl n
    simp only [allV]
    unfold okS
    have e : ∀ k, tree_Valid.l0 (k + 1) l q n = if (rd_T47 l n).f1 < 0 then some false else if (rd_T47 l n).f2 < (rd_T47 l n).f1 then some false else if (rd_T47 l n).f2 > q then some false else (kids.f k l n).bind fun r => (if (vfold l (rd_T47 l n) r.1).1 = true then tree_Valid.l0 k l q (n + 1) else some false) := by
      intro k
      simp only [tree_Valid.l0, hw1]
      rw [if_pos hlt, if_pos h0]
    by_cases c1 : (rd_T47 l n).f1 < 0
    · rw [decide_eq_false (show ¬ 0 ≤ (rd_T47 l n).f1 by omega)]
      exact ⟨1, fun m hm => by obtain ⟨k, rfl⟩ : ∃ j, m = j + 1 := ⟨m - 1, by omega⟩; simp only; rw [e, if_pos c1]; simp⟩
    · rw [decide_eq_true (show 0 ≤ (rd_T47 l n).f1 by omega)]
      by_cases c2 : (rd_T47 l n).f2 < (rd_T47 l n).f1
      · rw [decide_eq_false (show ¬ (rd_T47 l n).f1 ≤ (rd_T47 l n).f2 by omega)]
        exact ⟨1, fun m hm => by obtain ⟨k, rfl⟩ : ∃ j, m = j + 1 := ⟨m - 1, by omega⟩; simp only; rw [e, if_neg c1, if_pos c2]; simp⟩
      · rw [decide_eq_true (show (rd_T47 l n).f1 ≤ (rd_T47 l n).f2 by omega)]
        by_cases c3 : (rd_T47 l n).f2 > q
        · rw [decide_eq_false (show ¬ (rd_T47 l n).f2 ≤ q by omega)]
          exact ⟨1, fun m hm => by obtain ⟨k, rfl⟩ : ∃ j, m = j + 1 := ⟨m - 1, by omega⟩; simp only; rw [e, if_neg c1, if_neg c2, if_pos c3]; simp⟩
        · rw [decide_eq_true (show (rd_T47 l n).f2 ≤ q by omega)]
          refine Ev.step (f := fun k => (kids.f k l n).bind fun r => (if (vfold l (rd_T47 l n) r.1).1 = true then tree_Valid.l0 k l q (n + 1) else some false)) (fun k => by rw [e, if_neg c1, if_neg c2, if_neg c3]) ?_
          refine k1.bind ?_
          by_cases c4 : (vfold l (rd_T47 l n) (kspec l n).1).1 = true
          · simp only [if_pos c4]
            rw [c4]
            simpa using ih
          · simp only [if_neg c4]
            rw [show (vfold l (rd_T47 l n) (kspec l n).1).1 = false by simpa using c4]
            simpa using Ev.now false
theorem Valid_is (l : List S47) (hl : l.length ≤ 4398046511104) (q : Int) : Ev (fun k => tree_Valid.f k l q) (validB l q) := by
  unfold tree_Valid.f validB
  refine (shaped_is l hl).bind ?_
  by_cases h : shapedB l = true
  · simp only [if_pos h]
    have h2 := h
    unfold shapedB at h2
    simp only [Bool.and_eq_true, decide_eq_true_eq] at h2
    rw [h, Bool.true_and, ← all_eq l q (fun m h3 h4 => allG_at l l.length 0 h2.2.2 m h3 (by omega))]
    exact valid_loop l hl q l.length 0 (by omega) (by omega)
  · simp only [if_neg h]
    rw [show shapedB l = false by simpa using h]
    exact Ev.now _

theorem rvalid_in (l : List S47) (q n : Int) (nd : S47) (ks : List Int) (hk : ks.length ≤ 4398046511104) (hm : ∀ y ∈ ks, 0 ≤ y ∧ y < (l.length : Int)) (r : Bool) (hr : Ev (fun k => monikerref4_Valid.l0 k q (wrap64 (n + 1)) l) r) (d : Nat) : ∀ (i : Nat) (en : Int), i ≤ ks.length → ks.length - i = d →
    Ev (fun k => monikerref4_Valid.l1 k q n ks en (i : Int) l nd.f0 nd.f1 nd.f2 nd.f3) (rf l nd (ks.drop i) en && r) := by
  induction d with
  | zero =>
    intro i en h1 h2
    rw [List.drop_eq_nil_of_le (by omega)]
    simp only [rf, Bool.true_and]
    refine Ev.step (fun k => ?_) hr
    simp only [monikerref4_Valid.l1]
    rw [if_neg (by omega)]
  | succ d ih =>
    intro i en h1 h2
    have hi : i < ks.length := by omega
    have hw : wrap64 ((i : Int) + 1) = ((i + 1 : Nat) : Int) := kw64 (by omega) (by omega)
    have hrd : rd ks (i : Int) = ks[i] := by simp [rd, List.getD_eq_getElem?_getD, hi]
    have hmi := hm _ (List.getElem_mem hi)
    have e : ∀ k, monikerref4_Valid.l1 (k + 1) q n ks en (i : Int) l nd.f0 nd.f1 nd.f2 nd.f3 = if (rd_T47 l ks[i]).f1 = (rd_T47 l ks[i]).f2 then (if (rd_T47 l ks[i]).f1 < nd.f1 then some false else monikerref4_Valid.l1 k q n ks en ((i + 1 : Nat) : Int) l nd.f0 nd.f1 nd.f2 nd.f3) else (if (rd_T47 l ks[i]).f1 < en then some false else if (rd_T47 l ks[i]).f2 > nd.f2 then some false else monikerref4_Valid.l1 k q n ks (rd_T47 l ks[i]).f2 ((i + 1 : Nat) : Int) l nd.f0 nd.f1 nd.f2 nd.f3) := by
      intro k
      simp only [monikerref4_Valid.l1, hrd, hw]
      rw [if_pos (by omega), if_pos (by omega), if_pos hmi.1, if_pos hmi.2]
    rw [List.drop_eq_getElem_cons hi]
    simp only [rf]
    by_cases c : (rd_T47 l ks[i]).f1 = (rd_T47 l ks[i]).f2
    · rw [if_pos c]
      by_cases c2 : (rd_T47 l ks[i]).f1 < nd.f1
      · rw [if_pos c2, Bool.false_and]
        exact ⟨1, fun m hm => by obtain ⟨k, rfl⟩ : ∃ j, m = j + 1 := ⟨m - 1, by omega⟩; simp only; rw [e, if_pos c, if_pos c2]⟩
      · rw [if_neg c2]
        refine Ev.step (fun k => ?_) (ih (i + 1) en (by omega) (by omega))
        rw [e, if_pos c, if_neg c2]
    · rw [if_neg c]
      by_cases c2 : (rd_T47 l ks[i]).f1 < en
      · rw [if_pos c2, Bool.false_and]
        exact ⟨1, fun m hm => by obtain ⟨k, rfl⟩ : ∃ j, m = j + 1 := ⟨m - 1, by omega⟩; simp only; rw [e, if_neg c, if_pos c2]⟩
      · rw [if_neg c2]
        by_cases c3 : (rd_T47 l ks[i]).f2 > nd.f2
        · rw [if_pos c3, Bool.false_and]
          exact ⟨1, fun m hm => by obtain ⟨k, rfl⟩ : ∃ j, m = j + 1 := ⟨m - 1, by omega⟩; simp only; rw [e, if_neg c, if_neg c2, if_pos c3]⟩
        · rw [if_neg c3]
          refine Ev.step (fun k => ?_) (ih (i + 1) _ (by omega) (by omega))
          rw [e, if_neg c, if_neg c2, if_neg c3]
theorem kidsOf_mem (l : List S47) (n : Int) : ∀ y ∈ kidsOf l n, 0 ≤ y ∧ y < (l.length : Int) := by
  unfold kidsOf
  split
  · exact kspec_mem l n
  · intro y hy; cases hy
theorem rvalid_loop (l : List S47) (hl : l.length ≤ 4398046511104) (q : Int) : ∀ (f : Nat) (n : Int), (l.length : Int) - n = f → 0 ≤ n → Ev (fun k => monikerref4_Valid.l0 k q n l) (allR l q f n)
  | 0, n, hf, h0 => by
    refine ⟨1, fun m hm => ?_⟩
    obtain ⟨k, rfl⟩ : ∃ j, m = j + 1 := ⟨m - 1, by omega⟩
    simp only [monikerref4_Valid.l0, allR]
    rw [if_neg (by omega)]
  | f + 1, n, hf, h0 => by
    have hlt : n < (l.length : Int) := by omega
    have ih := rvalid_loop l hl q f (n + 1) (by omega) (by omega)
    have hw1 : wrap64 (n + 1) = n + 1 := kw64 (by omega) (by omega)
    obtain ⟨_, k2, k3⟩ := Kids_all l hl n
    have hkl : (kidsOf l n).length ≤ 4398046511104 := by unfold kidsOf; split; omega; simp
    simp only [allR]
    unfold okS
    have hbad : Ev (fun k => monikerref4_Valid.j1 k q n true l (rd_T47 l n).f0 (rd_T47 l n).f1 (rd_T47 l n).f2 (rd_T47 l n).f3) false := ⟨1, fun m hm => by
      obtain ⟨k, rfl⟩ : ∃ j, m = j + 1 := ⟨m - 1, by omega⟩
      simp only [monikerref4_Valid.j1]; rfl⟩
    by_cases c1 : (rd_T47 l n).f1 < 0
    · rw [decide_eq_false (show ¬ 0 ≤ (rd_T47 l n).f1 by omega), Bool.false_and, Bool.false_and]
      refine Ev.step (fun k => ?_) hbad
      simp only [monikerref4_Valid.l0]
      rw [if_pos hlt, if_pos h0, if_pos c1]
    · rw [decide_eq_true (show 0 ≤ (rd_T47 l n).f1 by omega), Bool.true_and]
      by_cases c2 : (rd_T47 l n).f2 < (rd_T47 l n).f1
      · rw [decide_eq_false (show ¬ (rd_T47 l n).f1 ≤ (rd_T47 l n).f2 by omega), Bool.false_and, Bool.false_and]
        refine Ev.step (fun k => ?_) hbad
        simp only [monikerref4_Valid.l0]
        rw [if_pos hlt, if_pos h0, if_neg c1, if_pos c2]
      · rw [decide_eq_true (show (rd_T47 l n).f1 ≤ (rd_T47 l n).f2 by omega), Bool.true_and]
        by_cases c3 : (rd_T47 l n).f2 > q
        · rw [decide_eq_false (show ¬ (rd_T47 l n).f2 ≤ q by omega), Bool.false_and]
          refine Ev.step (fun k => ?_) hbad
          simp only [monikerref4_Valid.l0]
          rw [if_pos hlt, if_pos h0, if_neg c1, if_neg c2, decide_eq_true c3]
        · rw [decide_eq_true (show (rd_T47 l n).f2 ≤ q by omega), Bool.true_and]
          refine Ev.step (f := fun k => monikerref4_Valid.j1 k q n false l (rd_T47 l n).f0 (rd_T47 l n).f1 (rd_T47 l n).f2 (rd_T47 l n).f3) (fun k => by
            simp only [monikerref4_Valid.l0]
            rw [if_pos hlt, if_pos h0, if_neg c1, if_neg c2, decide_eq_false c3]) ?_
          refine Ev.step (f := fun k => (monikerref4_Kids.f k l n).bind fun bt301 => (monikerref4_Valid.l1 k q n bt301.1 (rd_T47 l n).f1 0 l (rd_T47 l n).f0 (rd_T47 l n).f1 (rd_T47 l n).f2 (rd_T47 l n).f3)) (fun k => by
            simp only [monikerref4_Valid.j1]
            rw [if_neg (by simp)]) ?_
          refine k3.bind ?_
          have := rvalid_in l q n (rd_T47 l n) (kidsOf l n) hkl (kidsOf_mem l n) _ (by rw [hw1]; exact ih) _ 0 (rd_T47 l n).f1 (by omega) rfl
          simpa using this
theorem RValid_is (l : List S47) (hl : l.length ≤ 4398046511104) (hk : ∀ x ∈ l, 0 ≤ x.f0 ∧ x.f0 ≤ 255) (q : Int) : Ev (fun k => monikerref4_Valid.f k l q) (validB l q) := by
  unfold monikerref4_Valid.f validB
  refine (RShaped_is l hl hk).bind ?_
  by_cases h : shapedB l = true
  · simp only [if_pos h]
    rw [h, Bool.true_and]
    exact rvalid_loop l hl q l.length 0 (by omega) (by omega)
  · simp only [if_neg h]
    rw [show shapedB l = false by simpa using h]
    exact Ev.now _
end Go.Proofs.Ytodldpdnhcafpaa.Q

namespace Go.Proofs.Ytodldpdnhcafpaa.H
open Go.RowKit Go.Proofs.YtodldpdnhcafpaaW.PrintWords Go.Proofs.YtodldpdnhcafpaaW.PrintLast Go.Proofs.YtodldpdnhcafpaaW.PrintMore
open Go.Proofs.Ytodldpdnhcafpaa.F
set_option linter.unusedVariables false
set_option linter.unusedSimpArgs false
theorem Reps.app {α : Type} {R : α → List Value → Prop} {size : Nat} {ps qs : List α} {cs ds : List Value} (h : Reps R size ps cs) (k : Reps R size qs ds) : Reps R size (ps ++ qs) (cs ++ ds) := by
  refine ⟨by rw [List.length_append, h.1, k.1, List.length_append, Nat.add_mul], fun j q hq => ?_⟩
  rcases Nat.lt_or_ge j ps.length with hj | hj
  · rw [List.getElem?_append_left hj] at hq
    have h1 : j * size + size ≤ cs.length := by rw [h.1, ← Nat.succ_mul]; exact Nat.mul_le_mul_right _ hj
    have h2 := h.2 j q hq
    rw [List.drop_append_of_le_length (by omega), List.take_append_of_le_length (by rw [List.length_drop]; omega)]
    exact h2
  · rw [List.getElem?_append_right hj] at hq
    have h2 := k.2 _ q hq
    have e : j * size = cs.length + (j - ps.length) * size := by rw [h.1, ← Nat.add_mul]; congr 1; omega
    rw [e, List.drop_append, List.drop_eq_nil_of_le (by omega), List.nil_append, Nat.add_sub_cancel_left]
    exact h2

theorem row_cells61 {w : World} {A : Option Addr} {l : List S61} (hr : Kd.C k61 w A l.length l) :
    ∃ inner, Reps (k61.K w) 3 l inner ∧ (A = none → l.length = 0) ∧ ∀ ad, A = some ad → ∀ j u, inner[j]? = some u → w.cell? (ad.add j) = some u := by
  cases A with
  | none =>
    have h0 : l.length = 0 := by
      rcases Nat.eq_zero_or_pos l.length with h | h
      · exact h
      · obtain ⟨ad, e, _⟩ := hr.2.2 h
        cases e
    obtain rfl := List.eq_nil_of_length_eq_zero h0
    exact ⟨[], Reps.none _ _, fun _ => h0, (fun ad e => by cases e)⟩
  | some ad =>
    obtain ⟨inner, h1, h2⟩ := ReadsRow.inner_ (R := k61.K w) (size := 3) hr
    exact ⟨inner, h1, (fun e => by cases e), fun ad2 e => by cases e; exact h2⟩
theorem row_one61 {w : World} {l : List S61} {inner : List Value} (h : Reps (k61.K w) 3 l inner) : ∀ u ∈ inner, u.oneCell' = true := by
  intro u hu
  obtain ⟨i, hi, rfl⟩ := List.mem_iff_getElem.1 hu
  have hj : i / 3 < l.length := by have := h.1; omega
  have hk := h.2 (i / 3) (l[i / 3]'hj) (List.getElem?_eq_getElem hj)
  refine k61.K_one hk _ ?_
  rw [List.mem_iff_getElem]
  refine ⟨i % 3, by rw [List.length_take, List.length_drop]; have := h.1; omega, ?_⟩
  rw [List.getElem_take, List.getElem_drop]
  congr 1
  omega
def marks61 : List S61 := [⟨0, -5, -6⟩, ⟨77, 0, 0⟩]
def mcells61 : List Value := [.int .u8 0, .int .i64 (-5), .int .i64 (-6), .int .u8 77, .int .i64 0, .int .i64 0]
theorem mcell61 (w2 : World) (j : Nat) (u : Value) (hu : mcells61[j]? = some u) : (w2.alloc (.cells mcells61.toArray 61)).cell? ((⟨w2.heap.size, 0, none⟩ : Addr).add j) = some u := by
  rw [add_plain, World.cell?_alloc_new]; simpa using hu
theorem mcells61_one : ∀ u ∈ mcells61, u.oneCell' = true := by simp [mcells61, Value.oneCell']
theorem reps_marks61 (w : World) : Reps (k61.K w) 3 marks61 mcells61 := by
  refine ⟨rfl, fun j p hj => ?_⟩
  match j, hj with
  | 0, hj => cases hj; exact k61_mk w _
  | 1, hj => cases hj; exact k61_mk w _
  | j + 2, hj => simp [marks61] at hj
theorem C_of_own61 {w w3 : World} {base g c : Nat} {l : List S61} {inner : List Value} (hR : Reps (k61.K w) 3 l inner) (h : w3.ownsRow base 61 3 (.slice (some ⟨g, 0, none⟩) (l.length + 2) c) (l.length + 2) (inner ++ mcells61)) :
    Kd.C k61 w3 (some ⟨g, 0, none⟩) (l.length + 2) (l ++ marks61) := by
  have hk : ∀ (p : S61) cs, k61.K w p cs → k61.K w3 p cs := fun p cs h => by rw [k61_open h]; exact k61_mk w3 p
  obtain ⟨A, c', he, hrow⟩ := own_reads_row (R := k61.K w3) (ps := l ++ marks61) h (Reps.app (Reps.imp_ hR hk) (reps_marks61 w3)) (by simp [marks61])
  injection he with h1 _ _
  subst h1
  exact hrow
theorem C_lent61 {w : World} {A : Option Addr} {l : List S61} (h : Kd.C k61 w A (l.length + 2) (l ++ marks61)) : Kd.C k61 w A l.length l := by
  have h' : Kd.C k61 w A (l ++ marks61).length (l ++ marks61) := by rw [List.length_append]; exact h
  have h2 := Kd.C_take (m := l.length) h' (by simp)
  simpa using h2

theorem row_cells47 {w : World} {A : Option Addr} {l : List S47} (hr : Kd.C k47 w A l.length l) :
    ∃ inner, Reps (k47.K w) 4 l inner ∧ (A = none → l.length = 0) ∧ ∀ ad, A = some ad → ∀ j u, inner[j]? = some u → w.cell? (ad.add j) = some u := by
  cases A with
  | none =>
    have h0 : l.length = 0 := by
      rcases Nat.eq_zero_or_pos l.length with h | h
      · exact h
      · obtain ⟨ad, e, _⟩ := hr.2.2 h
        cases e
    obtain rfl := List.eq_nil_of_length_eq_zero h0
    exact ⟨[], Reps.none _ _, fun _ => h0, (fun ad e => by cases e)⟩
  | some ad =>
    obtain ⟨inner, h1, h2⟩ := ReadsRow.inner_ (R := k47.K w) (size := 4) hr
    exact ⟨inner, h1, (fun e => by cases e), fun ad2 e => by cases e; exact h2⟩
theorem row_one47 {w : World} {l : List S47} {inner : List Value} (h : Reps (k47.K w) 4 l inner) : ∀ u ∈ inner, u.oneCell' = true := by
  intro u hu
  obtain ⟨i, hi, rfl⟩ := List.mem_iff_getElem.1 hu
  have hj : i / 4 < l.length := by have := h.1; omega
  have hk := h.2 (i / 4) (l[i / 4]'hj) (List.getElem?_eq_getElem hj)
  refine k47.K_one hk _ ?_
  rw [List.mem_iff_getElem]
  refine ⟨i % 4, by rw [List.length_take, List.length_drop]; have := h.1; omega, ?_⟩
  rw [List.getElem_take, List.getElem_drop]
  congr 1
  omega
def marks47 : List S47 := [⟨99, -3, 0, -4⟩, ⟨0, 0, 12345, 0⟩]
def mcells47 : List Value := [.int .u8 99, .int .i64 (-3), .int .i64 0, .int .i64 (-4), .int .u8 0, .int .i64 0, .int .i64 12345, .int .i64 0]
theorem mcell47 (w2 : World) (j : Nat) (u : Value) (hu : mcells47[j]? = some u) : (w2.alloc (.cells mcells47.toArray 47)).cell? ((⟨w2.heap.size, 0, none⟩ : Addr).add j) = some u := by
  rw [add_plain, World.cell?_alloc_new]; simpa using hu
theorem mcells47_one : ∀ u ∈ mcells47, u.oneCell' = true := by simp [mcells47, Value.oneCell']
theorem reps_marks47 (w : World) : Reps (k47.K w) 4 marks47 mcells47 := by
  refine ⟨rfl, fun j p hj => ?_⟩
  match j, hj with
  | 0, hj => cases hj; exact k47_mk w _
  | 1, hj => cases hj; exact k47_mk w _
  | j + 2, hj => simp [marks47] at hj
theorem C_of_own47 {w w3 : World} {base g c : Nat} {l : List S47} {inner : List Value} (hR : Reps (k47.K w) 4 l inner) (h : w3.ownsRow base 47 4 (.slice (some ⟨g, 0, none⟩) (l.length + 2) c) (l.length + 2) (inner ++ mcells47)) :
    Kd.C k47 w3 (some ⟨g, 0, none⟩) (l.length + 2) (l ++ marks47) := by
  have hk : ∀ (p : S47) cs, k47.K w p cs → k47.K w3 p cs := fun p cs h => by rw [k47_open h]; exact k47_mk w3 p
  obtain ⟨A, c', he, hrow⟩ := own_reads_row (R := k47.K w3) (ps := l ++ marks47) h (Reps.app (Reps.imp_ hR hk) (reps_marks47 w3)) (by simp [marks47])
  injection he with h1 _ _
  subst h1
  exact hrow
theorem C_lent47 {w : World} {A : Option Addr} {l : List S47} (h : Kd.C k47 w A (l.length + 2) (l ++ marks47)) : Kd.C k47 w A l.length l := by
  have h' : Kd.C k47 w A (l ++ marks47).length (l ++ marks47) := by rw [List.length_append]; exact h
  have h2 := Kd.C_take (m := l.length) h' (by simp)
  simpa using h2

theorem own_set1 {w : World} {base n : Nat} {e : TypeId} {size : Nat} {v : Value} {xs : List Value} {g : Nat} (h : w.ownsRow base e size v n xs) (hne : v.ownBlock ≠ some g) (j : Nat) (u : Value) : (w.setCell ⟨g, j, none⟩ u).ownsRow base e size v n xs :=
  own_move h (fun k hk => Below.heap_setCell w ⟨g, j, none⟩ u k (by rintro rfl; exact hne hk))
theorem own_set3 {w : World} {base n : Nat} {e : TypeId} {size : Nat} {v : Value} {xs : List Value} {g : Nat} (h : w.ownsRow base e size v n xs) (hne : v.ownBlock ≠ some g) (i j k : Nat) (u u' u'' : Value) : (((w.setCell ⟨g, i, none⟩ u).setCell ⟨g, j, none⟩ u').setCell ⟨g, k, none⟩ u'').ownsRow base e size v n xs :=
  own_set1 (own_set1 (own_set1 h hne i u) hne j u') hne k u''
section
variable {P : Program} {ops : Array Oper} {rest : List Oper} {o : Oper} {a : Act} {Q : Exit → Act → World → Prop}
/-- make([]T, 0, n), the block a letter. -/
theorem make_g {W : World} (hg : o.guard = none) (l c : Operand) (t : TypeId) (hop : o.op = Op.makeSlice t l c) (base : Nat) (e : TypeId) (i : TypeInfo) (z : Value) (size : Nat) (h1 : P.underlying t = some (.slice e)) (h2 : P.info? e = some i) (h3 : i.zero = some z) (h4 : i.size = size)
    (kl kc : IntKind) (C : Int) (n : Nat) (hl : a.eval l = .int kl 0) (hc : a.eval c = .int kc C) (hC : C = (n : Int)) (b2 : i.bytes * n ≤ 281474976710656) (b3 : n ≤ maxLen) (b4 : base ≤ W.heap.size)
    (hK : ∀ g w', W.heap.size ≤ g → w'.ownsRow base e size (.slice (some ⟨g, 0, none⟩) 0 n) 0 [] → W.grownBy w' none → wpList P ops Q rest (a.put o.dst (.slice (some ⟨g, 0, none⟩) 0 n)) w') :
    wpList P ops Q (o :: rest) a W :=
  wpList_make_own W hg l c t hop base e i z size h1 h2 h3 h4 kl kc C n hl hc hC b2 b3 b4 (hK _ · (Nat.le_refl _))
end
 
def LentPost (t : ByteArray) (ps : List S61) (ns : List S47) (w : World) (e : Ending) (w' : World) : Prop :=
  ∃ A B, e = .returned (.agg #[.string t, .slice A ps.length (ps.length + 2), .slice B ns.length (ns.length + 2)]) ∧ Kd.C k61 w' A (ps.length + 2) (ps ++ marks61) ∧ Kd.C k47 w' B (ns.length + 2) (ns ++ marks47) ∧ Below w.heap.size w w'

set_option maxHeartbeats 2000000 in
theorem lent_calls (t : ByteArray) (A1 : Option Addr) (c1 : Nat) (ps : List S61) (A2 : Option Addr) (c2 : Nat) (ns : List S47) (w : World)
    (hr1 : Kd.C k61 w A1 ps.length ps) (hc1 : ps.length ≤ c1) (hn1 : A1 = none → c1 = 0) (hb1 : ps.length * 24 ≤ 140737488351232)
    (hr2 : Kd.C k47 w A2 ns.length ns) (hc2 : ns.length ≤ c2) (hn2 : A2 = none → c2 = 0) (hb2 : ns.length * 32 ≤ 140737488351232) :
    Calls Try.prog 18 #[.agg #[.string t, .slice A1 ps.length c1, .slice A2 ns.length c2]] w (LentPost t ps ns w) := by
  have hu61 := Try.underlying61
  have hu47 := Try.underlying47
  have hu27 := Try.underlying27
  have hu25 := Try.underlying25
  obtain ⟨i, hi, hz0, hz1, hz2⟩ := info_parts info61
  obtain ⟨i', hi', hz0', hz1', hz2'⟩ := info_parts info47
  obtain ⟨inner, hR, hA, hcell⟩ := row_cells61 hr1
  obtain ⟨inner', hR', hA', hcell'⟩ := row_cells47 hr2
  have HR := Aside0.mk hR
  have hlen : inner.length = ps.length * 3 := hR.1
  have HL := Aside0.mk hlen
  have HC := Aside0.mk hcell
  have HN := Aside0.mk hn1
  have HA := Aside0.mk hA
  have HY := Aside0.mk hz2
  have HI := Aside0.mk hi
  have HZ0 := Aside0.mk hz0
  have HZ1 := Aside0.mk hz1
  have HR' := Aside0.mk hR'
  have hlen' : inner'.length = ns.length * 4 := hR'.1
  have HL' := Aside0.mk hlen'
  have HC' := Aside0.mk hcell'
  have HN' := Aside0.mk hn2
  have HA' := Aside0.mk hA'
  have HY' := Aside0.mk hz2'
  have HI' := Aside0.mk hi'
  have HZ0' := Aside0.mk hz0'
  have HZ1' := Aside0.mk hz1'
  clear hR hcell hr1 hn1 hA hlen hz2 hi hz0 hz1 hR' hcell' hr2 hn2 hA' hlen' hz2' hi' hz0' hz1'
  have hl : ps.length ≤ 5864062014634 := by omega
  have hl' : ns.length ≤ 4398046510976 := by omega
  go_enter Try.func18, Try.ntmps18
  go_wp2_with (first
    | ((with_reducible refine gate_dst (N := 1) rfl ?_); refine box_event ?hg (N := 1) ?hd (cs := #[.string t, .slice A1 ps.length c1, .slice A2 ns.length c2]) (t := 27) ?hr ?_; (case hd => rfl); (case hg => rfl); (case hr => first | (go_simp; done) | (go_simp; rfl)); intro gb1 hge w1 hbox hb; have BK1 := Aside0.mk hbox; have HB := Aside0.mk hb; clear hbox hge hb; have hx0 : w1.cell? ⟨gb1, 0, none⟩ = some (.string t) := (blk_cell BK1.out 0).trans rfl; have hx1 : w1.cell? ⟨gb1, 1, none⟩ = some (.slice A1 ps.length c1) := (blk_cell BK1.out 1).trans rfl; have hx2 : w1.cell? ⟨gb1, 2, none⟩ = some (.slice A2 ns.length c2) := (blk_cell BK1.out 2).trans rfl)
    | ((with_reducible refine gate_dst (N := 2) rfl ?_); refine box_event ?hg (N := 2) ?hd (cs := #[.string ⟨#[]⟩, .slice none 0 0, .slice none 0 0]) (t := 27) ?hr ?_; (case hd => rfl); (case hg => rfl); (case hr => first | (go_simp; done) | (go_simp; rfl)); intro gb2 hge w2 hbox hb; have BK2 := Aside0.mk hbox; have GE2 := Aside0.mk (show w.heap.size ≤ gb2 by rw [hge]; exact HB.out.size); clear hx0 hx1 hx2; have n0_ := Aside0.mk (blk_below BK1.out hb); have n1_ := Aside0.mk (below_step HB.out hb); clear BK1; clear HB; have BK1 := n0_; have HB := n1_; clear n0_ n1_; clear hbox hge hb; have hx0 : w2.cell? ⟨gb1, 0, none⟩ = some (.string t) := (blk_cell BK1.out 0).trans rfl; have hx1 : w2.cell? ⟨gb1, 1, none⟩ = some (.slice A1 ps.length c1) := (blk_cell BK1.out 1).trans rfl; have hx2 : w2.cell? ⟨gb1, 2, none⟩ = some (.slice A2 ns.length c2) := (blk_cell BK1.out 2).trans rfl)
    | ((with_reducible refine gate_dst (N := 9) rfl ?_); refine make_g rfl _ _ 22 rfl w.heap.size 61 i _ 3 Try.underlying22 HI.out HZ0.out HZ1.out _ _ _ (ps.length + 2) rfl rfl (by first | rfl | (simp; done) | omega) (by rw [HY.out]; omega) (by unfold maxLen; omega) HB.out.size ?_; intro ga w3 hge hown hg; have HOa := Aside0.mk hown; have NE1ga := Aside0.mk (Nat.ne_of_lt (Nat.lt_of_lt_of_le (blk_lt BK1.out) hge)); have NE2ga := Aside0.mk (Nat.ne_of_lt (Nat.lt_of_lt_of_le (blk_lt BK2.out) hge)); have GEga := Aside0.mk (Nat.le_trans HB.out.size hge); clear hx0 hx1 hx2; have n0_ := Aside0.mk (blk_grown BK1.out hg (by simp)); have n1_ := Aside0.mk (blk_grown BK2.out hg (by simp)); have n2_ := Aside0.mk (HB.out.grown hg HB.out.size (by simp)); clear BK1; clear BK2; clear HB; have BK1 := n0_; have BK2 := n1_; have HB := n2_; clear n0_ n1_ n2_; clear hown hg hge; have hx0 : w3.cell? ⟨gb1, 0, none⟩ = some (.string t) := (blk_cell BK1.out 0).trans rfl; have hx1 : w3.cell? ⟨gb1, 1, none⟩ = some (.slice A1 ps.length c1) := (blk_cell BK1.out 1).trans rfl; have hx2 : w3.cell? ⟨gb1, 2, none⟩ = some (.slice A2 ns.length c2) := (blk_cell BK1.out 2).trans rfl)
    | ((with_reducible refine gate_dst (N := 13) rfl ?_); refine wpList_append_fits_any _ rfl _ _ 22 rfl w.heap.size 61 i 3 Try.underlying22 HI.out HZ1.out ga 0 (ps.length + 2) [] rfl HOa.out A1 ps.length c1 inner rfl HL.out (fun e => ⟨HA.out e, HN.out e⟩) (fun ad e j u hu => pw_cell_below HB.out (HC.out ad e j u hu)) (row_one61 HR.out) (by omega) ?_; intro w4 hown hg; simp only [Nat.zero_add, List.nil_append] at hown; clear HOa; have HOa := Aside0.mk hown; clear hx0 hx1 hx2; have n0_ := Aside0.mk (blk_grown BK1.out hg (by simpa using NE1ga.out)); have n1_ := Aside0.mk (blk_grown BK2.out hg (by simpa using NE2ga.out)); have n2_ := Aside0.mk (HB.out.grown hg HB.out.size (by rintro k ⟨⟩; exact GEga.out)); clear BK1; clear BK2; clear HB; have BK1 := n0_; have BK2 := n1_; have HB := n2_; clear n0_ n1_ n2_; clear hown hg; have hx0 : w4.cell? ⟨gb1, 0, none⟩ = some (.string t) := (blk_cell BK1.out 0).trans rfl; have hx1 : w4.cell? ⟨gb1, 1, none⟩ = some (.slice A1 ps.length c1) := (blk_cell BK1.out 1).trans rfl; have hx2 : w4.cell? ⟨gb1, 2, none⟩ = some (.slice A2 ns.length c2) := (blk_cell BK1.out 2).trans rfl; rw [Nat.zero_add])
    | ((with_reducible refine gate_dst (N := 18) rfl ?_); refine wpList_append_fits _ rfl _ _ 22 rfl w.heap.size 61 i 3 Try.underlying22 HI.out HZ1.out ga ps.length (ps.length + 2) inner rfl (HOa.out.alloc _) ⟨w4.heap.size, 0, none⟩ 2 2 mcells61 rfl rfl (fun j u hu => mcell61 w4 j u hu) mcells61_one (by omega) ?_; intro w5 hown hg; clear HOa; have HOa := Aside0.mk hown; clear hx0 hx1 hx2; have n0_ := Aside0.mk (blk_grown (blk_alloc BK1.out (.cells mcells61.toArray 61)) hg (by simpa using NE1ga.out)); have n1_ := Aside0.mk (blk_grown (blk_alloc BK2.out (.cells mcells61.toArray 61)) hg (by simpa using NE2ga.out)); have n2_ := Aside0.mk ((below_alloc HB.out (.cells mcells61.toArray 61)).grown hg (below_alloc HB.out (.cells mcells61.toArray 61)).size (by rintro k ⟨⟩; exact GEga.out)); clear BK1; clear BK2; clear HB; have BK1 := n0_; have BK2 := n1_; have HB := n2_; clear n0_ n1_ n2_; clear hown hg; have hx0 : w5.cell? ⟨gb1, 0, none⟩ = some (.string t) := (blk_cell BK1.out 0).trans rfl; have hx1 : w5.cell? ⟨gb1, 1, none⟩ = some (.slice A1 ps.length c1) := (blk_cell BK1.out 1).trans rfl; have hx2 : w5.cell? ⟨gb1, 2, none⟩ = some (.slice A2 ns.length c2) := (blk_cell BK1.out 2).trans rfl)
    | ((with_reducible refine gate_dst (N := 24) rfl ?_); refine make_g rfl _ _ 23 rfl w.heap.size 47 i' _ 4 Try.underlying23 HI'.out HZ0'.out HZ1'.out _ _ _ (ns.length + 2) rfl rfl (by first | rfl | (simp; done) | omega) (by rw [HY'.out]; omega) (by unfold maxLen; omega) HB.out.size ?_; intro gc w6 hge hown hg; have HOb := Aside0.mk hown; have NE1gc := Aside0.mk (Nat.ne_of_lt (Nat.lt_of_lt_of_le (blk_lt BK1.out) hge)); have NE2gc := Aside0.mk (Nat.ne_of_lt (Nat.lt_of_lt_of_le (blk_lt BK2.out) hge)); have GEgc := Aside0.mk (Nat.le_trans HB.out.size hge); have NEa := Aside0.mk (Nat.ne_of_lt (Nat.lt_of_lt_of_le (own_lt HOa.out ga rfl) hge)); clear hx0 hx1 hx2; have n0_ := Aside0.mk (blk_grown BK1.out hg (by simp)); have n1_ := Aside0.mk (blk_grown BK2.out hg (by simp)); have n2_ := Aside0.mk (HB.out.grown hg HB.out.size (by simp)); have n3_ := Aside0.mk (HOa.out.kept hg (.inr (by simp [Value.ownBlock]))); clear BK1; clear BK2; clear HB; clear HOa; have BK1 := n0_; have BK2 := n1_; have HB := n2_; have HOa := n3_; clear n0_ n1_ n2_ n3_; clear hown hg hge; have hx0 : w6.cell? ⟨gb1, 0, none⟩ = some (.string t) := (blk_cell BK1.out 0).trans rfl; have hx1 : w6.cell? ⟨gb1, 1, none⟩ = some (.slice A1 ps.length c1) := (blk_cell BK1.out 1).trans rfl; have hx2 : w6.cell? ⟨gb1, 2, none⟩ = some (.slice A2 ns.length c2) := (blk_cell BK1.out 2).trans rfl)
    | ((with_reducible refine gate_dst (N := 29) rfl ?_); refine wpList_append_fits_any _ rfl _ _ 23 rfl w.heap.size 47 i' 4 Try.underlying23 HI'.out HZ1'.out gc 0 (ns.length + 2) [] rfl HOb.out A2 ns.length c2 inner' rfl HL'.out (fun e => ⟨HA'.out e, HN'.out e⟩) (fun ad e j u hu => pw_cell_below HB.out (HC'.out ad e j u hu)) (row_one47 HR'.out) (by omega) ?_; intro w7 hown hg; simp only [Nat.zero_add, List.nil_append] at hown; clear HOb; have HOb := Aside0.mk hown; clear hx0 hx1 hx2; have n0_ := Aside0.mk (blk_grown BK1.out hg (by simpa using NE1gc.out)); have n1_ := Aside0.mk (blk_grown BK2.out hg (by simpa using NE2gc.out)); have n2_ := Aside0.mk (HB.out.grown hg HB.out.size (by rintro k ⟨⟩; exact GEgc.out)); have n3_ := Aside0.mk (HOa.out.kept hg (.inr (by simpa [Value.ownBlock] using NEa.out))); clear BK1; clear BK2; clear HB; clear HOa; have BK1 := n0_; have BK2 := n1_; have HB := n2_; have HOa := n3_; clear n0_ n1_ n2_ n3_; clear hown hg; have hx0 : w7.cell? ⟨gb1, 0, none⟩ = some (.string t) := (blk_cell BK1.out 0).trans rfl; have hx1 : w7.cell? ⟨gb1, 1, none⟩ = some (.slice A1 ps.length c1) := (blk_cell BK1.out 1).trans rfl; have hx2 : w7.cell? ⟨gb1, 2, none⟩ = some (.slice A2 ns.length c2) := (blk_cell BK1.out 2).trans rfl; rw [Nat.zero_add])
    | ((with_reducible refine gate_dst (N := 34) rfl ?_); refine wpList_append_fits _ rfl _ _ 23 rfl w.heap.size 47 i' 4 Try.underlying23 HI'.out HZ1'.out gc ns.length (ns.length + 2) inner' rfl (HOb.out.alloc _) ⟨w7.heap.size, 0, none⟩ 2 2 mcells47 rfl rfl (fun j u hu => mcell47 w7 j u hu) mcells47_one (by omega) ?_; intro w8 hown hg; clear HOb; have HOb := Aside0.mk hown; clear hx0 hx1 hx2; have n0_ := Aside0.mk (blk_grown (blk_alloc BK1.out (.cells mcells47.toArray 47)) hg (by simpa using NE1gc.out)); have n1_ := Aside0.mk (blk_grown (blk_alloc BK2.out (.cells mcells47.toArray 47)) hg (by simpa using NE2gc.out)); have n2_ := Aside0.mk ((below_alloc HB.out (.cells mcells47.toArray 47)).grown hg (below_alloc HB.out (.cells mcells47.toArray 47)).size (by rintro k ⟨⟩; exact GEgc.out)); have n3_ := Aside0.mk ((HOa.out.alloc (.cells mcells47.toArray 47)).kept hg (.inr (by simpa [Value.ownBlock] using NEa.out))); clear BK1; clear BK2; clear HB; clear HOa; have BK1 := n0_; have BK2 := n1_; have HB := n2_; have HOa := n3_; clear n0_ n1_ n2_ n3_; clear hown hg; have hx0 : w8.cell? ⟨gb1, 0, none⟩ = some (.string t) := (blk_cell BK1.out 0).trans rfl; have hx1 : w8.cell? ⟨gb1, 1, none⟩ = some (.slice A1 ps.length c1) := (blk_cell BK1.out 1).trans rfl; have hx2 : w8.cell? ⟨gb1, 2, none⟩ = some (.slice A2 ns.length c2) := (blk_cell BK1.out 2).trans rfl; have hy0 : w8.cell? ⟨gb2, 0, none⟩ = some (.string ⟨#[]⟩) := (blk_cell BK2.out 0).trans rfl; have hz0 := blk_frozen BK2.out 0; have hy1 : w8.cell? ⟨gb2, 1, none⟩ = some (.slice none 0 0) := (blk_cell BK2.out 1).trans rfl; have hz1 := blk_frozen BK2.out 1; have hy2 : w8.cell? ⟨gb2, 2, none⟩ = some (.slice none 0 0) := (blk_cell BK2.out 2).trans rfl; have hz2 := blk_frozen BK2.out 2))
  go_region
  go_wp2
  have hfin : ((((w8.setCell ⟨gb2, 0, none⟩ (.string t)).setCell ⟨gb2, 1, none⟩ (.slice (some ⟨ga, 0, none⟩) ps.length (ps.length + 2))).setCell ⟨gb2, 2, none⟩ (.slice (some ⟨gc, 0, none⟩) ns.length (ns.length + 2))).drew).heap[gb2]? = some (.cells #[.string t, .slice (some ⟨ga, 0, none⟩) ps.length (ps.length + 2), .slice (some ⟨gc, 0, none⟩) ns.length (ns.length + 2)] 27 (0, 0)) := by
    refine blk_drew ?_
    refine blk_put (cs := #[.string t, .slice (some ⟨ga, 0, none⟩) ps.length (ps.length + 2), .slice none 0 0]) ?_ 2 _ rfl
    refine blk_put (cs := #[.string t, .slice none 0 0, .slice none 0 0]) ?_ 1 _ rfl
    refine blk_put (cs := #[.string ⟨#[]⟩, .slice none 0 0, .slice none 0 0]) ?_ 0 _ rfl
    exact BK2.out
  refine bodyPost_ret (results_cell_row rfl _ _ gb2 27 #[.string t, .slice (some ⟨ga, 0, none⟩) ps.length (ps.length + 2), .slice (some ⟨gc, 0, none⟩) ns.length (ns.length + 2)] (0, 0) _ rfl hfin Try.underlying27 rfl (by kernel_rfl)) rfl ?_
  have hb8 : Below w.heap.size w ((((w8.setCell ⟨gb2, 0, none⟩ (.string t)).setCell ⟨gb2, 1, none⟩ (.slice (some ⟨ga, 0, none⟩) ps.length (ps.length + 2))).setCell ⟨gb2, 2, none⟩ (.slice (some ⟨gc, 0, none⟩) ns.length (ns.length + 2))).drew) := by
    refine below_drew ?_
    refine below_set ?_ GE2.out
    refine below_set ?_ GE2.out
    refine below_set ?_ GE2.out
    exact HB.out
  have na : (some gb2 : Option Nat) ≠ some ga := by simpa using NE2ga.out
  have nc : (some gb2 : Option Nat) ≠ some gc := by simpa using NE2gc.out
  have ra := (own_set3 HOa.out (by simpa [Value.ownBlock] using Ne.symm na) 0 1 2 (.string t) (.slice (some ⟨ga, 0, none⟩) ps.length (ps.length + 2)) (.slice (some ⟨gc, 0, none⟩) ns.length (ns.length + 2))).drew
  have rc := (own_set3 HOb.out (by simpa [Value.ownBlock] using Ne.symm nc) 0 1 2 (.string t) (.slice (some ⟨ga, 0, none⟩) ps.length (ps.length + 2)) (.slice (some ⟨gc, 0, none⟩) ns.length (ns.length + 2))).drew
  exact ⟨_, _, rfl, C_of_own61 HR.out ra, C_of_own47 HR'.out rc, hb8⟩
end Go.Proofs.Ytodldpdnhcafpaa.H

-- A text of this session's own program (wip/myprint.sh over a changed print tool): functions and their walks
namespace Go.Proofs.Ytodldpdnhcafpaa.F
open Go.RowKit Go.Proofs.YtodldpdnhcafpaaW.PrintWords Go.Proofs.YtodldpdnhcafpaaW.PrintLast Go.Proofs.YtodldpdnhcafpaaW.PrintMore
attribute [local go_sem] max2_int min2_int max_two min_two max_three min_three max_four min_four   -- for this text's walks alone
set_option linter.unusedVariables false
set_option linter.unusedSimpArgs false

theorem eqA61 (d : Nat) (w : World) (x0 y0 : Int) (x1 y1 : Int) (x2 y2 : Int) :
    (Op.equalIn (d + 2) 61 (.agg #[.int .u8 x0, .int .i64 x1, .int .i64 x2]) (.agg #[.int .u8 y0, .int .i64 y1, .int .i64 y2])).run Try.prog w = .ok (x0 == y0 && (x1 == y1 && (x2 == y2))) w := by
  refine eqA_of Try.underlying61 (by kernel_rfl) ?_
  refine eqf_cons (by rfl) (by go_simp; rfl) (by go_simp; rfl) (by go_simp) ?_
  refine eqf_cons (by rfl) (by go_simp; rfl) (by go_simp; rfl) (by go_simp) ?_
  exact eqf_last (by rfl) (by go_simp; rfl) (by go_simp; rfl) (by go_simp)
end Go.Proofs.Ytodldpdnhcafpaa.F

-- A text of this session's own program (wip/myprint.sh over a changed print tool): functions and their walks
namespace Go.Proofs.Ytodldpdnhcafpaa.F
open Go.RowKit Go.Proofs.YtodldpdnhcafpaaW.PrintWords Go.Proofs.YtodldpdnhcafpaaW.PrintLast Go.Proofs.YtodldpdnhcafpaaW.PrintMore
attribute [local go_sem] max2_int min2_int max_two min_two max_three min_three max_four min_four   -- for this text's walks alone
set_option linter.unusedVariables false
set_option linter.unusedSimpArgs false

attribute [local go_sem high] eqA61
/-! ### monikerplain_SameTokens: function 46 -/
def monikerplain_SameTokens.l0 : Nat → List (S61) → List (S61) → Int → Int → Option (Bool)
  | 0, _, _, _, _ => none
  | k + 1, x0, x1, x12, x13 => if x13 < x12 then (if 0 ≤ x13 then (if x13 < (x0.length : Int) then (if x13 < (x1.length : Int) then (if (!(((rd_T61 x0 x13).f0) == ((rd_T61 x1 x13).f0)) || (!(((rd_T61 x0 x13).f1) == ((rd_T61 x1 x13).f1)) || (!(((rd_T61 x0 x13).f2) == ((rd_T61 x1 x13).f2))))) = true then (some false) else (monikerplain_SameTokens.l0 k x0 x1 x12 (wrap64 (x13 + 1)))) else (none)) else (none)) else (none)) else (some true)
def monikerplain_SameTokens.f (k : Nat) (l0 : List (S61)) (l1 : List (S61)) : Option (Bool) := if (l0.length : Int) = (l1.length : Int) then (monikerplain_SameTokens.l0 k l0 l1 (l0.length : Int) 0) else (some false)
set_option maxHeartbeats 8000000 in
set_option maxRecDepth 100000 in
theorem monikerplain_SameTokens.calls (k : Nat) (A0 : Option Addr) (c0 : Nat) (l0 : List (S61)) (A1 : Option Addr) (c1 : Nat) (l1 : List (S61)) (r : Bool) (w : World) (hr0 : Kd.C k61 w A0 l0.length l0) (hc0 : l0.length ≤ c0) (hr1 : Kd.C k61 w A1 l1.length l1) (hc1 : l1.length ≤ c1) (h : monikerplain_SameTokens.f k l0 l1 = some r) :
    Calls Try.prog 46 #[.slice A0 l0.length c0, .slice A1 l1.length c1] w fun e w' => e = .returned (.bool r) ∧ Drawn0 w w' := by
  have hu61 := Try.underlying61
  have HR0 := Aside0.mk hr0
  have HC0 := Aside0.mk hc0
  clear hr0 hc0
  have HR1 := Aside0.mk hr1
  have HC1 := Aside0.mk hc1
  clear hr1 hc1
  have H : (if (l0.length : Int) = (l1.length : Int) then (monikerplain_SameTokens.l0 k l0 l1 (l0.length : Int) 0) else (some false)) = some r := h
  clear h
  by_cases c3 : (l0.length : Int) = (l1.length : Int)
  · rw [if_pos c3] at H
    have c3b0 : ((l0.length : Int) == (l1.length : Int)) = true := beq_iff_eq.mpr c3
    have c3b1 : ((l0.length : Int) != (l1.length : Int)) = false := bne_eq_false_iff_eq.mpr c3
    have c3b2 : (l0.length == l1.length) = true := by first | simpa using c3 | (simp at c3 ⊢; omega)
    clear c3
    have H' := Aside0.mk H
    clear H
    go_enter Try.func46, Try.ntmps46
    go_wp2
    repeat (go_quiet (fail); try go_wp2)
    go_loopg [13] k (fun kq v13 w' => ∃ (x13_1 : Int), v13 = .int .i64 x13_1 ∧ Aside0 (monikerplain_SameTokens.l0 kq l0 l1 (l0.length : Int) x13_1 = some r) ∧ Aside0 (kq ≤ k) ∧ Drawn0 w w')
    case atStart => exact ⟨(0), (by first | rfl | (simp; done) | (simp [*]; done)), H', ⟨Nat.le_refl _⟩, by repeat (first | exact Drawn0.refl _ | apply Drawn0.step)⟩
    case round =>
      clear H'
      try clear c1
      try clear p2
      try clear c3
      try clear c3b0
      try clear c3b1
      try clear c3b2
      obtain ⟨x13_1, rfl, HA, HK1, ⟨m1, rfl⟩⟩ := hrel
      cases gk with
      | zero => exact absurd HA.out (by simp [monikerplain_SameTokens.l0])
      | succ k1 =>
        have H := HA.out
        clear HA
        simp only [monikerplain_SameTokens.l0] at H
        by_cases c4 : x13_1 < (l0.length : Int)
        · rw [if_pos c4] at H
          have c4b0 : decide (x13_1 < (l0.length : Int)) = true := decide_eq_true c4
          clear c4
          by_cases c5 : 0 ≤ x13_1
          · rw [if_pos c5] at H
            have c5b0 : decide (0 ≤ x13_1) = true := decide_eq_true c5
            clear c5
            by_cases c6 : x13_1 < (l0.length : Int)
            · rw [if_pos c6] at H
              have c6b0 : decide (x13_1 < (l0.length : Int)) = true := decide_eq_true c6
              clear c6
              by_cases c7 : x13_1 < (l1.length : Int)
              · rw [if_pos c7] at H
                have c7b0 : decide (x13_1 < (l1.length : Int)) = true := decide_eq_true c7
                clear c7
                by_cases c8 : (!(((rd_T61 l0 x13_1).f0) == ((rd_T61 l1 x13_1).f0)) || (!(((rd_T61 l0 x13_1).f1) == ((rd_T61 l1 x13_1).f1)) || (!(((rd_T61 l0 x13_1).f2) == ((rd_T61 l1 x13_1).f2))))) = true
                · rw [if_pos c8] at H
                  have c8b0 : (!(((rd_T61 l0 x13_1).f0) == ((rd_T61 l1 x13_1).f0)) || (!(((rd_T61 l0 x13_1).f1) == ((rd_T61 l1 x13_1).f1)) || (!(((rd_T61 l0 x13_1).f2) == ((rd_T61 l1 x13_1).f2))))) = true := c8
                  clear c8
                  obtain rfl := Option.some.inj H
                  have p145 : 0 ≤ (x13_1 : Int) := of_decide_eq_true (by first | (with_reducible assumption) | assumption)
                  have q145 : x13_1 < (l0.length : Int) := of_decide_eq_true (by first | (with_reducible assumption) | assumption)
                  obtain ⟨ad145, e145, hx145_0, hx145_1, hx145_2⟩ := at_T61 HR0.out x13_1 p145 q145
                  cases e145
                  replace p145 := eq_true p145
                  replace q145 := eq_true q145
                  have p146 : 0 ≤ (x13_1 : Int) := of_decide_eq_true (by first | (with_reducible assumption) | assumption)
                  have q146 : x13_1 < (l1.length : Int) := of_decide_eq_true (by first | (with_reducible assumption) | assumption)
                  obtain ⟨ad146, e146, hx146_0, hx146_1, hx146_2⟩ := at_T61 HR1.out x13_1 p146 q146
                  cases e146
                  replace p146 := eq_true p146
                  replace q146 := eq_true q146
                  go_wp2
                  repeat (go_quiet (fail); try go_wp2)
                  go_ret
                  exact ⟨by first | rfl | (simp; done) | (simp [*]; done), by repeat (first | exact Drawn0.refl _ | apply Drawn0.step)⟩
                · rw [if_neg c8] at H
                  have c8b0 : (!(((rd_T61 l0 x13_1).f0) == ((rd_T61 l1 x13_1).f0)) || (!(((rd_T61 l0 x13_1).f1) == ((rd_T61 l1 x13_1).f1)) || (!(((rd_T61 l0 x13_1).f2) == ((rd_T61 l1 x13_1).f2))))) = false := by simpa using c8
                  clear c8
                  have H' := Aside0.mk H
                  clear H
                  have p145 : 0 ≤ (x13_1 : Int) := of_decide_eq_true (by first | (with_reducible assumption) | assumption)
                  have q145 : x13_1 < (l0.length : Int) := of_decide_eq_true (by first | (with_reducible assumption) | assumption)
                  obtain ⟨ad145, e145, hx145_0, hx145_1, hx145_2⟩ := at_T61 HR0.out x13_1 p145 q145
                  cases e145
                  replace p145 := eq_true p145
                  replace q145 := eq_true q145
                  have p146 : 0 ≤ (x13_1 : Int) := of_decide_eq_true (by first | (with_reducible assumption) | assumption)
                  have q146 : x13_1 < (l1.length : Int) := of_decide_eq_true (by first | (with_reducible assumption) | assumption)
                  obtain ⟨ad146, e146, hx146_0, hx146_1, hx146_2⟩ := at_T61 HR1.out x13_1 p146 q146
                  cases e146
                  replace p146 := eq_true p146
                  replace q146 := eq_true q146
                  go_wp2
                  repeat (go_quiet (fail); try go_wp2)
                  go_roundg k1
                  case measure => have := HK1.out; omega
                  case rel => exact ⟨(wrap64 (x13_1 + 1)), (by first | rfl | (simp; done) | (simp [*]; done)), H', ⟨by have := HK1.out; omega⟩, by repeat (first | exact Drawn0.refl _ | apply Drawn0.step)⟩
              · rw [if_neg c7] at H
                exact absurd H (by simp)
            · rw [if_neg c6] at H
              exact absurd H (by simp)
          · rw [if_neg c5] at H
            exact absurd H (by simp)
        · rw [if_neg c4] at H
          have c4b0 : decide (x13_1 < (l0.length : Int)) = false := decide_eq_false c4
          clear c4
          obtain rfl := Option.some.inj H
          go_wp2
          repeat (go_quiet (fail); try go_wp2)
          go_ret
          exact ⟨by first | rfl | (simp; done) | (simp [*]; done), by repeat (first | exact Drawn0.refl _ | apply Drawn0.step)⟩
  · rw [if_neg c3] at H
    have c3b0 : ((l0.length : Int) == (l1.length : Int)) = false := beq_eq_false_iff_ne.mpr c3
    have c3b1 : ((l0.length : Int) != (l1.length : Int)) = true := bne_iff_ne.mpr c3
    have c3b2 : (l0.length == l1.length) = false := by first | simpa using c3 | (simp at c3 ⊢; omega)
    obtain rfl := Option.some.inj H
    go_enter Try.func46, Try.ntmps46
    go_wp2
    repeat (go_quiet (fail); try go_wp2)
    go_ret
    exact ⟨by first | rfl | (simp; done) | (simp [*]; done), by repeat (first | exact Drawn0.refl _ | apply Drawn0.step)⟩

end Go.Proofs.Ytodldpdnhcafpaa.F

-- A text of this session's own program (wip/myprint.sh over a changed print tool): functions and their walks
namespace Go.Proofs.Ytodldpdnhcafpaa.F
open Go.RowKit Go.Proofs.YtodldpdnhcafpaaW.PrintWords Go.Proofs.YtodldpdnhcafpaaW.PrintLast Go.Proofs.YtodldpdnhcafpaaW.PrintMore
attribute [local go_sem] max2_int min2_int max_two min_two max_three min_three max_four min_four   -- for this text's walks alone
set_option linter.unusedVariables false
set_option linter.unusedSimpArgs false

theorem eqA47 (d : Nat) (w : World) (x0 y0 : Int) (x1 y1 : Int) (x2 y2 : Int) (x3 y3 : Int) :
    (Op.equalIn (d + 2) 47 (.agg #[.int .u8 x0, .int .i64 x1, .int .i64 x2, .int .i64 x3]) (.agg #[.int .u8 y0, .int .i64 y1, .int .i64 y2, .int .i64 y3])).run Try.prog w = .ok (x0 == y0 && (x1 == y1 && (x2 == y2 && (x3 == y3)))) w := by
  refine eqA_of Try.underlying47 (by kernel_rfl) ?_
  refine eqf_cons (by rfl) (by go_simp; rfl) (by go_simp; rfl) (by go_simp) ?_
  refine eqf_cons (by rfl) (by go_simp; rfl) (by go_simp; rfl) (by go_simp) ?_
  refine eqf_cons (by rfl) (by go_simp; rfl) (by go_simp; rfl) (by go_simp) ?_
  exact eqf_last (by rfl) (by go_simp; rfl) (by go_simp; rfl) (by go_simp)
end Go.Proofs.Ytodldpdnhcafpaa.F
