/- Texts of the proof of one law (Family), part 2: functions printed as Lean functions with their walks, and what is proved of them. Conditions: those of each theorem. -/
import Derived.Test.YtodldpdnhcafpaaZFamily1
import Derived.Test.YtodldpdnhcafpaaWMore
import Derived.SizedLaws
import Derived.ChangeSlices
import Derived.Deep.Slices
import Derived.ChangeArms
-- A text of this session's own program (wip/myprint.sh over a changed print tool): functions and their walks
namespace Go.Proofs.Ytodldpdnhcafpaa.F
open Go.RowKit Go.Proofs.YtodldpdnhcafpaaW.PrintWords Go.Proofs.YtodldpdnhcafpaaW.PrintLast Go.Proofs.YtodldpdnhcafpaaW.PrintMore
attribute [local go_sem] max2_int min2_int max_two min_two max_three min_three max_four min_four   -- for this text's walks alone
set_option linter.unusedVariables false
set_option linter.unusedSimpArgs false

/-! ### monikerref4_Valid: function 42 -/
mutual
def monikerref4_Valid.l0 : Nat → Int → Int → List (S47) → Option (Bool)
  | 0, _, _, _ => none
  | k + 1, x1, x5, x298000 => if x5 < (x298000.length : Int) then (if 0 ≤ x5 then (if ((rd_T47 x298000 x5).f1) < 0 then (monikerref4_Valid.j1 k x1 x5 true x298000 ((rd_T47 x298000 x5).f0) ((rd_T47 x298000 x5).f1) ((rd_T47 x298000 x5).f2) ((rd_T47 x298000 x5).f3)) else (if ((rd_T47 x298000 x5).f2) < ((rd_T47 x298000 x5).f1) then (monikerref4_Valid.j1 k x1 x5 true x298000 ((rd_T47 x298000 x5).f0) ((rd_T47 x298000 x5).f1) ((rd_T47 x298000 x5).f2) ((rd_T47 x298000 x5).f3)) else (monikerref4_Valid.j1 k x1 x5 (decide (((rd_T47 x298000 x5).f2) > x1)) x298000 ((rd_T47 x298000 x5).f0) ((rd_T47 x298000 x5).f1) ((rd_T47 x298000 x5).f2) ((rd_T47 x298000 x5).f3)))) else (none)) else (some true)
def monikerref4_Valid.j1 : Nat → Int → Int → Bool → List (S47) → Int → Int → Int → Int → Option (Bool)
  | 0, _, _, _, _, _, _, _, _ => none
  | k + 1, x1, x5, x42, x298000, x301000, x301001, x301002, x301003 => if x42 = true then (some false) else ((monikerref4_Kids.f k x298000 x5).bind fun bt301 => (monikerref4_Valid.l1 k x1 x5 bt301.1 x301001 0 x298000 x301000 x301001 x301002 x301003))
def monikerref4_Valid.l1 : Nat → Int → Int → List Int → Int → Int → List (S47) → Int → Int → Int → Int → Option (Bool)
  | 0, _, _, _, _, _, _, _, _, _, _ => none
  | k + 1, x1, x5, x7, x9, x10, x298000, x301000, x301001, x301002, x301003 => if x10 < (x7.length : Int) then (if 0 ≤ x10 then (if 0 ≤ (rd x7 x10) then (if (rd x7 x10) < (x298000.length : Int) then (if ((rd_T47 x298000 (rd x7 x10)).f1) = ((rd_T47 x298000 (rd x7 x10)).f2) then (if ((rd_T47 x298000 (rd x7 x10)).f1) < x301001 then (some false) else (monikerref4_Valid.l1 k x1 x5 x7 x9 (wrap64 (x10 + 1)) x298000 x301000 x301001 x301002 x301003)) else (if ((rd_T47 x298000 (rd x7 x10)).f1) < x9 then (some false) else (if ((rd_T47 x298000 (rd x7 x10)).f2) > x301002 then (some false) else (monikerref4_Valid.l1 k x1 x5 x7 ((rd_T47 x298000 (rd x7 x10)).f2) (wrap64 (x10 + 1)) x298000 x301000 x301001 x301002 x301003)))) else (none)) else (none)) else (none)) else (monikerref4_Valid.l0 k x1 (wrap64 (x5 + 1)) x298000)
end
def monikerref4_Valid.f (k : Nat) (l0_0 : List (S47)) (a1 : Int) : Option (Bool) := (monikerref4_Shaped.f k l0_0).bind fun t298 => (if t298 = true then (monikerref4_Valid.l0 k a1 0 l0_0) else (some false))
def monikerref4_Valid.T14 : Bool × List (List Nat × List Nat) := (true, [([], []), ([0], [0]), ([], []), ([], []), ([2, 3], [2, 3]), ([4], [4]), ([1, 5], [1, 5]), ([6], [6]), ([], []), ([8, 7, 0, 1, 2, 3, 4, 5, 6, 7, 8], [7, 8])])
def monikerref4_Valid.B14 : List Nat := [0, 1, 0, 0, 12, 28, 63, 127, 0, 511]
theorem monikerref4_Valid.tab14 : rtab .any (opsOf Try.f42 14) = monikerref4_Valid.T14 := by kernel_rfl
theorem monikerref4_Valid.bits14 : waitsOk monikerref4_Valid.T14.2 monikerref4_Valid.B14 = true := by kernel_rfl
set_option maxHeartbeats 8000000 in
set_option maxRecDepth 100000 in
theorem monikerref4_Valid.calls (k : Nat) (A0_0 : Option Addr) (c0_0 : Nat) (l0_0 : List (S47)) (a1 : Int) (r : Bool) (w : World) (hr0_0 : Kd.C k47 w A0_0 l0_0.length l0_0) (hc0_0 : l0_0.length ≤ c0_0) (h : monikerref4_Valid.f k l0_0 a1 = some r) :
    Calls Try.prog 42 #[.agg #[.slice A0_0 l0_0.length c0_0], .int .i64 a1] w fun e w' => e = .returned (.bool r) ∧ Below w.heap.size w w' := by
  have hu25 := Try.underlying25
  have hu47 := Try.underlying47
  have HR0_0 := Aside0.mk hr0_0
  have HC0_0 := Aside0.mk hc0_0
  clear hr0_0 hc0_0
  have HB := Aside0.mk (Below.refl w.heap.size w)
  have H : ((monikerref4_Shaped.f k l0_0).bind fun t298 => (if t298 = true then (monikerref4_Valid.l0 k a1 0 l0_0) else (some false))) = some r := h
  clear h
  replace H := Option.bind_eq_some_iff.mp H
  obtain ⟨t298, A30, H⟩ := H
  replace H : (if t298 = true then (monikerref4_Valid.l0 k a1 0 l0_0) else (some false)) = some r := H
  have A3 := Aside0.mk A30
  clear A30
  by_cases c4 : t298 = true
  · subst c4
    have H1 : (monikerref4_Valid.l0 k a1 0 l0_0) = some r := by rw [if_pos rfl] at H; exact H
    clear H
    have H := H1
    clear H1
    have H' := Aside0.mk H
    clear H
    go_enter Try.func42, Try.ntmps42
    go_wp2_with (first | ((with_reducible refine gate_dst (N := 2) rfl ?_); refine box_event ?hg (N := 2) ?hd (cs := #[.slice A0_0 l0_0.length c0_0]) (t := 25) ?hr ?_; (case hd => rfl); (case hg => rfl); (case hr => first | (go_simp; done) | (go_simp; rfl)); intro gb297 hg w5 hbox hb; have n0_ := Aside0.mk (below_step (by repeat (first | (with_reducible first | exact HB.out | apply below_alloc | apply pw_below_drewN | apply below_drew1) | exact HB.out)) hb); have n1_ := Aside0.mk (hbox); have n2_ := Aside0.mk ((by rw [hg]; exact (below_size (by repeat (first | (with_reducible first | exact HB.out | apply below_alloc | apply pw_below_drewN | apply below_drew1) | exact HB.out))) : w.heap.size ≤ gb297)); have n3_ := Aside0.mk ((by rw [hg]; exact (below_size (by repeat (first | (with_reducible first | exact HB.out | apply below_alloc | apply pw_below_drewN | apply below_drew1) | exact HB.out))) : w.heap.size ≤ gb297)); clear HB; have HB := n0_; have BK297 := n1_; have GW297 := n2_; have GE297 := n3_; clear n0_ n1_ n2_ n3_; clear hb hbox hg; have hcz6_0 : w5.cell? ⟨gb297, 0, none⟩ = some (.slice A0_0 l0_0.length c0_0) := (blk_cell BK297.out 0).trans rfl; have hfz6_0 := blk_frozen BK297.out 0) | ((with_reducible refine gate_callee (f := 59) rfl ?_); refine goesL_ (some 13) rfl rfl Try.func59 (by kernel_rfl) rfl #[.agg #[.slice A0_0 l0_0.length c0_0]] rfl (by (try simp only [List.map_toArray, List.map_cons, List.map_nil]); first | done | rfl | (simp only [List.length_drop, List.length_take]; rfl)) ?_; (with_reducible refine (monikerref4_Shaped.calls k _ _ l0_0 true _ ?side1 ?side2 A3.out).mono ?_); (case side1 => repeat (first | exact (Kd.C_below HR0_0.out HB.out) | (with_reducible refine Kd.C_alloc ?_ _) | (with_reducible refine Kd.C_drewN ?_ _) | (with_reducible refine Kd.C_drew ?_))); (case side2 => exact HC0_0.out); rintro e w7 ⟨rfl, hb⟩; refine ⟨_, rfl, ?_⟩; have n0_ := Aside0.mk (blk_below (g := gb297) (o := .cells #[.slice A0_0 l0_0.length c0_0] 25 (0, 0)) (by (with_reducible repeat (first | refine blk_drewN ?_ _ | refine blk_drew ?_ | refine blk_alloc ?_ _)); exact BK297.out) hb); have n1_ := Aside0.mk (below_step (by repeat (first | (with_reducible first | exact HB.out | apply below_alloc | apply pw_below_drewN | apply below_drew1 | refine below_set ?_ GE297.out) | exact HB.out)) hb); clear BK297; clear HB; have BK297 := n0_; have HB := n1_; clear n0_ n1_; (try clear hb); (try clear hb2); (try clear hk); (try clear hi)))
    go_loopg [5] k (fun kq v5 w' => ∃ (x5_1 : Int), v5 = .int .i64 x5_1 ∧ Aside0 (monikerref4_Valid.l0 kq a1 x5_1 l0_0 = some r) ∧ Aside0 (kq ≤ k) ∧ Aside0 (w'.heap[gb297]? = some (.cells #[(.slice A0_0 l0_0.length c0_0)] 25 (0, 0))) ∧ Aside0 (Below w.heap.size w w'))
    case atStart => exact ⟨(0), (by first | rfl | (simp; done) | (simp [*]; done)), H', ⟨Nat.le_refl _⟩, ⟨by (with_reducible repeat (first | refine blk_drewN ?_ _ | refine blk_drew ?_ | refine blk_alloc ?_ _)); exact BK297.out⟩, ⟨by repeat (first | (with_reducible first | exact HB.out | apply below_alloc | apply pw_below_drewN | apply below_drew1 | refine below_set ?_ GE297.out) | exact HB.out)⟩⟩
    case round =>
      clear H'
      try clear p2
      try clear c4
      try clear c5
      try clear hcz6_0
      try clear hfz6_0
      obtain ⟨x5_1, rfl, HA, HK1, BK297, HB⟩ := hrel
      cases gk with
      | zero => exact absurd HA.out (by simp [monikerref4_Valid.l0])
      | succ k1 =>
        have H := HA.out
        clear HA
        simp only [monikerref4_Valid.l0] at H
        by_cases c8 : x5_1 < (l0_0.length : Int)
        · rw [if_pos c8] at H
          have c8b0 : decide (x5_1 < (l0_0.length : Int)) = true := decide_eq_true c8
          clear c8
          by_cases c9 : 0 ≤ x5_1
          · rw [if_pos c9] at H
            have c9b0 : decide (0 ≤ x5_1) = true := decide_eq_true c9
            clear c9
            have HC10 := Aside0.mk H
            clear H
            have hcz11_0 : wr.cell? ⟨gb297, 0, none⟩ = some (.slice A0_0 l0_0.length c0_0) := (blk_cell BK297.out 0).trans rfl
            have hfz11_0 := blk_frozen BK297.out 0
            have p299 : 0 ≤ (x5_1 : Int) := of_decide_eq_true (by first | (with_reducible assumption) | assumption)
            have q299 : x5_1 < (l0_0.length : Int) := of_decide_eq_true (by first | (with_reducible assumption) | assumption)
            obtain ⟨ad299, e299, hx299_0, hx299_1, hx299_2, hx299_3⟩ := at_T47 HR0_0.out x5_1 p299 q299
            cases e299
            replace hx299_0 := (HB.out.cell (World.block_lt_of_cell? w _ hx299_0)).trans hx299_0
            replace hx299_1 := (HB.out.cell (World.block_lt_of_cell? w _ hx299_1)).trans hx299_1
            replace hx299_2 := (HB.out.cell (World.block_lt_of_cell? w _ hx299_2)).trans hx299_2
            replace hx299_3 := (HB.out.cell (World.block_lt_of_cell? w _ hx299_3)).trans hx299_3
            replace p299 := eq_true p299
            replace q299 := eq_true q299
            go_upto_region 7 with (first | ((with_reducible refine gate_dst (N := 6) rfl ?_); refine box_event ?hg (N := 6) ?hd (cs := #[.int .u8 0, .int .i64 0, .int .i64 0, .int .i64 0]) (t := 47) ?hr ?_; (case hd => rfl); (case hg => rfl); (case hr => first | (go_simp; done) | (go_simp; rfl)); intro gb300 hg w12 hbox hb; have n0_ := Aside0.mk (blk_below (g := gb297) (o := .cells #[.slice (some ad299) l0_0.length c0_0] 25 (0, 0)) (by (with_reducible repeat (first | refine blk_drewN ?_ _ | refine blk_drew ?_ | refine blk_alloc ?_ _)); exact BK297.out) hb); have n1_ := Aside0.mk (below_step (by repeat (first | (with_reducible first | exact HB.out | apply below_alloc | apply pw_below_drewN | apply below_drew1 | refine below_set ?_ GE297.out) | exact HB.out)) hb); have n2_ := Aside0.mk (hbox); have n3_ := Aside0.mk ((by rw [hg]; exact (below_size (by repeat (first | (with_reducible first | exact HB.out | apply below_alloc | apply pw_below_drewN | apply below_drew1 | refine below_set ?_ GE297.out) | exact HB.out))) : w.heap.size ≤ gb300)); have n4_ := Aside0.mk ((by rw [hg]; exact (below_size (by repeat (first | (with_reducible first | exact HB.out | apply below_alloc | apply pw_below_drewN | apply below_drew1 | refine below_set ?_ GE297.out) | exact HB.out))) : w.heap.size ≤ gb300)); have n5_ := Aside0.mk ((by rw [hg]; exact Nat.ne_of_lt (blk_lt (g := gb297) (o := .cells #[.slice (some ad299) l0_0.length c0_0] 25 (0, 0)) (by (with_reducible repeat (first | refine blk_drewN ?_ _ | refine blk_drew ?_ | refine blk_alloc ?_ _)); exact BK297.out)) : gb297 ≠ gb300)); have n6_ := Aside0.mk ((by rw [hg]; exact Nat.ne_of_gt (blk_lt (g := gb297) (o := .cells #[.slice (some ad299) l0_0.length c0_0] 25 (0, 0)) (by (with_reducible repeat (first | refine blk_drewN ?_ _ | refine blk_drew ?_ | refine blk_alloc ?_ _)); exact BK297.out)) : gb300 ≠ gb297)); clear BK297; clear HB; have BK297 := n0_; have HB := n1_; have BK300 := n2_; have GW300 := n3_; have GE300 := n4_; have NB297_300 := n5_; have NB300_297 := n6_; clear n0_ n1_ n2_ n3_ n4_ n5_ n6_; clear hb hbox hg; have hnb13 := NB300_297.out; have hnc13 := NB297_300.out; have hcz14_0 : w12.cell? ⟨gb300, 0, none⟩ = some (.int .u8 0) := (blk_cell BK300.out 0).trans rfl; have hcz14_1 : w12.cell? ⟨gb300, 1, none⟩ = some (.int .i64 0) := (blk_cell BK300.out 1).trans rfl; have hcz14_2 : w12.cell? ⟨gb300, 2, none⟩ = some (.int .i64 0) := (blk_cell BK300.out 2).trans rfl; have hcz14_3 : w12.cell? ⟨gb300, 3, none⟩ = some (.int .i64 0) := (blk_cell BK300.out 3).trans rfl; have hfz14_0 := blk_frozen BK300.out 0; have hfz14_1 := blk_frozen BK300.out 1; have hfz14_2 := blk_frozen BK300.out 2; have hfz14_3 := blk_frozen BK300.out 3))
            (try simp only [Act.put, List.setIfInBounds_toArray, List.set_cons_zero, List.set_cons_succ])
            go_cut [42] (fun v42 wc => ∃ (kq : Nat) (x42_9 : Bool), v42 = .bool x42_9 ∧ Aside0 (monikerref4_Valid.j1 kq a1 x5_1 x42_9 l0_0 ((rd_T47 l0_0 x5_1).f0) ((rd_T47 l0_0 x5_1).f1) ((rd_T47 l0_0 x5_1).f2) ((rd_T47 l0_0 x5_1).f3) = some r) ∧ Aside0 (kq ≤ k1) ∧ Aside0 (wc.heap[gb297]? = some (.cells #[(.slice (some ad299) l0_0.length c0_0)] 25 (0, 0))) ∧ Aside0 (wc.heap[gb300]? = some (.cells #[.int .u8 ((rd_T47 l0_0 x5_1).f0), .int .i64 ((rd_T47 l0_0 x5_1).f1), .int .i64 ((rd_T47 l0_0 x5_1).f2), .int .i64 ((rd_T47 l0_0 x5_1).f3)] 47 (0, 0))) ∧ Aside0 (Below w.heap.size w wc))
            case first =>
              have H := HC10.out
              clear HC10
              by_cases c15 : ((rd_T47 l0_0 x5_1).f1) < 0
              · rw [if_pos c15] at H
                have c15b0 : decide (((rd_T47 l0_0 x5_1).f1) < 0) = true := decide_eq_true c15
                clear c15
                (first | rw [c15b0] | (simp only [i64_w, i32_w]; rw [c15b0]) | skip)
                have H' := Aside0.mk H
                clear H
                have hnb16 := NB300_297.out
                have hnc16 := NB297_300.out
                have hcz17_0 : w12.cell? ⟨gb300, 0, none⟩ = some (.int .u8 0) := (blk_cell BK300.out 0).trans rfl
                have hcz17_1 : w12.cell? ⟨gb300, 1, none⟩ = some (.int .i64 0) := (blk_cell BK300.out 1).trans rfl
                have hcz17_2 : w12.cell? ⟨gb300, 2, none⟩ = some (.int .i64 0) := (blk_cell BK300.out 2).trans rfl
                have hcz17_3 : w12.cell? ⟨gb300, 3, none⟩ = some (.int .i64 0) := (blk_cell BK300.out 3).trans rfl
                have hfz17_0 := blk_frozen BK300.out 0
                have hfz17_1 := blk_frozen BK300.out 1
                have hfz17_2 := blk_frozen BK300.out 2
                have hfz17_3 := blk_frozen BK300.out 3
                go_wp2
                go_meet
                case rel => exact ⟨_, (true), (by first | rfl | (simp; done) | (simp [*]; done)), H', ⟨by have := HK1.out; first | omega | exact Nat.le_refl _⟩, ⟨by (with_reducible repeat (first | refine blk_drewN ?_ _ | refine blk_drew ?_ | refine blk_alloc ?_ _)); refine blk_far ?_ NB297_300.out _; (with_reducible repeat (first | refine blk_drewN ?_ _ | refine blk_drew ?_ | refine blk_alloc ?_ _)); refine blk_far ?_ NB297_300.out _; (with_reducible repeat (first | refine blk_drewN ?_ _ | refine blk_drew ?_ | refine blk_alloc ?_ _)); refine blk_far ?_ NB297_300.out _; (with_reducible repeat (first | refine blk_drewN ?_ _ | refine blk_drew ?_ | refine blk_alloc ?_ _)); refine blk_far ?_ NB297_300.out _; (with_reducible repeat (first | refine blk_drewN ?_ _ | refine blk_drew ?_ | refine blk_alloc ?_ _)); exact BK297.out⟩, ⟨by (with_reducible repeat (first | refine blk_drewN ?_ _ | refine blk_drew ?_ | refine blk_alloc ?_ _)); refine blk_put (cs := #[.int .u8 ((rd_T47 l0_0 x5_1).f0), .int .i64 ((rd_T47 l0_0 x5_1).f1), .int .i64 ((rd_T47 l0_0 x5_1).f2), .int .i64 0]) ?_ 3 _ rfl; (with_reducible repeat (first | refine blk_drewN ?_ _ | refine blk_drew ?_ | refine blk_alloc ?_ _)); refine blk_put (cs := #[.int .u8 ((rd_T47 l0_0 x5_1).f0), .int .i64 ((rd_T47 l0_0 x5_1).f1), .int .i64 0, .int .i64 0]) ?_ 2 _ rfl; (with_reducible repeat (first | refine blk_drewN ?_ _ | refine blk_drew ?_ | refine blk_alloc ?_ _)); refine blk_put (cs := #[.int .u8 ((rd_T47 l0_0 x5_1).f0), .int .i64 0, .int .i64 0, .int .i64 0]) ?_ 1 _ rfl; (with_reducible repeat (first | refine blk_drewN ?_ _ | refine blk_drew ?_ | refine blk_alloc ?_ _)); refine blk_put (cs := #[.int .u8 0, .int .i64 0, .int .i64 0, .int .i64 0]) ?_ 0 _ rfl; (with_reducible repeat (first | refine blk_drewN ?_ _ | refine blk_drew ?_ | refine blk_alloc ?_ _)); exact BK300.out⟩, ⟨by repeat (first | (with_reducible first | exact HB.out | apply below_alloc | apply pw_below_drewN | apply below_drew1 | refine below_set ?_ GE297.out | refine below_set ?_ GE300.out) | exact HB.out)⟩⟩
              · rw [if_neg c15] at H
                have c15b0 : decide (((rd_T47 l0_0 x5_1).f1) < 0) = false := decide_eq_false c15
                clear c15
                (first | rw [c15b0] | (simp only [i64_w, i32_w]; rw [c15b0]) | skip)
                by_cases c18 : ((rd_T47 l0_0 x5_1).f2) < ((rd_T47 l0_0 x5_1).f1)
                · rw [if_pos c18] at H
                  have c18b0 : decide (((rd_T47 l0_0 x5_1).f2) < ((rd_T47 l0_0 x5_1).f1)) = true := decide_eq_true c18
                  clear c18
                  have H' := Aside0.mk H
                  clear H
                  have hnb19 := NB300_297.out
                  have hnc19 := NB297_300.out
                  have hcz20_0 : w12.cell? ⟨gb300, 0, none⟩ = some (.int .u8 0) := (blk_cell BK300.out 0).trans rfl
                  have hcz20_1 : w12.cell? ⟨gb300, 1, none⟩ = some (.int .i64 0) := (blk_cell BK300.out 1).trans rfl
                  have hcz20_2 : w12.cell? ⟨gb300, 2, none⟩ = some (.int .i64 0) := (blk_cell BK300.out 2).trans rfl
                  have hcz20_3 : w12.cell? ⟨gb300, 3, none⟩ = some (.int .i64 0) := (blk_cell BK300.out 3).trans rfl
                  have hfz20_0 := blk_frozen BK300.out 0
                  have hfz20_1 := blk_frozen BK300.out 1
                  have hfz20_2 := blk_frozen BK300.out 2
                  have hfz20_3 := blk_frozen BK300.out 3
                  go_wp2
                  go_meet
                  case rel => exact ⟨_, (true), (by first | rfl | (simp; done) | (simp [*]; done)), H', ⟨by have := HK1.out; first | omega | exact Nat.le_refl _⟩, ⟨by (with_reducible repeat (first | refine blk_drewN ?_ _ | refine blk_drew ?_ | refine blk_alloc ?_ _)); refine blk_far ?_ NB297_300.out _; (with_reducible repeat (first | refine blk_drewN ?_ _ | refine blk_drew ?_ | refine blk_alloc ?_ _)); refine blk_far ?_ NB297_300.out _; (with_reducible repeat (first | refine blk_drewN ?_ _ | refine blk_drew ?_ | refine blk_alloc ?_ _)); refine blk_far ?_ NB297_300.out _; (with_reducible repeat (first | refine blk_drewN ?_ _ | refine blk_drew ?_ | refine blk_alloc ?_ _)); refine blk_far ?_ NB297_300.out _; (with_reducible repeat (first | refine blk_drewN ?_ _ | refine blk_drew ?_ | refine blk_alloc ?_ _)); exact BK297.out⟩, ⟨by (with_reducible repeat (first | refine blk_drewN ?_ _ | refine blk_drew ?_ | refine blk_alloc ?_ _)); refine blk_put (cs := #[.int .u8 ((rd_T47 l0_0 x5_1).f0), .int .i64 ((rd_T47 l0_0 x5_1).f1), .int .i64 ((rd_T47 l0_0 x5_1).f2), .int .i64 0]) ?_ 3 _ rfl; (with_reducible repeat (first | refine blk_drewN ?_ _ | refine blk_drew ?_ | refine blk_alloc ?_ _)); refine blk_put (cs := #[.int .u8 ((rd_T47 l0_0 x5_1).f0), .int .i64 ((rd_T47 l0_0 x5_1).f1), .int .i64 0, .int .i64 0]) ?_ 2 _ rfl; (with_reducible repeat (first | refine blk_drewN ?_ _ | refine blk_drew ?_ | refine blk_alloc ?_ _)); refine blk_put (cs := #[.int .u8 ((rd_T47 l0_0 x5_1).f0), .int .i64 0, .int .i64 0, .int .i64 0]) ?_ 1 _ rfl; (with_reducible repeat (first | refine blk_drewN ?_ _ | refine blk_drew ?_ | refine blk_alloc ?_ _)); refine blk_put (cs := #[.int .u8 0, .int .i64 0, .int .i64 0, .int .i64 0]) ?_ 0 _ rfl; (with_reducible repeat (first | refine blk_drewN ?_ _ | refine blk_drew ?_ | refine blk_alloc ?_ _)); exact BK300.out⟩, ⟨by repeat (first | (with_reducible first | exact HB.out | apply below_alloc | apply pw_below_drewN | apply below_drew1 | refine below_set ?_ GE297.out | refine below_set ?_ GE300.out) | exact HB.out)⟩⟩
                · rw [if_neg c18] at H
                  have c18b0 : decide (((rd_T47 l0_0 x5_1).f2) < ((rd_T47 l0_0 x5_1).f1)) = false := decide_eq_false c18
                  clear c18
                  have H' := Aside0.mk H
                  clear H
                  have hnb21 := NB300_297.out
                  have hnc21 := NB297_300.out
                  have hcz22_0 : w12.cell? ⟨gb300, 0, none⟩ = some (.int .u8 0) := (blk_cell BK300.out 0).trans rfl
                  have hcz22_1 : w12.cell? ⟨gb300, 1, none⟩ = some (.int .i64 0) := (blk_cell BK300.out 1).trans rfl
                  have hcz22_2 : w12.cell? ⟨gb300, 2, none⟩ = some (.int .i64 0) := (blk_cell BK300.out 2).trans rfl
                  have hcz22_3 : w12.cell? ⟨gb300, 3, none⟩ = some (.int .i64 0) := (blk_cell BK300.out 3).trans rfl
                  have hfz22_0 := blk_frozen BK300.out 0
                  have hfz22_1 := blk_frozen BK300.out 1
                  have hfz22_2 := blk_frozen BK300.out 2
                  have hfz22_3 := blk_frozen BK300.out 3
                  go_wp2
                  go_meet
                  case rel => exact ⟨_, (decide (((rd_T47 l0_0 x5_1).f2) > a1)), (by first | rfl | (simp; done) | (simp [*]; done)), H', ⟨by have := HK1.out; first | omega | exact Nat.le_refl _⟩, ⟨by (with_reducible repeat (first | refine blk_drewN ?_ _ | refine blk_drew ?_ | refine blk_alloc ?_ _)); refine blk_far ?_ NB297_300.out _; (with_reducible repeat (first | refine blk_drewN ?_ _ | refine blk_drew ?_ | refine blk_alloc ?_ _)); refine blk_far ?_ NB297_300.out _; (with_reducible repeat (first | refine blk_drewN ?_ _ | refine blk_drew ?_ | refine blk_alloc ?_ _)); refine blk_far ?_ NB297_300.out _; (with_reducible repeat (first | refine blk_drewN ?_ _ | refine blk_drew ?_ | refine blk_alloc ?_ _)); refine blk_far ?_ NB297_300.out _; (with_reducible repeat (first | refine blk_drewN ?_ _ | refine blk_drew ?_ | refine blk_alloc ?_ _)); exact BK297.out⟩, ⟨by (with_reducible repeat (first | refine blk_drewN ?_ _ | refine blk_drew ?_ | refine blk_alloc ?_ _)); refine blk_put (cs := #[.int .u8 ((rd_T47 l0_0 x5_1).f0), .int .i64 ((rd_T47 l0_0 x5_1).f1), .int .i64 ((rd_T47 l0_0 x5_1).f2), .int .i64 0]) ?_ 3 _ rfl; (with_reducible repeat (first | refine blk_drewN ?_ _ | refine blk_drew ?_ | refine blk_alloc ?_ _)); refine blk_put (cs := #[.int .u8 ((rd_T47 l0_0 x5_1).f0), .int .i64 ((rd_T47 l0_0 x5_1).f1), .int .i64 0, .int .i64 0]) ?_ 2 _ rfl; (with_reducible repeat (first | refine blk_drewN ?_ _ | refine blk_drew ?_ | refine blk_alloc ?_ _)); refine blk_put (cs := #[.int .u8 ((rd_T47 l0_0 x5_1).f0), .int .i64 0, .int .i64 0, .int .i64 0]) ?_ 1 _ rfl; (with_reducible repeat (first | refine blk_drewN ?_ _ | refine blk_drew ?_ | refine blk_alloc ?_ _)); refine blk_put (cs := #[.int .u8 0, .int .i64 0, .int .i64 0, .int .i64 0]) ?_ 0 _ rfl; (with_reducible repeat (first | refine blk_drewN ?_ _ | refine blk_drew ?_ | refine blk_alloc ?_ _)); exact BK300.out⟩, ⟨by repeat (first | (with_reducible first | exact HB.out | apply below_alloc | apply pw_below_drewN | apply below_drew1 | refine below_set ?_ GE297.out | refine below_set ?_ GE300.out) | exact HB.out)⟩⟩
            case rest =>
              clear HC10
              try clear c1
              try clear c2
              try clear p2
              try clear q2
              try clear hx2
              try clear c4
              try clear c5
              try clear c8
              try clear c8b0
              try clear c9
              try clear c9b0
              try clear c13
              try clear c15
              try clear c15b0
              try clear c16
              try clear c18
              try clear c18b0
              try clear c19
              try clear c21
              try clear hcz11_0
              try clear hcz14_0
              try clear hcz14_1
              try clear hcz14_2
              try clear hcz14_3
              try clear hcz17_0
              try clear hcz17_1
              try clear hcz17_2
              try clear hcz17_3
              try clear hcz20_0
              try clear hcz20_1
              try clear hcz20_2
              try clear hcz20_3
              try clear hcz22_0
              try clear hcz22_1
              try clear hcz22_2
              try clear hcz22_3
              try clear hcz6_0
              try clear hfz11_0
              try clear hfz14_0
              try clear hfz14_1
              try clear hfz14_2
              try clear hfz14_3
              try clear hfz17_0
              try clear hfz17_1
              try clear hfz17_2
              try clear hfz17_3
              try clear hfz20_0
              try clear hfz20_1
              try clear hfz20_2
              try clear hfz20_3
              try clear hfz22_0
              try clear hfz22_1
              try clear hfz22_2
              try clear hfz22_3
              try clear hfz6_0
              try clear hx299_0
              try clear hx299_1
              try clear hx299_2
              try clear hx299_3
              try clear p2
              try clear p299
              try clear q299
              obtain ⟨kq, x42_9, rfl, HA, HJ9, BK297, BK300, HB⟩ := hcut
              cases kq with
              | zero => exact absurd HA.out (by simp [monikerref4_Valid.j1])
              | succ kj9 =>
                have H := HA.out
                clear HA
                simp only [monikerref4_Valid.j1] at H
                by_cases c23 : x42_9 = true
                · subst c23
                  have H1 : (some false) = some r := by rw [if_pos rfl] at H; exact H
                  clear H
                  have H := H1
                  clear H1
                  obtain rfl := Option.some.inj H
                  go_wp2
                  go_ret
                  exact ⟨by first | rfl | (simp [errW_none, errW_some] <;> rfl) | (simp [*, errW_none, errW_some] <;> rfl), by repeat (first | (with_reducible first | exact HB.out | apply below_alloc | apply pw_below_drewN | apply below_drew1 | refine below_set ?_ GE297.out | refine below_set ?_ GE300.out) | exact HB.out)⟩
                · replace c23 := Bool.eq_false_iff.mpr c23
                  subst c23
                  have H1 : ((monikerref4_Kids.f kj9 l0_0 x5_1).bind fun bt301 => (monikerref4_Valid.l1 kj9 a1 x5_1 bt301.1 ((rd_T47 l0_0 x5_1).f1) 0 l0_0 ((rd_T47 l0_0 x5_1).f0) ((rd_T47 l0_0 x5_1).f1) ((rd_T47 l0_0 x5_1).f2) ((rd_T47 l0_0 x5_1).f3))) = some r := by rw [if_neg (show ¬ (false = true) by decide)] at H; exact H
                  clear H
                  have H := H1
                  clear H1
                  replace H := Option.bind_eq_some_iff.mp H
                  obtain ⟨⟨t301, t304⟩, A240, H⟩ := H
                  replace H : (monikerref4_Valid.l1 kj9 a1 x5_1 t301 ((rd_T47 l0_0 x5_1).f1) 0 l0_0 ((rd_T47 l0_0 x5_1).f0) ((rd_T47 l0_0 x5_1).f1) ((rd_T47 l0_0 x5_1).f2) ((rd_T47 l0_0 x5_1).f3)) = some r := H
                  have A24 := Aside0.mk A240
                  clear A240
                  have H' := Aside0.mk H
                  clear H
                  have hnb25 := NB297_300.out
                  have hnc25 := NB300_297.out
                  have hcz26_0 : wc.cell? ⟨gb297, 0, none⟩ = some (.slice (some ad299) l0_0.length c0_0) := (blk_cell BK297.out 0).trans rfl
                  have hfz26_0 := blk_frozen BK297.out 0
                  go_wp2_with (first | ((with_reducible refine gate_callee (f := 36) rfl ?_); refine goesL_ (some 46) rfl rfl Try.func36 (by kernel_rfl) rfl #[.agg #[.slice (some ad299) l0_0.length c0_0], .int .i64 x5_1] rfl (by (try simp only [List.map_toArray, List.map_cons, List.map_nil]); first | done | rfl | (simp only [List.length_drop, List.length_take]; rfl)) ?_; (with_reducible refine (monikerref4_Kids.calls kj9 _ _ l0_0 x5_1 t301 t304 _ ?side1 ?side2 A24.out).mono ?_); (case side1 => repeat (first | exact (Kd.C_below HR0_0.out HB.out) | (with_reducible refine Kd.C_alloc ?_ _) | (with_reducible refine Kd.C_drewN ?_ _) | (with_reducible refine Kd.C_drew ?_))); (case side2 => exact HC0_0.out); rintro e w27 ⟨v302, rfl, ho0, hb⟩; refine ⟨_, rfl, ?_⟩; have n0_ := Aside0.mk (Kd.R_lower ho0 (below_size (by repeat (first | (with_reducible first | exact HB.out | apply below_alloc | apply pw_below_drewN | apply below_drew1 | refine below_set ?_ GE297.out | refine below_set ?_ GE300.out) | exact HB.out)))); have n1_ := Aside0.mk (blk_below (g := gb297) (o := .cells #[.slice (some ad299) l0_0.length c0_0] 25 (0, 0)) (by (with_reducible repeat (first | refine blk_drewN ?_ _ | refine blk_drew ?_ | refine blk_alloc ?_ _)); exact BK297.out) hb); have n2_ := Aside0.mk (blk_below (g := gb300) (o := .cells #[.int .u8 ((rd_T47 l0_0 x5_1).f0), .int .i64 ((rd_T47 l0_0 x5_1).f1), .int .i64 ((rd_T47 l0_0 x5_1).f2), .int .i64 ((rd_T47 l0_0 x5_1).f3)] 47 (0, 0)) (by (with_reducible repeat (first | refine blk_drewN ?_ _ | refine blk_drew ?_ | refine blk_alloc ?_ _)); exact BK300.out) hb); have n3_ := Aside0.mk (below_step (by repeat (first | (with_reducible first | exact HB.out | apply below_alloc | apply pw_below_drewN | apply below_drew1 | refine below_set ?_ GE297.out | refine below_set ?_ GE300.out) | exact HB.out)) hb); clear BK297; clear BK300; clear HB; have HO303 := n0_; have BK297 := n1_; have BK300 := n2_; have HB := n3_; clear n0_ n1_ n2_ n3_; (try clear hb); (try clear hb2); (try clear hk); (try clear hi); (try clear ho0); have hcz28_0 : w27.cell? ⟨gb300, 0, none⟩ = some (.int .u8 ((rd_T47 l0_0 x5_1).f0)) := (blk_cell BK300.out 0).trans rfl; have hcz28_1 : w27.cell? ⟨gb300, 1, none⟩ = some (.int .i64 ((rd_T47 l0_0 x5_1).f1)) := (blk_cell BK300.out 1).trans rfl; have hcz28_2 : w27.cell? ⟨gb300, 2, none⟩ = some (.int .i64 ((rd_T47 l0_0 x5_1).f2)) := (blk_cell BK300.out 2).trans rfl; have hcz28_3 : w27.cell? ⟨gb300, 3, none⟩ = some (.int .i64 ((rd_T47 l0_0 x5_1).f3)) := (blk_cell BK300.out 3).trans rfl; have hfz28_0 := blk_frozen BK300.out 0; have hfz28_1 := blk_frozen BK300.out 1; have hfz28_2 := blk_frozen BK300.out 2; have hfz28_3 := blk_frozen BK300.out 3))
                  go_loopg [9, 10] kj9 (fun kq v9 v10 w' => ∃ (x9_3 : Int) (x10_3 : Int), v9 = .int .i64 x9_3 ∧ v10 = .int .i64 x10_3 ∧ Aside0 (monikerref4_Valid.l1 kq a1 x5_1 t301 x9_3 x10_3 l0_0 ((rd_T47 l0_0 x5_1).f0) ((rd_T47 l0_0 x5_1).f1) ((rd_T47 l0_0 x5_1).f2) ((rd_T47 l0_0 x5_1).f3) = some r) ∧ Aside0 (kq ≤ kj9) ∧ Aside0 (Kd.R (Kd.int .i64) 3 w' w.heap.size (fun _ => True) v302 t301) ∧ Aside0 (w'.heap[gb297]? = some (.cells #[(.slice (some ad299) l0_0.length c0_0)] 25 (0, 0))) ∧ Aside0 (w'.heap[gb300]? = some (.cells #[.int .u8 ((rd_T47 l0_0 x5_1).f0), .int .i64 ((rd_T47 l0_0 x5_1).f1), .int .i64 ((rd_T47 l0_0 x5_1).f2), .int .i64 ((rd_T47 l0_0 x5_1).f3)] 47 (0, 0))) ∧ Aside0 (Below w.heap.size w w'))
                  case atStart => exact ⟨(((rd_T47 l0_0 x5_1).f1)), (0), (by first | rfl | (simp; done) | (simp [*]; done)), (by first | rfl | (simp; done) | (simp [*]; done)), H', ⟨Nat.le_refl _⟩, ⟨by (with_reducible repeat (first | apply Kd.R_alloc | apply Kd.R_drewN | apply Kd.R_drew)); exact HO303.out⟩, ⟨by (with_reducible repeat (first | refine blk_drewN ?_ _ | refine blk_drew ?_ | refine blk_alloc ?_ _)); exact BK297.out⟩, ⟨by (with_reducible repeat (first | refine blk_drewN ?_ _ | refine blk_drew ?_ | refine blk_alloc ?_ _)); exact BK300.out⟩, ⟨by repeat (first | (with_reducible first | exact HB.out | apply below_alloc | apply pw_below_drewN | apply below_drew1 | refine below_set ?_ GE297.out | refine below_set ?_ GE300.out) | exact HB.out)⟩⟩
                  case round =>
                    clear H'
                    try clear c1
                    try clear c2
                    try clear p2
                    try clear q2
                    try clear hx2
                    try clear c3
                    try clear c4
                    try clear c5
                    try clear c8
                    try clear c8b0
                    try clear c9
                    try clear c9b0
                    try clear c13
                    try clear c15
                    try clear c15b0
                    try clear c16
                    try clear c18
                    try clear c18b0
                    try clear c19
                    try clear c21
                    try clear c23
                    try clear c25
                    try clear hcz11_0
                    try clear hcz14_0
                    try clear hcz14_1
                    try clear hcz14_2
                    try clear hcz14_3
                    try clear hcz17_0
                    try clear hcz17_1
                    try clear hcz17_2
                    try clear hcz17_3
                    try clear hcz20_0
                    try clear hcz20_1
                    try clear hcz20_2
                    try clear hcz20_3
                    try clear hcz22_0
                    try clear hcz22_1
                    try clear hcz22_2
                    try clear hcz22_3
                    try clear hcz26_0
                    try clear hcz28_0
                    try clear hcz28_1
                    try clear hcz28_2
                    try clear hcz28_3
                    try clear hcz6_0
                    try clear hfz11_0
                    try clear hfz14_0
                    try clear hfz14_1
                    try clear hfz14_2
                    try clear hfz14_3
                    try clear hfz17_0
                    try clear hfz17_1
                    try clear hfz17_2
                    try clear hfz17_3
                    try clear hfz20_0
                    try clear hfz20_1
                    try clear hfz20_2
                    try clear hfz20_3
                    try clear hfz22_0
                    try clear hfz22_1
                    try clear hfz22_2
                    try clear hfz22_3
                    try clear hfz26_0
                    try clear hfz28_0
                    try clear hfz28_1
                    try clear hfz28_2
                    try clear hfz28_3
                    try clear hfz6_0
                    try clear hx299_0
                    try clear hx299_1
                    try clear hx299_2
                    try clear hx299_3
                    try clear p2
                    try clear p299
                    try clear q2
                    try clear q299
                    obtain ⟨x9_3, x10_3, rfl, rfl, HA, HK3, HO_7, BK297, BK300, HB⟩ := hrel
                    cases gk with
                    | zero => exact absurd HA.out (by simp [monikerref4_Valid.l1])
                    | succ k3 =>
                      have H := HA.out
                      clear HA
                      simp only [monikerref4_Valid.l1] at H
                      by_cases c29 : x10_3 < (t301.length : Int)
                      · rw [if_pos c29] at H
                        have c29b0 : decide (x10_3 < (t301.length : Int)) = true := decide_eq_true c29
                        clear c29
                        by_cases c30 : 0 ≤ x10_3
                        · rw [if_pos c30] at H
                          have c30b0 : decide (0 ≤ x10_3) = true := decide_eq_true c30
                          clear c30
                          by_cases c31 : 0 ≤ (rd t301 x10_3)
                          · rw [if_pos c31] at H
                            have c31b0 : decide (0 ≤ (rd t301 x10_3)) = true := decide_eq_true c31
                            clear c31
                            by_cases c32 : (rd t301 x10_3) < (l0_0.length : Int)
                            · rw [if_pos c32] at H
                              have c32b0 : decide ((rd t301 x10_3) < (l0_0.length : Int)) = true := decide_eq_true c32
                              clear c32
                              by_cases c33 : ((rd_T47 l0_0 (rd t301 x10_3)).f1) = ((rd_T47 l0_0 (rd t301 x10_3)).f2)
                              · rw [if_pos c33] at H
                                have c33b0 : (((rd_T47 l0_0 (rd t301 x10_3)).f1) == ((rd_T47 l0_0 (rd t301 x10_3)).f2)) = true := beq_iff_eq.mpr c33
                                have c33b1 : (((rd_T47 l0_0 (rd t301 x10_3)).f1) != ((rd_T47 l0_0 (rd t301 x10_3)).f2)) = false := bne_eq_false_iff_eq.mpr c33
                                clear c33
                                by_cases c34 : ((rd_T47 l0_0 (rd t301 x10_3)).f1) < ((rd_T47 l0_0 x5_1).f1)
                                · rw [if_pos c34] at H
                                  have c34b0 : decide (((rd_T47 l0_0 (rd t301 x10_3)).f1) < ((rd_T47 l0_0 x5_1).f1)) = true := decide_eq_true c34
                                  clear c34
                                  obtain rfl := Option.some.inj H
                                  obtain ⟨Ao35, co35, eo35⟩ := Kd.R_slice HO_7.out
                                  subst eo35
                                  try go_wp2
                                  have n0_ := Aside0.mk (Kd.R_drew HO_7.out)
                                  have n1_ := Aside0.mk (blk_drew BK297.out)
                                  have n2_ := Aside0.mk (blk_drew BK300.out)
                                  have n3_ := Aside0.mk (below_drew1 HB.out)
                                  clear HO_7
                                  clear BK297
                                  clear BK300
                                  clear HB
                                  have HO_7 := n0_
                                  have BK297 := n1_
                                  have BK300 := n2_
                                  have HB := n3_
                                  clear n0_ n1_ n2_ n3_
                                  have p305 : 0 ≤ (x10_3 : Int) := of_decide_eq_true (by first | (with_reducible assumption) | assumption)
                                  have q305 : x10_3 < (t301.length : Int) := of_decide_eq_true (by first | (with_reducible assumption) | assumption)
                                  obtain ⟨ad305, e305, hx305_0⟩ := Kd.at_int (Kd.R_reads' HO_7.out).2.2 x10_3 p305 q305
                                  cases e305
                                  replace p305 := eq_true p305
                                  replace q305 := eq_true q305
                                  have p306 : 0 ≤ ((rd t301 x10_3) : Int) := of_decide_eq_true (by first | (with_reducible assumption) | assumption)
                                  have q306 : (rd t301 x10_3) < (l0_0.length : Int) := of_decide_eq_true (by first | (with_reducible assumption) | assumption)
                                  obtain ⟨ad306, e306, hx306_0, hx306_1, hx306_2, hx306_3⟩ := at_T47 HR0_0.out (rd t301 x10_3) p306 q306
                                  have hw306_3 := hx306_3
                                  have hw306_2 := hx306_2
                                  have hw306_1 := hx306_1
                                  have hw306_0 := hx306_0
                                  obtain rfl : ad299 = ad306 := (by injection e306)
                                  replace hx306_0 := (HB.out.cell (World.block_lt_of_cell? w _ hx306_0)).trans hx306_0
                                  replace hx306_1 := (HB.out.cell (World.block_lt_of_cell? w _ hx306_1)).trans hx306_1
                                  replace hx306_2 := (HB.out.cell (World.block_lt_of_cell? w _ hx306_2)).trans hx306_2
                                  replace hx306_3 := (HB.out.cell (World.block_lt_of_cell? w _ hx306_3)).trans hx306_3
                                  replace p306 := eq_true p306
                                  replace q306 := eq_true q306
                                  refine start_ (n := 10) (S := fun w' => w'.cell? ⟨gb297, 0, none⟩ = some (.slice (some ad299) l0_0.length c0_0) ∧ w'.cell? (ad305.add (x10_3).toNat) = some (.int .i64 (rd t301 x10_3)) ∧ w'.cell? (ad299.add (((rd t301 x10_3)).toNat * 4)) = some (.int .u8 ((rd_T47 l0_0 (rd t301 x10_3)).f0)) ∧ w'.cell? ⟨(ad299.add (((rd t301 x10_3)).toNat * 4)).block, (ad299.add (((rd t301 x10_3)).toNat * 4)).off + 1, none⟩ = some (.int .i64 ((rd_T47 l0_0 (rd t301 x10_3)).f1)) ∧ w'.cell? ⟨(ad299.add (((rd t301 x10_3)).toNat * 4)).block, (ad299.add (((rd t301 x10_3)).toNat * 4)).off + 2, none⟩ = some (.int .i64 ((rd_T47 l0_0 (rd t301 x10_3)).f2)) ∧ w'.cell? ⟨(ad299.add (((rd t301 x10_3)).toNat * 4)).block, (ad299.add (((rd t301 x10_3)).toNat * 4)).off + 3, none⟩ = some (.int .i64 ((rd_T47 l0_0 (rd t301 x10_3)).f3))) (ds := []) #[false, false, false, false, false, false, false, false, false, false] (by kernel_rfl) rfl rfl ⟨(blk_cell BK297.out 0).trans rfl, hx305_0, ((HB.out.cell (World.block_lt_of_cell? w _ hw306_0)).trans hw306_0), ((HB.out.cell (World.block_lt_of_cell? w _ hw306_1)).trans hw306_1), ((HB.out.cell (World.block_lt_of_cell? w _ hw306_2)).trans hw306_2), ((HB.out.cell (World.block_lt_of_cell? w _ hw306_3)).trans hw306_3)⟩ (fun hHeld => ?_); refine with_tabW monikerref4_Valid.tab14 monikerref4_Valid.bits14 (fun HT_ HW_ => ?_)
                                  generalize wr.drew = w36 at HO_7 BK297 BK300 HB hx305_0 hx306_0 hx306_1 hx306_2 hx306_3 hHeld ⊢
                                  refine pure_ (i := 0) (N := some 57) (v := ?_) (a' := ?_) #[true, false, false, false, false, false, false, false, false, false] rfl rfl (any_of HT_.out (by kernel_rfl)) (fun _ _ _ h => h) (Or.inl ⟨by rfl, ?_⟩) ?_ ?_
                                  rotate_left
                                  · intro w'
                                    go_simp
                                    with_reducible rfl
                                  rotate_left
                                  · simp only [Act.put, List.setIfInBounds_toArray, List.set_cons_zero, List.set_cons_succ, i64_w, i32_w]
                                    rfl
                                  refine pure_ (i := 2) (N := some 59) (v := ?_) (a' := ?_) #[true, false, true, false, false, false, false, false, false, false] rfl rfl (any_of HT_.out (by kernel_rfl)) (fun _ _ _ h => h) (Or.inl ⟨by rfl, ?_⟩) ?_ ?_
                                  rotate_left
                                  · intro w'
                                    go_simp
                                    with_reducible rfl
                                  rotate_left
                                  · simp only [Act.put, List.setIfInBounds_toArray, List.set_cons_zero, List.set_cons_succ, i64_w, i32_w]
                                    rfl
                                  refine pure_ (i := 3) (N := some 60) (v := ?_) (a' := ?_) #[true, false, true, true, false, false, false, false, false, false] rfl rfl (any_of HT_.out (by kernel_rfl)) (fun _ _ _ h => h) (Or.inl ⟨by rfl, ?_⟩) ?_ ?_
                                  rotate_left
                                  · intro w'
                                    go_simp
                                    with_reducible rfl
                                  rotate_left
                                  · simp only [Act.put, List.setIfInBounds_toArray, List.set_cons_zero, List.set_cons_succ, i64_w, i32_w]
                                    rfl
                                  refine pure_ (i := 4) (N := some 61) (v := ?_) (a' := ?_) #[true, false, true, true, true, false, false, false, false, false] rfl rfl (any_of HT_.out (by kernel_rfl)) (fun _ _ _ h => h) (Or.inl ⟨by rfl, ?_⟩) ?_ ?_
                                  rotate_left
                                  · intro w'
                                    go_simp
                                    with_reducible rfl
                                  rotate_left
                                  · simp only [Act.put, List.setIfInBounds_toArray, List.set_cons_zero, List.set_cons_succ, i64_w, i32_w]
                                    rfl
                                  refine take_ (i := 1) (N := some 58) (v := ?_) (a' := ?_) #[true, true, true, true, true, false, false, false, false, false] rfl rfl (take_ofW HT_.out HW_.out (by kernel_rfl)) (fun _ _ _ h => h) (Or.inl ⟨by rfl, ?_⟩) hHeld ?_ ?_
                                  rotate_left
                                  · rintro w' ⟨s0, s1, s2, s3, s4, s5⟩
                                    go_simp
                                    with_reducible rfl
                                  rotate_left
                                  · simp only [Act.put, List.setIfInBounds_toArray, List.set_cons_zero, List.set_cons_succ, i64_w, i32_w]
                                    rfl
                                  refine take_ (i := 5) (N := some 62) (v := ?_) (a' := ?_) #[true, true, true, true, true, true, false, false, false, false] rfl rfl (take_ofW HT_.out HW_.out (by kernel_rfl)) (fun _ _ _ h => h) (Or.inl ⟨by rfl, ?_⟩) hHeld ?_ ?_
                                  rotate_left
                                  · rintro w' ⟨s0, s1, s2, s3, s4, s5⟩
                                    go_simp
                                    with_reducible rfl
                                  rotate_left
                                  · simp only [Act.put, List.setIfInBounds_toArray, List.set_cons_zero, List.set_cons_succ, i64_w, i32_w]
                                    rfl
                                  refine pure_ (i := 6) (N := some 63) (v := ?_) (a' := ?_) #[true, true, true, true, true, true, true, false, false, false] rfl rfl (any_of HT_.out (by kernel_rfl)) (fun _ _ _ h => h) (Or.inl ⟨by rfl, ?_⟩) ?_ ?_
                                  rotate_left
                                  · intro w'
                                    go_simp
                                    with_reducible rfl
                                  rotate_left
                                  · simp only [Act.put, List.setIfInBounds_toArray, List.set_cons_zero, List.set_cons_succ, i64_w, i32_w]
                                    rfl
                                  refine take_ (i := 7) (N := some 64) (v := ?_) (a' := ?_) #[true, true, true, true, true, true, true, true, false, false] rfl rfl (take_ofW HT_.out HW_.out (by kernel_rfl)) (fun _ _ _ h => h) (Or.inl ⟨by rfl, ?_⟩) hHeld ?_ ?_
                                  rotate_left
                                  · rintro w' ⟨s0, s1, s2, s3, s4, s5⟩
                                    go_simp
                                    with_reducible rfl
                                  rotate_left
                                  · simp only [Act.put, List.setIfInBounds_toArray, List.set_cons_zero, List.set_cons_succ, i64_w, i32_w]
                                    rfl
                                  refine one_ (i := 8) (N := some 11) #[true, true, true, true, true, true, true, true, true, false] rfl rfl (one_of HT_.out (by kernel_rfl)) (by decide) (fun K hK => ?_)
                                  refine box_step ?hg (N := 11) ?hd (cs := #[.int .u8 0, .int .i64 0, .int .i64 0, .int .i64 0]) (t := 47) ?hr ?_; (case hd => rfl); (case hg => rfl); (case hr => first | (go_simp; done) | (go_simp; rfl))
                                  intro gb307 hg w37 hbox hb
                                  have HS1_ := (hb.cell (World.block_lt_of_cell? _ _ (hHeld.2.1))).trans (hHeld.2.1)
                                  have n0_ := Aside0.mk (Kd.R_below (by (with_reducible repeat (first | apply Kd.R_alloc | apply Kd.R_drewN | apply Kd.R_drew)); exact HO_7.out) hb)
                                  have n1_ := Aside0.mk (blk_below (g := gb297) (o := .cells #[.slice (some ad299) l0_0.length c0_0] 25 (0, 0)) (by (with_reducible repeat (first | refine blk_drewN ?_ _ | refine blk_drew ?_ | refine blk_alloc ?_ _)); exact BK297.out) hb)
                                  have n2_ := Aside0.mk (blk_below (g := gb300) (o := .cells #[.int .u8 ((rd_T47 l0_0 x5_1).f0), .int .i64 ((rd_T47 l0_0 x5_1).f1), .int .i64 ((rd_T47 l0_0 x5_1).f2), .int .i64 ((rd_T47 l0_0 x5_1).f3)] 47 (0, 0)) (by (with_reducible repeat (first | refine blk_drewN ?_ _ | refine blk_drew ?_ | refine blk_alloc ?_ _)); exact BK300.out) hb)
                                  have n3_ := Aside0.mk (below_step (by repeat (first | (with_reducible first | exact HB.out | apply below_alloc | apply pw_below_drewN | apply below_drew1 | refine below_set ?_ GE297.out | refine below_set ?_ GE300.out) | exact HB.out)) hb)
                                  have n4_ := Aside0.mk (hbox)
                                  have n5_ := Aside0.mk ((by rw [hg]; exact (below_size (by repeat (first | (with_reducible first | exact HB.out | apply below_alloc | apply pw_below_drewN | apply below_drew1 | refine below_set ?_ GE297.out | refine below_set ?_ GE300.out) | exact HB.out))) : w.heap.size ≤ gb307))
                                  have n6_ := Aside0.mk ((by rw [hg]; exact (below_size (by repeat (first | (with_reducible first | exact HB.out | apply below_alloc | apply pw_below_drewN | apply below_drew1 | refine below_set ?_ GE297.out | refine below_set ?_ GE300.out) | exact HB.out))) : w.heap.size ≤ gb307))
                                  have n7_ := Aside0.mk ((by rw [hg]; exact Nat.ne_of_lt (blk_lt (g := gb297) (o := .cells #[.slice (some ad299) l0_0.length c0_0] 25 (0, 0)) (by (with_reducible repeat (first | refine blk_drewN ?_ _ | refine blk_drew ?_ | refine blk_alloc ?_ _)); exact BK297.out)) : gb297 ≠ gb307))
                                  have n8_ := Aside0.mk ((by rw [hg]; exact Nat.ne_of_gt (blk_lt (g := gb297) (o := .cells #[.slice (some ad299) l0_0.length c0_0] 25 (0, 0)) (by (with_reducible repeat (first | refine blk_drewN ?_ _ | refine blk_drew ?_ | refine blk_alloc ?_ _)); exact BK297.out)) : gb307 ≠ gb297))
                                  have n9_ := Aside0.mk ((by rw [hg]; exact Nat.ne_of_lt (blk_lt (g := gb300) (o := .cells #[.int .u8 ((rd_T47 l0_0 x5_1).f0), .int .i64 ((rd_T47 l0_0 x5_1).f1), .int .i64 ((rd_T47 l0_0 x5_1).f2), .int .i64 ((rd_T47 l0_0 x5_1).f3)] 47 (0, 0)) (by (with_reducible repeat (first | refine blk_drewN ?_ _ | refine blk_drew ?_ | refine blk_alloc ?_ _)); exact BK300.out)) : gb300 ≠ gb307))
                                  have n10_ := Aside0.mk ((by rw [hg]; exact Nat.ne_of_gt (blk_lt (g := gb300) (o := .cells #[.int .u8 ((rd_T47 l0_0 x5_1).f0), .int .i64 ((rd_T47 l0_0 x5_1).f1), .int .i64 ((rd_T47 l0_0 x5_1).f2), .int .i64 ((rd_T47 l0_0 x5_1).f3)] 47 (0, 0)) (by (with_reducible repeat (first | refine blk_drewN ?_ _ | refine blk_drew ?_ | refine blk_alloc ?_ _)); exact BK300.out)) : gb307 ≠ gb300))
                                  clear HO_7
                                  clear BK297
                                  clear BK300
                                  clear HB
                                  have HO_7 := n0_
                                  have BK297 := n1_
                                  have BK300 := n2_
                                  have HB := n3_
                                  have BK307 := n4_
                                  have GW307 := n5_
                                  have GE307 := n6_
                                  have NB297_307 := n7_
                                  have NB307_297 := n8_
                                  have NB300_307 := n9_
                                  have NB307_300 := n10_
                                  clear n0_ n1_ n2_ n3_ n4_ n5_ n6_ n7_ n8_ n9_ n10_
                                  clear hb hbox hg
                                  refine hK.out _ _ ⟨(blk_cell BK297.out 0).trans rfl, HS1_, ((HB.out.cell (World.block_lt_of_cell? w _ hw306_0)).trans hw306_0), ((HB.out.cell (World.block_lt_of_cell? w _ hw306_1)).trans hw306_1), ((HB.out.cell (World.block_lt_of_cell? w _ hw306_2)).trans hw306_2), ((HB.out.cell (World.block_lt_of_cell? w _ hw306_3)).trans hw306_3)⟩ (fun hHeld => ?_)
                                  clear hK K
                                  refine norm_ (a' := ?_) ?_ ?_
                                  rotate_left
                                  · show Act.put _ (some 11) _ = _
                                    simp only [Act.put, List.setIfInBounds_toArray, List.set_cons_zero, List.set_cons_succ, i64_w, i32_w]
                                    rfl
                                  refine one_ (i := 9) (N := none) #[true, true, true, true, true, true, true, true, true, true] rfl rfl (one_of HT_.out (by kernel_rfl)) (by decide) (fun K hK => ?_)
                                  have hs38 : w37.cell? ⟨gb307, 0, none⟩ = some (.int .u8 0) := (blk_cell BK307.out 0).trans rfl
                                  have hfs38 := blk_frozen BK307.out 0
                                  have hns38_0 := NB297_307.out
                                  have hns38_1 := NB300_307.out
                                  have hms38_0 := NB307_297.out
                                  have hms38_1 := NB307_300.out
                                  have hs39 : w37.cell? ⟨gb307, 1, none⟩ = some (.int .i64 0) := (blk_cell BK307.out 1).trans rfl
                                  have hfs39 := blk_frozen BK307.out 1
                                  have hns39_0 := NB297_307.out
                                  have hns39_1 := NB300_307.out
                                  have hms39_0 := NB307_297.out
                                  have hms39_1 := NB307_300.out
                                  have hs40 : w37.cell? ⟨gb307, 2, none⟩ = some (.int .i64 0) := (blk_cell BK307.out 2).trans rfl
                                  have hfs40 := blk_frozen BK307.out 2
                                  have hns40_0 := NB297_307.out
                                  have hns40_1 := NB300_307.out
                                  have hms40_0 := NB307_297.out
                                  have hms40_1 := NB307_300.out
                                  have hs41 : w37.cell? ⟨gb307, 3, none⟩ = some (.int .i64 0) := (blk_cell BK307.out 3).trans rfl
                                  have hfs41 := blk_frozen BK307.out 3
                                  have hns41_0 := NB297_307.out
                                  have hns41_1 := NB300_307.out
                                  have hms41_0 := NB307_297.out
                                  have hms41_1 := NB307_300.out
                                  refine skip_ (w1 := ?_) (by rfl) rfl ?_ ?_
                                  rotate_left
                                  · go_simp
                                    rfl
                                  refine hK.out _ _ ⟨((cell_far (p := ⟨gb307, _, none⟩) NB297_307.out _).trans (((cell_far (p := ⟨gb307, _, none⟩) NB297_307.out _).trans (((cell_far (p := ⟨gb307, _, none⟩) NB297_307.out _).trans (((cell_far (p := ⟨gb307, _, none⟩) NB297_307.out _).trans (hHeld.1)))))))), ((cell_far (p := ⟨gb307, _, none⟩) (by first | exact Kd.own_blk (Kd.R_ne HO_7.out BK307.out (by decide)) | (rw [add_block]; exact Kd.own_blk (Kd.R_ne HO_7.out BK307.out (by decide))) | (show (Addr.add _ _).block ≠ _; rw [add_block]; exact Kd.own_blk (Kd.R_ne HO_7.out BK307.out (by decide))) | (dsimp only; exact Kd.own_blk (Kd.R_ne HO_7.out BK307.out (by decide)))) _).trans (((cell_far (p := ⟨gb307, _, none⟩) (by first | exact Kd.own_blk (Kd.R_ne HO_7.out BK307.out (by decide)) | (rw [add_block]; exact Kd.own_blk (Kd.R_ne HO_7.out BK307.out (by decide))) | (show (Addr.add _ _).block ≠ _; rw [add_block]; exact Kd.own_blk (Kd.R_ne HO_7.out BK307.out (by decide))) | (dsimp only; exact Kd.own_blk (Kd.R_ne HO_7.out BK307.out (by decide)))) _).trans (((cell_far (p := ⟨gb307, _, none⟩) (by first | exact Kd.own_blk (Kd.R_ne HO_7.out BK307.out (by decide)) | (rw [add_block]; exact Kd.own_blk (Kd.R_ne HO_7.out BK307.out (by decide))) | (show (Addr.add _ _).block ≠ _; rw [add_block]; exact Kd.own_blk (Kd.R_ne HO_7.out BK307.out (by decide))) | (dsimp only; exact Kd.own_blk (Kd.R_ne HO_7.out BK307.out (by decide)))) _).trans (((cell_far (p := ⟨gb307, _, none⟩) (by first | exact Kd.own_blk (Kd.R_ne HO_7.out BK307.out (by decide)) | (rw [add_block]; exact Kd.own_blk (Kd.R_ne HO_7.out BK307.out (by decide))) | (show (Addr.add _ _).block ≠ _; rw [add_block]; exact Kd.own_blk (Kd.R_ne HO_7.out BK307.out (by decide))) | (dsimp only; exact Kd.own_blk (Kd.R_ne HO_7.out BK307.out (by decide)))) _).trans (hHeld.2.1)))))))), ((cell_far (p := ⟨gb307, _, none⟩) (by first | exact Nat.ne_of_lt (Nat.lt_of_lt_of_le (by have := World.block_lt_of_cell? _ _ hw306_0; first | rwa [add_block] at this | exact this) GW307.out) | (rw [add_block]; exact Nat.ne_of_lt (Nat.lt_of_lt_of_le (by have := World.block_lt_of_cell? _ _ hw306_0; first | rwa [add_block] at this | exact this) GW307.out)) | (show (Addr.add _ _).block ≠ _; rw [add_block]; exact Nat.ne_of_lt (Nat.lt_of_lt_of_le (by have := World.block_lt_of_cell? _ _ hw306_0; first | rwa [add_block] at this | exact this) GW307.out)) | (dsimp only; exact Nat.ne_of_lt (Nat.lt_of_lt_of_le (by have := World.block_lt_of_cell? _ _ hw306_0; first | rwa [add_block] at this | exact this) GW307.out))) _).trans (((cell_far (p := ⟨gb307, _, none⟩) (by first | exact Nat.ne_of_lt (Nat.lt_of_lt_of_le (by have := World.block_lt_of_cell? _ _ hw306_0; first | rwa [add_block] at this | exact this) GW307.out) | (rw [add_block]; exact Nat.ne_of_lt (Nat.lt_of_lt_of_le (by have := World.block_lt_of_cell? _ _ hw306_0; first | rwa [add_block] at this | exact this) GW307.out)) | (show (Addr.add _ _).block ≠ _; rw [add_block]; exact Nat.ne_of_lt (Nat.lt_of_lt_of_le (by have := World.block_lt_of_cell? _ _ hw306_0; first | rwa [add_block] at this | exact this) GW307.out)) | (dsimp only; exact Nat.ne_of_lt (Nat.lt_of_lt_of_le (by have := World.block_lt_of_cell? _ _ hw306_0; first | rwa [add_block] at this | exact this) GW307.out))) _).trans (((cell_far (p := ⟨gb307, _, none⟩) (by first | exact Nat.ne_of_lt (Nat.lt_of_lt_of_le (by have := World.block_lt_of_cell? _ _ hw306_0; first | rwa [add_block] at this | exact this) GW307.out) | (rw [add_block]; exact Nat.ne_of_lt (Nat.lt_of_lt_of_le (by have := World.block_lt_of_cell? _ _ hw306_0; first | rwa [add_block] at this | exact this) GW307.out)) | (show (Addr.add _ _).block ≠ _; rw [add_block]; exact Nat.ne_of_lt (Nat.lt_of_lt_of_le (by have := World.block_lt_of_cell? _ _ hw306_0; first | rwa [add_block] at this | exact this) GW307.out)) | (dsimp only; exact Nat.ne_of_lt (Nat.lt_of_lt_of_le (by have := World.block_lt_of_cell? _ _ hw306_0; first | rwa [add_block] at this | exact this) GW307.out))) _).trans (((cell_far (p := ⟨gb307, _, none⟩) (by first | exact Nat.ne_of_lt (Nat.lt_of_lt_of_le (by have := World.block_lt_of_cell? _ _ hw306_0; first | rwa [add_block] at this | exact this) GW307.out) | (rw [add_block]; exact Nat.ne_of_lt (Nat.lt_of_lt_of_le (by have := World.block_lt_of_cell? _ _ hw306_0; first | rwa [add_block] at this | exact this) GW307.out)) | (show (Addr.add _ _).block ≠ _; rw [add_block]; exact Nat.ne_of_lt (Nat.lt_of_lt_of_le (by have := World.block_lt_of_cell? _ _ hw306_0; first | rwa [add_block] at this | exact this) GW307.out)) | (dsimp only; exact Nat.ne_of_lt (Nat.lt_of_lt_of_le (by have := World.block_lt_of_cell? _ _ hw306_0; first | rwa [add_block] at this | exact this) GW307.out))) _).trans (hHeld.2.2.1)))))))), ((cell_far (p := ⟨gb307, _, none⟩) (by first | exact Nat.ne_of_lt (Nat.lt_of_lt_of_le (by have := World.block_lt_of_cell? _ _ hw306_1; first | rwa [add_block] at this | exact this) GW307.out) | (rw [add_block]; exact Nat.ne_of_lt (Nat.lt_of_lt_of_le (by have := World.block_lt_of_cell? _ _ hw306_1; first | rwa [add_block] at this | exact this) GW307.out)) | (show (Addr.add _ _).block ≠ _; rw [add_block]; exact Nat.ne_of_lt (Nat.lt_of_lt_of_le (by have := World.block_lt_of_cell? _ _ hw306_1; first | rwa [add_block] at this | exact this) GW307.out)) | (dsimp only; exact Nat.ne_of_lt (Nat.lt_of_lt_of_le (by have := World.block_lt_of_cell? _ _ hw306_1; first | rwa [add_block] at this | exact this) GW307.out))) _).trans (((cell_far (p := ⟨gb307, _, none⟩) (by first | exact Nat.ne_of_lt (Nat.lt_of_lt_of_le (by have := World.block_lt_of_cell? _ _ hw306_1; first | rwa [add_block] at this | exact this) GW307.out) | (rw [add_block]; exact Nat.ne_of_lt (Nat.lt_of_lt_of_le (by have := World.block_lt_of_cell? _ _ hw306_1; first | rwa [add_block] at this | exact this) GW307.out)) | (show (Addr.add _ _).block ≠ _; rw [add_block]; exact Nat.ne_of_lt (Nat.lt_of_lt_of_le (by have := World.block_lt_of_cell? _ _ hw306_1; first | rwa [add_block] at this | exact this) GW307.out)) | (dsimp only; exact Nat.ne_of_lt (Nat.lt_of_lt_of_le (by have := World.block_lt_of_cell? _ _ hw306_1; first | rwa [add_block] at this | exact this) GW307.out))) _).trans (((cell_far (p := ⟨gb307, _, none⟩) (by first | exact Nat.ne_of_lt (Nat.lt_of_lt_of_le (by have := World.block_lt_of_cell? _ _ hw306_1; first | rwa [add_block] at this | exact this) GW307.out) | (rw [add_block]; exact Nat.ne_of_lt (Nat.lt_of_lt_of_le (by have := World.block_lt_of_cell? _ _ hw306_1; first | rwa [add_block] at this | exact this) GW307.out)) | (show (Addr.add _ _).block ≠ _; rw [add_block]; exact Nat.ne_of_lt (Nat.lt_of_lt_of_le (by have := World.block_lt_of_cell? _ _ hw306_1; first | rwa [add_block] at this | exact this) GW307.out)) | (dsimp only; exact Nat.ne_of_lt (Nat.lt_of_lt_of_le (by have := World.block_lt_of_cell? _ _ hw306_1; first | rwa [add_block] at this | exact this) GW307.out))) _).trans (((cell_far (p := ⟨gb307, _, none⟩) (by first | exact Nat.ne_of_lt (Nat.lt_of_lt_of_le (by have := World.block_lt_of_cell? _ _ hw306_1; first | rwa [add_block] at this | exact this) GW307.out) | (rw [add_block]; exact Nat.ne_of_lt (Nat.lt_of_lt_of_le (by have := World.block_lt_of_cell? _ _ hw306_1; first | rwa [add_block] at this | exact this) GW307.out)) | (show (Addr.add _ _).block ≠ _; rw [add_block]; exact Nat.ne_of_lt (Nat.lt_of_lt_of_le (by have := World.block_lt_of_cell? _ _ hw306_1; first | rwa [add_block] at this | exact this) GW307.out)) | (dsimp only; exact Nat.ne_of_lt (Nat.lt_of_lt_of_le (by have := World.block_lt_of_cell? _ _ hw306_1; first | rwa [add_block] at this | exact this) GW307.out))) _).trans (hHeld.2.2.2.1)))))))), ((cell_far (p := ⟨gb307, _, none⟩) (by first | exact Nat.ne_of_lt (Nat.lt_of_lt_of_le (by have := World.block_lt_of_cell? _ _ hw306_2; first | rwa [add_block] at this | exact this) GW307.out) | (rw [add_block]; exact Nat.ne_of_lt (Nat.lt_of_lt_of_le (by have := World.block_lt_of_cell? _ _ hw306_2; first | rwa [add_block] at this | exact this) GW307.out)) | (show (Addr.add _ _).block ≠ _; rw [add_block]; exact Nat.ne_of_lt (Nat.lt_of_lt_of_le (by have := World.block_lt_of_cell? _ _ hw306_2; first | rwa [add_block] at this | exact this) GW307.out)) | (dsimp only; exact Nat.ne_of_lt (Nat.lt_of_lt_of_le (by have := World.block_lt_of_cell? _ _ hw306_2; first | rwa [add_block] at this | exact this) GW307.out))) _).trans (((cell_far (p := ⟨gb307, _, none⟩) (by first | exact Nat.ne_of_lt (Nat.lt_of_lt_of_le (by have := World.block_lt_of_cell? _ _ hw306_2; first | rwa [add_block] at this | exact this) GW307.out) | (rw [add_block]; exact Nat.ne_of_lt (Nat.lt_of_lt_of_le (by have := World.block_lt_of_cell? _ _ hw306_2; first | rwa [add_block] at this | exact this) GW307.out)) | (show (Addr.add _ _).block ≠ _; rw [add_block]; exact Nat.ne_of_lt (Nat.lt_of_lt_of_le (by have := World.block_lt_of_cell? _ _ hw306_2; first | rwa [add_block] at this | exact this) GW307.out)) | (dsimp only; exact Nat.ne_of_lt (Nat.lt_of_lt_of_le (by have := World.block_lt_of_cell? _ _ hw306_2; first | rwa [add_block] at this | exact this) GW307.out))) _).trans (((cell_far (p := ⟨gb307, _, none⟩) (by first | exact Nat.ne_of_lt (Nat.lt_of_lt_of_le (by have := World.block_lt_of_cell? _ _ hw306_2; first | rwa [add_block] at this | exact this) GW307.out) | (rw [add_block]; exact Nat.ne_of_lt (Nat.lt_of_lt_of_le (by have := World.block_lt_of_cell? _ _ hw306_2; first | rwa [add_block] at this | exact this) GW307.out)) | (show (Addr.add _ _).block ≠ _; rw [add_block]; exact Nat.ne_of_lt (Nat.lt_of_lt_of_le (by have := World.block_lt_of_cell? _ _ hw306_2; first | rwa [add_block] at this | exact this) GW307.out)) | (dsimp only; exact Nat.ne_of_lt (Nat.lt_of_lt_of_le (by have := World.block_lt_of_cell? _ _ hw306_2; first | rwa [add_block] at this | exact this) GW307.out))) _).trans (((cell_far (p := ⟨gb307, _, none⟩) (by first | exact Nat.ne_of_lt (Nat.lt_of_lt_of_le (by have := World.block_lt_of_cell? _ _ hw306_2; first | rwa [add_block] at this | exact this) GW307.out) | (rw [add_block]; exact Nat.ne_of_lt (Nat.lt_of_lt_of_le (by have := World.block_lt_of_cell? _ _ hw306_2; first | rwa [add_block] at this | exact this) GW307.out)) | (show (Addr.add _ _).block ≠ _; rw [add_block]; exact Nat.ne_of_lt (Nat.lt_of_lt_of_le (by have := World.block_lt_of_cell? _ _ hw306_2; first | rwa [add_block] at this | exact this) GW307.out)) | (dsimp only; exact Nat.ne_of_lt (Nat.lt_of_lt_of_le (by have := World.block_lt_of_cell? _ _ hw306_2; first | rwa [add_block] at this | exact this) GW307.out))) _).trans (hHeld.2.2.2.2.1)))))))), ((cell_far (p := ⟨gb307, _, none⟩) (by first | exact Nat.ne_of_lt (Nat.lt_of_lt_of_le (by have := World.block_lt_of_cell? _ _ hw306_3; first | rwa [add_block] at this | exact this) GW307.out) | (rw [add_block]; exact Nat.ne_of_lt (Nat.lt_of_lt_of_le (by have := World.block_lt_of_cell? _ _ hw306_3; first | rwa [add_block] at this | exact this) GW307.out)) | (show (Addr.add _ _).block ≠ _; rw [add_block]; exact Nat.ne_of_lt (Nat.lt_of_lt_of_le (by have := World.block_lt_of_cell? _ _ hw306_3; first | rwa [add_block] at this | exact this) GW307.out)) | (dsimp only; exact Nat.ne_of_lt (Nat.lt_of_lt_of_le (by have := World.block_lt_of_cell? _ _ hw306_3; first | rwa [add_block] at this | exact this) GW307.out))) _).trans (((cell_far (p := ⟨gb307, _, none⟩) (by first | exact Nat.ne_of_lt (Nat.lt_of_lt_of_le (by have := World.block_lt_of_cell? _ _ hw306_3; first | rwa [add_block] at this | exact this) GW307.out) | (rw [add_block]; exact Nat.ne_of_lt (Nat.lt_of_lt_of_le (by have := World.block_lt_of_cell? _ _ hw306_3; first | rwa [add_block] at this | exact this) GW307.out)) | (show (Addr.add _ _).block ≠ _; rw [add_block]; exact Nat.ne_of_lt (Nat.lt_of_lt_of_le (by have := World.block_lt_of_cell? _ _ hw306_3; first | rwa [add_block] at this | exact this) GW307.out)) | (dsimp only; exact Nat.ne_of_lt (Nat.lt_of_lt_of_le (by have := World.block_lt_of_cell? _ _ hw306_3; first | rwa [add_block] at this | exact this) GW307.out))) _).trans (((cell_far (p := ⟨gb307, _, none⟩) (by first | exact Nat.ne_of_lt (Nat.lt_of_lt_of_le (by have := World.block_lt_of_cell? _ _ hw306_3; first | rwa [add_block] at this | exact this) GW307.out) | (rw [add_block]; exact Nat.ne_of_lt (Nat.lt_of_lt_of_le (by have := World.block_lt_of_cell? _ _ hw306_3; first | rwa [add_block] at this | exact this) GW307.out)) | (show (Addr.add _ _).block ≠ _; rw [add_block]; exact Nat.ne_of_lt (Nat.lt_of_lt_of_le (by have := World.block_lt_of_cell? _ _ hw306_3; first | rwa [add_block] at this | exact this) GW307.out)) | (dsimp only; exact Nat.ne_of_lt (Nat.lt_of_lt_of_le (by have := World.block_lt_of_cell? _ _ hw306_3; first | rwa [add_block] at this | exact this) GW307.out))) _).trans (((cell_far (p := ⟨gb307, _, none⟩) (by first | exact Nat.ne_of_lt (Nat.lt_of_lt_of_le (by have := World.block_lt_of_cell? _ _ hw306_3; first | rwa [add_block] at this | exact this) GW307.out) | (rw [add_block]; exact Nat.ne_of_lt (Nat.lt_of_lt_of_le (by have := World.block_lt_of_cell? _ _ hw306_3; first | rwa [add_block] at this | exact this) GW307.out)) | (show (Addr.add _ _).block ≠ _; rw [add_block]; exact Nat.ne_of_lt (Nat.lt_of_lt_of_le (by have := World.block_lt_of_cell? _ _ hw306_3; first | rwa [add_block] at this | exact this) GW307.out)) | (dsimp only; exact Nat.ne_of_lt (Nat.lt_of_lt_of_le (by have := World.block_lt_of_cell? _ _ hw306_3; first | rwa [add_block] at this | exact this) GW307.out))) _).trans (hHeld.2.2.2.2.2))))))))⟩ (fun hHeld => ?_)
                                  clear hK K
                                  refine done_ (done_of HT_.out (by kernel_rfl)) ?_
                                  have hnb42 := NB307_297.out
                                  have hnc42 := NB297_307.out
                                  have hnb43 := NB307_300.out
                                  have hnc43 := NB300_307.out
                                  have hcz44_0 : w37.cell? ⟨gb307, 0, none⟩ = some (.int .u8 0) := (blk_cell BK307.out 0).trans rfl
                                  have hcz44_1 : w37.cell? ⟨gb307, 1, none⟩ = some (.int .i64 0) := (blk_cell BK307.out 1).trans rfl
                                  have hcz44_2 : w37.cell? ⟨gb307, 2, none⟩ = some (.int .i64 0) := (blk_cell BK307.out 2).trans rfl
                                  have hcz44_3 : w37.cell? ⟨gb307, 3, none⟩ = some (.int .i64 0) := (blk_cell BK307.out 3).trans rfl
                                  have hfz44_0 := blk_frozen BK307.out 0
                                  have hfz44_1 := blk_frozen BK307.out 1
                                  have hfz44_2 := blk_frozen BK307.out 2
                                  have hfz44_3 := blk_frozen BK307.out 3
                                  have hnb45 := NB300_297.out
                                  have hnc45 := NB297_300.out
                                  have hcz46_0 : w37.cell? ⟨gb300, 0, none⟩ = some (.int .u8 ((rd_T47 l0_0 x5_1).f0)) := (blk_cell BK300.out 0).trans rfl
                                  have hcz46_1 : w37.cell? ⟨gb300, 1, none⟩ = some (.int .i64 ((rd_T47 l0_0 x5_1).f1)) := (blk_cell BK300.out 1).trans rfl
                                  have hcz46_2 : w37.cell? ⟨gb300, 2, none⟩ = some (.int .i64 ((rd_T47 l0_0 x5_1).f2)) := (blk_cell BK300.out 2).trans rfl
                                  have hcz46_3 : w37.cell? ⟨gb300, 3, none⟩ = some (.int .i64 ((rd_T47 l0_0 x5_1).f3)) := (blk_cell BK300.out 3).trans rfl
                                  have hfz46_0 := blk_frozen BK300.out 0
                                  have hfz46_1 := blk_frozen BK300.out 1
                                  have hfz46_2 := blk_frozen BK300.out 2
                                  have hfz46_3 := blk_frozen BK300.out 3
                                  try go_wp2
                                  go_ret
                                  exact ⟨by first | rfl | (simp [errW_none, errW_some] <;> rfl) | (simp [*, errW_none, errW_some] <;> rfl), by repeat (first | (with_reducible first | exact HB.out | apply below_alloc | apply pw_below_drewN | apply below_drew1 | refine below_set ?_ GE297.out | refine below_set ?_ GE300.out | refine below_set ?_ GE307.out) | exact HB.out)⟩
                                · rw [if_neg c34] at H
                                  have c34b0 : decide (((rd_T47 l0_0 (rd t301 x10_3)).f1) < ((rd_T47 l0_0 x5_1).f1)) = false := decide_eq_false c34
                                  clear c34
                                  have H' := Aside0.mk H
                                  clear H
                                  obtain ⟨Ao47, co47, eo47⟩ := Kd.R_slice HO_7.out
                                  subst eo47
                                  try go_wp2
                                  have n0_ := Aside0.mk (Kd.R_drew HO_7.out)
                                  have n1_ := Aside0.mk (blk_drew BK297.out)
                                  have n2_ := Aside0.mk (blk_drew BK300.out)
                                  have n3_ := Aside0.mk (below_drew1 HB.out)
                                  clear HO_7
                                  clear BK297
                                  clear BK300
                                  clear HB
                                  have HO_7 := n0_
                                  have BK297 := n1_
                                  have BK300 := n2_
                                  have HB := n3_
                                  clear n0_ n1_ n2_ n3_
                                  have p305 : 0 ≤ (x10_3 : Int) := of_decide_eq_true (by first | (with_reducible assumption) | assumption)
                                  have q305 : x10_3 < (t301.length : Int) := of_decide_eq_true (by first | (with_reducible assumption) | assumption)
                                  obtain ⟨ad305, e305, hx305_0⟩ := Kd.at_int (Kd.R_reads' HO_7.out).2.2 x10_3 p305 q305
                                  cases e305
                                  replace p305 := eq_true p305
                                  replace q305 := eq_true q305
                                  have p306 : 0 ≤ ((rd t301 x10_3) : Int) := of_decide_eq_true (by first | (with_reducible assumption) | assumption)
                                  have q306 : (rd t301 x10_3) < (l0_0.length : Int) := of_decide_eq_true (by first | (with_reducible assumption) | assumption)
                                  obtain ⟨ad306, e306, hx306_0, hx306_1, hx306_2, hx306_3⟩ := at_T47 HR0_0.out (rd t301 x10_3) p306 q306
                                  have hw306_3 := hx306_3
                                  have hw306_2 := hx306_2
                                  have hw306_1 := hx306_1
                                  have hw306_0 := hx306_0
                                  obtain rfl : ad299 = ad306 := (by injection e306)
                                  replace hx306_0 := (HB.out.cell (World.block_lt_of_cell? w _ hx306_0)).trans hx306_0
                                  replace hx306_1 := (HB.out.cell (World.block_lt_of_cell? w _ hx306_1)).trans hx306_1
                                  replace hx306_2 := (HB.out.cell (World.block_lt_of_cell? w _ hx306_2)).trans hx306_2
                                  replace hx306_3 := (HB.out.cell (World.block_lt_of_cell? w _ hx306_3)).trans hx306_3
                                  replace p306 := eq_true p306
                                  replace q306 := eq_true q306
                                  refine start_ (n := 10) (S := fun w' => w'.cell? ⟨gb297, 0, none⟩ = some (.slice (some ad299) l0_0.length c0_0) ∧ w'.cell? (ad305.add (x10_3).toNat) = some (.int .i64 (rd t301 x10_3)) ∧ w'.cell? (ad299.add (((rd t301 x10_3)).toNat * 4)) = some (.int .u8 ((rd_T47 l0_0 (rd t301 x10_3)).f0)) ∧ w'.cell? ⟨(ad299.add (((rd t301 x10_3)).toNat * 4)).block, (ad299.add (((rd t301 x10_3)).toNat * 4)).off + 1, none⟩ = some (.int .i64 ((rd_T47 l0_0 (rd t301 x10_3)).f1)) ∧ w'.cell? ⟨(ad299.add (((rd t301 x10_3)).toNat * 4)).block, (ad299.add (((rd t301 x10_3)).toNat * 4)).off + 2, none⟩ = some (.int .i64 ((rd_T47 l0_0 (rd t301 x10_3)).f2)) ∧ w'.cell? ⟨(ad299.add (((rd t301 x10_3)).toNat * 4)).block, (ad299.add (((rd t301 x10_3)).toNat * 4)).off + 3, none⟩ = some (.int .i64 ((rd_T47 l0_0 (rd t301 x10_3)).f3))) (ds := []) #[false, false, false, false, false, false, false, false, false, false] (by kernel_rfl) rfl rfl ⟨(blk_cell BK297.out 0).trans rfl, hx305_0, ((HB.out.cell (World.block_lt_of_cell? w _ hw306_0)).trans hw306_0), ((HB.out.cell (World.block_lt_of_cell? w _ hw306_1)).trans hw306_1), ((HB.out.cell (World.block_lt_of_cell? w _ hw306_2)).trans hw306_2), ((HB.out.cell (World.block_lt_of_cell? w _ hw306_3)).trans hw306_3)⟩ (fun hHeld => ?_); refine with_tabW monikerref4_Valid.tab14 monikerref4_Valid.bits14 (fun HT_ HW_ => ?_)
                                  generalize wr.drew = w48 at HO_7 BK297 BK300 HB hx305_0 hx306_0 hx306_1 hx306_2 hx306_3 hHeld ⊢
                                  refine pure_ (i := 0) (N := some 57) (v := ?_) (a' := ?_) #[true, false, false, false, false, false, false, false, false, false] rfl rfl (any_of HT_.out (by kernel_rfl)) (fun _ _ _ h => h) (Or.inl ⟨by rfl, ?_⟩) ?_ ?_
                                  rotate_left
                                  · intro w'
                                    go_simp
                                    with_reducible rfl
                                  rotate_left
                                  · simp only [Act.put, List.setIfInBounds_toArray, List.set_cons_zero, List.set_cons_succ, i64_w, i32_w]
                                    rfl
                                  refine pure_ (i := 2) (N := some 59) (v := ?_) (a' := ?_) #[true, false, true, false, false, false, false, false, false, false] rfl rfl (any_of HT_.out (by kernel_rfl)) (fun _ _ _ h => h) (Or.inl ⟨by rfl, ?_⟩) ?_ ?_
                                  rotate_left
                                  · intro w'
                                    go_simp
                                    with_reducible rfl
                                  rotate_left
                                  · simp only [Act.put, List.setIfInBounds_toArray, List.set_cons_zero, List.set_cons_succ, i64_w, i32_w]
                                    rfl
                                  refine pure_ (i := 3) (N := some 60) (v := ?_) (a' := ?_) #[true, false, true, true, false, false, false, false, false, false] rfl rfl (any_of HT_.out (by kernel_rfl)) (fun _ _ _ h => h) (Or.inl ⟨by rfl, ?_⟩) ?_ ?_
                                  rotate_left
                                  · intro w'
                                    go_simp
                                    with_reducible rfl
                                  rotate_left
                                  · simp only [Act.put, List.setIfInBounds_toArray, List.set_cons_zero, List.set_cons_succ, i64_w, i32_w]
                                    rfl
                                  refine pure_ (i := 4) (N := some 61) (v := ?_) (a' := ?_) #[true, false, true, true, true, false, false, false, false, false] rfl rfl (any_of HT_.out (by kernel_rfl)) (fun _ _ _ h => h) (Or.inl ⟨by rfl, ?_⟩) ?_ ?_
                                  rotate_left
                                  · intro w'
                                    go_simp
                                    with_reducible rfl
                                  rotate_left
                                  · simp only [Act.put, List.setIfInBounds_toArray, List.set_cons_zero, List.set_cons_succ, i64_w, i32_w]
                                    rfl
                                  refine take_ (i := 1) (N := some 58) (v := ?_) (a' := ?_) #[true, true, true, true, true, false, false, false, false, false] rfl rfl (take_ofW HT_.out HW_.out (by kernel_rfl)) (fun _ _ _ h => h) (Or.inl ⟨by rfl, ?_⟩) hHeld ?_ ?_
                                  rotate_left
                                  · rintro w' ⟨s0, s1, s2, s3, s4, s5⟩
                                    go_simp
                                    with_reducible rfl
                                  rotate_left
                                  · simp only [Act.put, List.setIfInBounds_toArray, List.set_cons_zero, List.set_cons_succ, i64_w, i32_w]
                                    rfl
                                  refine take_ (i := 5) (N := some 62) (v := ?_) (a' := ?_) #[true, true, true, true, true, true, false, false, false, false] rfl rfl (take_ofW HT_.out HW_.out (by kernel_rfl)) (fun _ _ _ h => h) (Or.inl ⟨by rfl, ?_⟩) hHeld ?_ ?_
                                  rotate_left
                                  · rintro w' ⟨s0, s1, s2, s3, s4, s5⟩
                                    go_simp
                                    with_reducible rfl
                                  rotate_left
                                  · simp only [Act.put, List.setIfInBounds_toArray, List.set_cons_zero, List.set_cons_succ, i64_w, i32_w]
                                    rfl
                                  refine pure_ (i := 6) (N := some 63) (v := ?_) (a' := ?_) #[true, true, true, true, true, true, true, false, false, false] rfl rfl (any_of HT_.out (by kernel_rfl)) (fun _ _ _ h => h) (Or.inl ⟨by rfl, ?_⟩) ?_ ?_
                                  rotate_left
                                  · intro w'
                                    go_simp
                                    with_reducible rfl
                                  rotate_left
                                  · simp only [Act.put, List.setIfInBounds_toArray, List.set_cons_zero, List.set_cons_succ, i64_w, i32_w]
                                    rfl
                                  refine take_ (i := 7) (N := some 64) (v := ?_) (a' := ?_) #[true, true, true, true, true, true, true, true, false, false] rfl rfl (take_ofW HT_.out HW_.out (by kernel_rfl)) (fun _ _ _ h => h) (Or.inl ⟨by rfl, ?_⟩) hHeld ?_ ?_
                                  rotate_left
                                  · rintro w' ⟨s0, s1, s2, s3, s4, s5⟩
                                    go_simp
                                    with_reducible rfl
                                  rotate_left
                                  · simp only [Act.put, List.setIfInBounds_toArray, List.set_cons_zero, List.set_cons_succ, i64_w, i32_w]
                                    rfl
                                  refine one_ (i := 8) (N := some 11) #[true, true, true, true, true, true, true, true, true, false] rfl rfl (one_of HT_.out (by kernel_rfl)) (by decide) (fun K hK => ?_)
                                  refine box_step ?hg (N := 11) ?hd (cs := #[.int .u8 0, .int .i64 0, .int .i64 0, .int .i64 0]) (t := 47) ?hr ?_; (case hd => rfl); (case hg => rfl); (case hr => first | (go_simp; done) | (go_simp; rfl))
                                  intro gb307 hg w49 hbox hb
                                  have HS1_ := (hb.cell (World.block_lt_of_cell? _ _ (hHeld.2.1))).trans (hHeld.2.1)
                                  have n0_ := Aside0.mk (Kd.R_below (by (with_reducible repeat (first | apply Kd.R_alloc | apply Kd.R_drewN | apply Kd.R_drew)); exact HO_7.out) hb)
                                  have n1_ := Aside0.mk (blk_below (g := gb297) (o := .cells #[.slice (some ad299) l0_0.length c0_0] 25 (0, 0)) (by (with_reducible repeat (first | refine blk_drewN ?_ _ | refine blk_drew ?_ | refine blk_alloc ?_ _)); exact BK297.out) hb)
                                  have n2_ := Aside0.mk (blk_below (g := gb300) (o := .cells #[.int .u8 ((rd_T47 l0_0 x5_1).f0), .int .i64 ((rd_T47 l0_0 x5_1).f1), .int .i64 ((rd_T47 l0_0 x5_1).f2), .int .i64 ((rd_T47 l0_0 x5_1).f3)] 47 (0, 0)) (by (with_reducible repeat (first | refine blk_drewN ?_ _ | refine blk_drew ?_ | refine blk_alloc ?_ _)); exact BK300.out) hb)
                                  have n3_ := Aside0.mk (below_step (by repeat (first | (with_reducible first | exact HB.out | apply below_alloc | apply pw_below_drewN | apply below_drew1 | refine below_set ?_ GE297.out | refine below_set ?_ GE300.out) | exact HB.out)) hb)
                                  have n4_ := Aside0.mk (hbox)
                                  have n5_ := Aside0.mk ((by rw [hg]; exact (below_size (by repeat (first | (with_reducible first | exact HB.out | apply below_alloc | apply pw_below_drewN | apply below_drew1 | refine below_set ?_ GE297.out | refine below_set ?_ GE300.out) | exact HB.out))) : w.heap.size ≤ gb307))
                                  have n6_ := Aside0.mk ((by rw [hg]; exact (below_size (by repeat (first | (with_reducible first | exact HB.out | apply below_alloc | apply pw_below_drewN | apply below_drew1 | refine below_set ?_ GE297.out | refine below_set ?_ GE300.out) | exact HB.out))) : w.heap.size ≤ gb307))
                                  have n7_ := Aside0.mk ((by rw [hg]; exact Nat.ne_of_lt (blk_lt (g := gb297) (o := .cells #[.slice (some ad299) l0_0.length c0_0] 25 (0, 0)) (by (with_reducible repeat (first | refine blk_drewN ?_ _ | refine blk_drew ?_ | refine blk_alloc ?_ _)); exact BK297.out)) : gb297 ≠ gb307))
                                  have n8_ := Aside0.mk ((by rw [hg]; exact Nat.ne_of_gt (blk_lt (g := gb297) (o := .cells #[.slice (some ad299) l0_0.length c0_0] 25 (0, 0)) (by (with_reducible repeat (first | refine blk_drewN ?_ _ | refine blk_drew ?_ | refine blk_alloc ?_ _)); exact BK297.out)) : gb307 ≠ gb297))
                                  have n9_ := Aside0.mk ((by rw [hg]; exact Nat.ne_of_lt (blk_lt (g := gb300) (o := .cells #[.int .u8 ((rd_T47 l0_0 x5_1).f0), .int .i64 ((rd_T47 l0_0 x5_1).f1), .int .i64 ((rd_T47 l0_0 x5_1).f2), .int .i64 ((rd_T47 l0_0 x5_1).f3)] 47 (0, 0)) (by (with_reducible repeat (first | refine blk_drewN ?_ _ | refine blk_drew ?_ | refine blk_alloc ?_ _)); exact BK300.out)) : gb300 ≠ gb307))
                                  have n10_ := Aside0.mk ((by rw [hg]; exact Nat.ne_of_gt (blk_lt (g := gb300) (o := .cells #[.int .u8 ((rd_T47 l0_0 x5_1).f0), .int .i64 ((rd_T47 l0_0 x5_1).f1), .int .i64 ((rd_T47 l0_0 x5_1).f2), .int .i64 ((rd_T47 l0_0 x5_1).f3)] 47 (0, 0)) (by (with_reducible repeat (first | refine blk_drewN ?_ _ | refine blk_drew ?_ | refine blk_alloc ?_ _)); exact BK300.out)) : gb307 ≠ gb300))
                                  clear HO_7
                                  clear BK297
                                  clear BK300
                                  clear HB
                                  have HO_7 := n0_
                                  have BK297 := n1_
                                  have BK300 := n2_
                                  have HB := n3_
                                  have BK307 := n4_
                                  have GW307 := n5_
                                  have GE307 := n6_
                                  have NB297_307 := n7_
                                  have NB307_297 := n8_
                                  have NB300_307 := n9_
                                  have NB307_300 := n10_
                                  clear n0_ n1_ n2_ n3_ n4_ n5_ n6_ n7_ n8_ n9_ n10_
                                  clear hb hbox hg
                                  refine hK.out _ _ ⟨(blk_cell BK297.out 0).trans rfl, HS1_, ((HB.out.cell (World.block_lt_of_cell? w _ hw306_0)).trans hw306_0), ((HB.out.cell (World.block_lt_of_cell? w _ hw306_1)).trans hw306_1), ((HB.out.cell (World.block_lt_of_cell? w _ hw306_2)).trans hw306_2), ((HB.out.cell (World.block_lt_of_cell? w _ hw306_3)).trans hw306_3)⟩ (fun hHeld => ?_)
                                  clear hK K
                                  refine norm_ (a' := ?_) ?_ ?_
                                  rotate_left
                                  · show Act.put _ (some 11) _ = _
                                    simp only [Act.put, List.setIfInBounds_toArray, List.set_cons_zero, List.set_cons_succ, i64_w, i32_w]
                                    rfl
                                  refine one_ (i := 9) (N := none) #[true, true, true, true, true, true, true, true, true, true] rfl rfl (one_of HT_.out (by kernel_rfl)) (by decide) (fun K hK => ?_)
                                  have hs50 : w49.cell? ⟨gb307, 0, none⟩ = some (.int .u8 0) := (blk_cell BK307.out 0).trans rfl
                                  have hfs50 := blk_frozen BK307.out 0
                                  have hns50_0 := NB297_307.out
                                  have hns50_1 := NB300_307.out
                                  have hms50_0 := NB307_297.out
                                  have hms50_1 := NB307_300.out
                                  have hs51 : w49.cell? ⟨gb307, 1, none⟩ = some (.int .i64 0) := (blk_cell BK307.out 1).trans rfl
                                  have hfs51 := blk_frozen BK307.out 1
                                  have hns51_0 := NB297_307.out
                                  have hns51_1 := NB300_307.out
                                  have hms51_0 := NB307_297.out
                                  have hms51_1 := NB307_300.out
                                  have hs52 : w49.cell? ⟨gb307, 2, none⟩ = some (.int .i64 0) := (blk_cell BK307.out 2).trans rfl
                                  have hfs52 := blk_frozen BK307.out 2
                                  have hns52_0 := NB297_307.out
                                  have hns52_1 := NB300_307.out
                                  have hms52_0 := NB307_297.out
                                  have hms52_1 := NB307_300.out
                                  have hs53 : w49.cell? ⟨gb307, 3, none⟩ = some (.int .i64 0) := (blk_cell BK307.out 3).trans rfl
                                  have hfs53 := blk_frozen BK307.out 3
                                  have hns53_0 := NB297_307.out
                                  have hns53_1 := NB300_307.out
                                  have hms53_0 := NB307_297.out
                                  have hms53_1 := NB307_300.out
                                  refine skip_ (w1 := ?_) (by rfl) rfl ?_ ?_
                                  rotate_left
                                  · go_simp
                                    rfl
                                  refine hK.out _ _ ⟨((cell_far (p := ⟨gb307, _, none⟩) NB297_307.out _).trans (((cell_far (p := ⟨gb307, _, none⟩) NB297_307.out _).trans (((cell_far (p := ⟨gb307, _, none⟩) NB297_307.out _).trans (((cell_far (p := ⟨gb307, _, none⟩) NB297_307.out _).trans (hHeld.1)))))))), ((cell_far (p := ⟨gb307, _, none⟩) (by first | exact Kd.own_blk (Kd.R_ne HO_7.out BK307.out (by decide)) | (rw [add_block]; exact Kd.own_blk (Kd.R_ne HO_7.out BK307.out (by decide))) | (show (Addr.add _ _).block ≠ _; rw [add_block]; exact Kd.own_blk (Kd.R_ne HO_7.out BK307.out (by decide))) | (dsimp only; exact Kd.own_blk (Kd.R_ne HO_7.out BK307.out (by decide)))) _).trans (((cell_far (p := ⟨gb307, _, none⟩) (by first | exact Kd.own_blk (Kd.R_ne HO_7.out BK307.out (by decide)) | (rw [add_block]; exact Kd.own_blk (Kd.R_ne HO_7.out BK307.out (by decide))) | (show (Addr.add _ _).block ≠ _; rw [add_block]; exact Kd.own_blk (Kd.R_ne HO_7.out BK307.out (by decide))) | (dsimp only; exact Kd.own_blk (Kd.R_ne HO_7.out BK307.out (by decide)))) _).trans (((cell_far (p := ⟨gb307, _, none⟩) (by first | exact Kd.own_blk (Kd.R_ne HO_7.out BK307.out (by decide)) | (rw [add_block]; exact Kd.own_blk (Kd.R_ne HO_7.out BK307.out (by decide))) | (show (Addr.add _ _).block ≠ _; rw [add_block]; exact Kd.own_blk (Kd.R_ne HO_7.out BK307.out (by decide))) | (dsimp only; exact Kd.own_blk (Kd.R_ne HO_7.out BK307.out (by decide)))) _).trans (((cell_far (p := ⟨gb307, _, none⟩) (by first | exact Kd.own_blk (Kd.R_ne HO_7.out BK307.out (by decide)) | (rw [add_block]; exact Kd.own_blk (Kd.R_ne HO_7.out BK307.out (by decide))) | (show (Addr.add _ _).block ≠ _; rw [add_block]; exact Kd.own_blk (Kd.R_ne HO_7.out BK307.out (by decide))) | (dsimp only; exact Kd.own_blk (Kd.R_ne HO_7.out BK307.out (by decide)))) _).trans (hHeld.2.1)))))))), ((cell_far (p := ⟨gb307, _, none⟩) (by first | exact Nat.ne_of_lt (Nat.lt_of_lt_of_le (by have := World.block_lt_of_cell? _ _ hw306_0; first | rwa [add_block] at this | exact this) GW307.out) | (rw [add_block]; exact Nat.ne_of_lt (Nat.lt_of_lt_of_le (by have := World.block_lt_of_cell? _ _ hw306_0; first | rwa [add_block] at this | exact this) GW307.out)) | (show (Addr.add _ _).block ≠ _; rw [add_block]; exact Nat.ne_of_lt (Nat.lt_of_lt_of_le (by have := World.block_lt_of_cell? _ _ hw306_0; first | rwa [add_block] at this | exact this) GW307.out)) | (dsimp only; exact Nat.ne_of_lt (Nat.lt_of_lt_of_le (by have := World.block_lt_of_cell? _ _ hw306_0; first | rwa [add_block] at this | exact this) GW307.out))) _).trans (((cell_far (p := ⟨gb307, _, none⟩) (by first | exact Nat.ne_of_lt (Nat.lt_of_lt_of_le (by have := World.block_lt_of_cell? _ _ hw306_0; first | rwa [add_block] at this | exact this) GW307.out) | (rw [add_block]; exact Nat.ne_of_lt (Nat.lt_of_lt_of_le (by have := World.block_lt_of_cell? _ _ hw306_0; first | rwa [add_block] at this | exact this) GW307.out)) | (show (Addr.add _ _).block ≠ _; rw [add_block]; exact Nat.ne_of_lt (Nat.lt_of_lt_of_le (by have := World.block_lt_of_cell? _ _ hw306_0; first | rwa [add_block] at this | exact this) GW307.out)) | (dsimp only; exact Nat.ne_of_lt (Nat.lt_of_lt_of_le (by have := World.block_lt_of_cell? _ _ hw306_0; first | rwa [add_block] at this | exact this) GW307.out))) _).trans (((cell_far (p := ⟨gb307, _, none⟩) (by first | exact Nat.ne_of_lt (Nat.lt_of_lt_of_le (by have := World.block_lt_of_cell? _ _ hw306_0; first | rwa [add_block] at this | exact this) GW307.out) | (rw [add_block]; exact Nat.ne_of_lt (Nat.lt_of_lt_of_le (by have := World.block_lt_of_cell? _ _ hw306_0; first | rwa [add_block] at this | exact this) GW307.out)) | (show (Addr.add _ _).block ≠ _; rw [add_block]; exact Nat.ne_of_lt (Nat.lt_of_lt_of_le (by have := World.block_lt_of_cell? _ _ hw306_0; first | rwa [add_block] at this | exact this) GW307.out)) | (dsimp only; exact Nat.ne_of_lt (Nat.lt_of_lt_of_le (by have := World.block_lt_of_cell? _ _ hw306_0; first | rwa [add_block] at this | exact this) GW307.out))) _).trans (((cell_far (p := ⟨gb307, _, none⟩) (by first | exact Nat.ne_of_lt (Nat.lt_of_lt_of_le (by have := World.block_lt_of_cell? _ _ hw306_0; first | rwa [add_block] at this | exact this) GW307.out) | (rw [add_block]; exact Nat.ne_of_lt (Nat.lt_of_lt_of_le (by have := World.block_lt_of_cell? _ _ hw306_0; first | rwa [add_block] at this | exact this) GW307.out)) | (show (Addr.add _ _).block ≠ _; rw [add_block]; exact Nat.ne_of_lt (Nat.lt_of_lt_of_le (by have := World.block_lt_of_cell? _ _ hw306_0; first | rwa [add_block] at this | exact this) GW307.out)) | (dsimp only; exact Nat.ne_of_lt (Nat.lt_of_lt_of_le (by have := World.block_lt_of_cell? _ _ hw306_0; first | rwa [add_block] at this | exact this) GW307.out))) _).trans (hHeld.2.2.1)))))))), ((cell_far (p := ⟨gb307, _, none⟩) (by first | exact Nat.ne_of_lt (Nat.lt_of_lt_of_le (by have := World.block_lt_of_cell? _ _ hw306_1; first | rwa [add_block] at this | exact this) GW307.out) | (rw [add_block]; exact Nat.ne_of_lt (Nat.lt_of_lt_of_le (by have := World.block_lt_of_cell? _ _ hw306_1; first | rwa [add_block] at this | exact this) GW307.out)) | (show (Addr.add _ _).block ≠ _; rw [add_block]; exact Nat.ne_of_lt (Nat.lt_of_lt_of_le (by have := World.block_lt_of_cell? _ _ hw306_1; first | rwa [add_block] at this | exact this) GW307.out)) | (dsimp only; exact Nat.ne_of_lt (Nat.lt_of_lt_of_le (by have := World.block_lt_of_cell? _ _ hw306_1; first | rwa [add_block] at this | exact this) GW307.out))) _).trans (((cell_far (p := ⟨gb307, _, none⟩) (by first | exact Nat.ne_of_lt (Nat.lt_of_lt_of_le (by have := World.block_lt_of_cell? _ _ hw306_1; first | rwa [add_block] at this | exact this) GW307.out) | (rw [add_block]; exact Nat.ne_of_lt (Nat.lt_of_lt_of_le (by have := World.block_lt_of_cell? _ _ hw306_1; first | rwa [add_block] at this | exact this) GW307.out)) | (show (Addr.add _ _).block ≠ _; rw [add_block]; exact Nat.ne_of_lt (Nat.lt_of_lt_of_le (by have := World.block_lt_of_cell? _ _ hw306_1; first | rwa [add_block] at this | exact this) GW307.out)) | (dsimp only; exact Nat.ne_of_lt (Nat.lt_of_lt_of_le (by have := World.block_lt_of_cell? _ _ hw306_1; first | rwa [add_block] at this | exact this) GW307.out))) _).trans (((cell_far (p := ⟨gb307, _, none⟩) (by first | exact Nat.ne_of_lt (Nat.lt_of_lt_of_le (by have := World.block_lt_of_cell? _ _ hw306_1; first | rwa [add_block] at this | exact this) GW307.out) | (rw [add_block]; exact Nat.ne_of_lt (Nat.lt_of_lt_of_le (by have := World.block_lt_of_cell? _ _ hw306_1; first | rwa [add_block] at this | exact this) GW307.out)) | (show (Addr.add _ _).block ≠ _; rw [add_block]; exact Nat.ne_of_lt (Nat.lt_of_lt_of_le (by have := World.block_lt_of_cell? _ _ hw306_1; first | rwa [add_block] at this | exact this) GW307.out)) | (dsimp only; exact Nat.ne_of_lt (Nat.lt_of_lt_of_le (by have := World.block_lt_of_cell? _ _ hw306_1; first | rwa [add_block] at this | exact this) GW307.out))) _).trans (((cell_far (p := ⟨gb307, _, none⟩) (by first | exact Nat.ne_of_lt (Nat.lt_of_lt_of_le (by have := World.block_lt_of_cell? _ _ hw306_1; first | rwa [add_block] at this | exact this) GW307.out) | (rw [add_block]; exact Nat.ne_of_lt (Nat.lt_of_lt_of_le (by have := World.block_lt_of_cell? _ _ hw306_1; first | rwa [add_block] at this | exact this) GW307.out)) | (show (Addr.add _ _).block ≠ _; rw [add_block]; exact Nat.ne_of_lt (Nat.lt_of_lt_of_le (by have := World.block_lt_of_cell? _ _ hw306_1; first | rwa [add_block] at this | exact this) GW307.out)) | (dsimp only; exact Nat.ne_of_lt (Nat.lt_of_lt_of_le (by have := World.block_lt_of_cell? _ _ hw306_1; first | rwa [add_block] at this | exact this) GW307.out))) _).trans (hHeld.2.2.2.1)))))))), ((cell_far (p := ⟨gb307, _, none⟩) (by first | exact Nat.ne_of_lt (Nat.lt_of_lt_of_le (by have := World.block_lt_of_cell? _ _ hw306_2; first | rwa [add_block] at this | exact this) GW307.out) | (rw [add_block]; exact Nat.ne_of_lt (Nat.lt_of_lt_of_le (by have := World.block_lt_of_cell? _ _ hw306_2; first | rwa [add_block] at this | exact this) GW307.out)) | (show (Addr.add _ _).block ≠ _; rw [add_block]; exact Nat.ne_of_lt (Nat.lt_of_lt_of_le (by have := World.block_lt_of_cell? _ _ hw306_2; first | rwa [add_block] at this | exact this) GW307.out)) | (dsimp only; exact Nat.ne_of_lt (Nat.lt_of_lt_of_le (by have := World.block_lt_of_cell? _ _ hw306_2; first | rwa [add_block] at this | exact this) GW307.out))) _).trans (((cell_far (p := ⟨gb307, _, none⟩) (by first | exact Nat.ne_of_lt (Nat.lt_of_lt_of_le (by have := World.block_lt_of_cell? _ _ hw306_2; first | rwa [add_block] at this | exact this) GW307.out) | (rw [add_block]; exact Nat.ne_of_lt (Nat.lt_of_lt_of_le (by have := World.block_lt_of_cell? _ _ hw306_2; first | rwa [add_block] at this | exact this) GW307.out)) | (show (Addr.add _ _).block ≠ _; rw [add_block]; exact Nat.ne_of_lt (Nat.lt_of_lt_of_le (by have := World.block_lt_of_cell? _ _ hw306_2; first | rwa [add_block] at this | exact this) GW307.out)) | (dsimp only; exact Nat.ne_of_lt (Nat.lt_of_lt_of_le (by have := World.block_lt_of_cell? _ _ hw306_2; first | rwa [add_block] at this | exact this) GW307.out))) _).trans (((cell_far (p := ⟨gb307, _, none⟩) (by first | exact Nat.ne_of_lt (Nat.lt_of_lt_of_le (by have := World.block_lt_of_cell? _ _ hw306_2; first | rwa [add_block] at this | exact this) GW307.out) | (rw [add_block]; exact Nat.ne_of_lt (Nat.lt_of_lt_of_le (by have := World.block_lt_of_cell? _ _ hw306_2; first | rwa [add_block] at this | exact this) GW307.out)) | (show (Addr.add _ _).block ≠ _; rw [add_block]; exact Nat.ne_of_lt (Nat.lt_of_lt_of_le (by have := World.block_lt_of_cell? _ _ hw306_2; first | rwa [add_block] at this | exact this) GW307.out)) | (dsimp only; exact Nat.ne_of_lt (Nat.lt_of_lt_of_le (by have := World.block_lt_of_cell? _ _ hw306_2; first | rwa [add_block] at this | exact this) GW307.out))) _).trans (((cell_far (p := ⟨gb307, _, none⟩) (by first | exact Nat.ne_of_lt (Nat.lt_of_lt_of_le (by have := World.block_lt_of_cell? _ _ hw306_2; first | rwa [add_block] at this | exact this) GW307.out) | (rw [add_block]; exact Nat.ne_of_lt (Nat.lt_of_lt_of_le (by have := World.block_lt_of_cell? _ _ hw306_2; first | rwa [add_block] at this | exact this) GW307.out)) | (show (Addr.add _ _).block ≠ _; rw [add_block]; exact Nat.ne_of_lt (Nat.lt_of_lt_of_le (by have := World.block_lt_of_cell? _ _ hw306_2; first | rwa [add_block] at this | exact this) GW307.out)) | (dsimp only; exact Nat.ne_of_lt (Nat.lt_of_lt_of_le (by have := World.block_lt_of_cell? _ _ hw306_2; first | rwa [add_block] at this | exact this) GW307.out))) _).trans (hHeld.2.2.2.2.1)))))))), ((cell_far (p := ⟨gb307, _, none⟩) (by first | exact Nat.ne_of_lt (Nat.lt_of_lt_of_le (by have := World.block_lt_of_cell? _ _ hw306_3; first | rwa [add_block] at this | exact this) GW307.out) | (rw [add_block]; exact Nat.ne_of_lt (Nat.lt_of_lt_of_le (by have := World.block_lt_of_cell? _ _ hw306_3; first | rwa [add_block] at this | exact this) GW307.out)) | (show (Addr.add _ _).block ≠ _; rw [add_block]; exact Nat.ne_of_lt (Nat.lt_of_lt_of_le (by have := World.block_lt_of_cell? _ _ hw306_3; first | rwa [add_block] at this | exact this) GW307.out)) | (dsimp only; exact Nat.ne_of_lt (Nat.lt_of_lt_of_le (by have := World.block_lt_of_cell? _ _ hw306_3; first | rwa [add_block] at this | exact this) GW307.out))) _).trans (((cell_far (p := ⟨gb307, _, none⟩) (by first | exact Nat.ne_of_lt (Nat.lt_of_lt_of_le (by have := World.block_lt_of_cell? _ _ hw306_3; first | rwa [add_block] at this | exact this) GW307.out) | (rw [add_block]; exact Nat.ne_of_lt (Nat.lt_of_lt_of_le (by have := World.block_lt_of_cell? _ _ hw306_3; first | rwa [add_block] at this | exact this) GW307.out)) | (show (Addr.add _ _).block ≠ _; rw [add_block]; exact Nat.ne_of_lt (Nat.lt_of_lt_of_le (by have := World.block_lt_of_cell? _ _ hw306_3; first | rwa [add_block] at this | exact this) GW307.out)) | (dsimp only; exact Nat.ne_of_lt (Nat.lt_of_lt_of_le (by have := World.block_lt_of_cell? _ _ hw306_3; first | rwa [add_block] at this | exact this) GW307.out))) _).trans (((cell_far (p := ⟨gb307, _, none⟩) (by first | exact Nat.ne_of_lt (Nat.lt_of_lt_of_le (by have := World.block_lt_of_cell? _ _ hw306_3; first | rwa [add_block] at this | exact this) GW307.out) | (rw [add_block]; exact Nat.ne_of_lt (Nat.lt_of_lt_of_le (by have := World.block_lt_of_cell? _ _ hw306_3; first | rwa [add_block] at this | exact this) GW307.out)) | (show (Addr.add _ _).block ≠ _; rw [add_block]; exact Nat.ne_of_lt (Nat.lt_of_lt_of_le (by have := World.block_lt_of_cell? _ _ hw306_3; first | rwa [add_block] at this | exact this) GW307.out)) | (dsimp only; exact Nat.ne_of_lt (Nat.lt_of_lt_of_le (by have := World.block_lt_of_cell? _ _ hw306_3; first | rwa [add_block] at this | exact this) GW307.out))) _).trans (((cell_far (p := ⟨gb307, _, none⟩) (by first | exact Nat.ne_of_lt (Nat.lt_of_lt_of_le (by have := World.block_lt_of_cell? _ _ hw306_3; first | rwa [add_block] at this | exact this) GW307.out) | (rw [add_block]; exact Nat.ne_of_lt (Nat.lt_of_lt_of_le (by have := World.block_lt_of_cell? _ _ hw306_3; first | rwa [add_block] at this | exact this) GW307.out)) | (show (Addr.add _ _).block ≠ _; rw [add_block]; exact Nat.ne_of_lt (Nat.lt_of_lt_of_le (by have := World.block_lt_of_cell? _ _ hw306_3; first | rwa [add_block] at this | exact this) GW307.out)) | (dsimp only; exact Nat.ne_of_lt (Nat.lt_of_lt_of_le (by have := World.block_lt_of_cell? _ _ hw306_3; first | rwa [add_block] at this | exact this) GW307.out))) _).trans (hHeld.2.2.2.2.2))))))))⟩ (fun hHeld => ?_)
                                  clear hK K
                                  refine done_ (done_of HT_.out (by kernel_rfl)) ?_
                                  have hnb54 := NB307_297.out
                                  have hnc54 := NB297_307.out
                                  have hnb55 := NB307_300.out
                                  have hnc55 := NB300_307.out
                                  have hcz56_0 : w49.cell? ⟨gb307, 0, none⟩ = some (.int .u8 0) := (blk_cell BK307.out 0).trans rfl
                                  have hcz56_1 : w49.cell? ⟨gb307, 1, none⟩ = some (.int .i64 0) := (blk_cell BK307.out 1).trans rfl
                                  have hcz56_2 : w49.cell? ⟨gb307, 2, none⟩ = some (.int .i64 0) := (blk_cell BK307.out 2).trans rfl
                                  have hcz56_3 : w49.cell? ⟨gb307, 3, none⟩ = some (.int .i64 0) := (blk_cell BK307.out 3).trans rfl
                                  have hfz56_0 := blk_frozen BK307.out 0
                                  have hfz56_1 := blk_frozen BK307.out 1
                                  have hfz56_2 := blk_frozen BK307.out 2
                                  have hfz56_3 := blk_frozen BK307.out 3
                                  have hnb57 := NB300_297.out
                                  have hnc57 := NB297_300.out
                                  have hcz58_0 : w49.cell? ⟨gb300, 0, none⟩ = some (.int .u8 ((rd_T47 l0_0 x5_1).f0)) := (blk_cell BK300.out 0).trans rfl
                                  have hcz58_1 : w49.cell? ⟨gb300, 1, none⟩ = some (.int .i64 ((rd_T47 l0_0 x5_1).f1)) := (blk_cell BK300.out 1).trans rfl
                                  have hcz58_2 : w49.cell? ⟨gb300, 2, none⟩ = some (.int .i64 ((rd_T47 l0_0 x5_1).f2)) := (blk_cell BK300.out 2).trans rfl
                                  have hcz58_3 : w49.cell? ⟨gb300, 3, none⟩ = some (.int .i64 ((rd_T47 l0_0 x5_1).f3)) := (blk_cell BK300.out 3).trans rfl
                                  have hfz58_0 := blk_frozen BK300.out 0
                                  have hfz58_1 := blk_frozen BK300.out 1
                                  have hfz58_2 := blk_frozen BK300.out 2
                                  have hfz58_3 := blk_frozen BK300.out 3
                                  try go_wp2
                                  go_roundg k3
                                  case measure => have := HK1.out; have := HJ9.out; have := HK3.out; omega
                                  case rel => exact ⟨(x9_3), (wrap64 (x10_3 + 1)), (by first | rfl | (simp; done) | (simp [*]; done)), (by first | rfl | (simp; done) | (simp [*]; done)), H', ⟨by have := HK1.out; have := HJ9.out; have := HK3.out; omega⟩, ⟨by (with_reducible repeat (first | apply Kd.R_alloc | apply Kd.R_drewN | apply Kd.R_drew)); exact Kd.R_mono (Kd.R_far (p := ⟨gb307, 3, none⟩) (Kd.R_far (p := ⟨gb307, 2, none⟩) (Kd.R_far (p := ⟨gb307, 1, none⟩) (Kd.R_far (p := ⟨gb307, 0, none⟩) (Kd.R_types HO_7.out BK307.out (by decide)) (fun _ hk => hk.2) (.int .u8 ((rd_T47 l0_0 (rd t301 x10_3)).f0))) (fun _ hk => hk.2) (.int .i64 ((rd_T47 l0_0 (rd t301 x10_3)).f1))) (fun _ hk => hk.2) (.int .i64 ((rd_T47 l0_0 (rd t301 x10_3)).f2))) (fun _ hk => hk.2) (.int .i64 ((rd_T47 l0_0 (rd t301 x10_3)).f3))) (fun _ hk => trivial)⟩, ⟨by (with_reducible repeat (first | refine blk_drewN ?_ _ | refine blk_drew ?_ | refine blk_alloc ?_ _)); refine blk_far ?_ NB297_307.out _; (with_reducible repeat (first | refine blk_drewN ?_ _ | refine blk_drew ?_ | refine blk_alloc ?_ _)); refine blk_far ?_ NB297_307.out _; (with_reducible repeat (first | refine blk_drewN ?_ _ | refine blk_drew ?_ | refine blk_alloc ?_ _)); refine blk_far ?_ NB297_307.out _; (with_reducible repeat (first | refine blk_drewN ?_ _ | refine blk_drew ?_ | refine blk_alloc ?_ _)); refine blk_far ?_ NB297_307.out _; (with_reducible repeat (first | refine blk_drewN ?_ _ | refine blk_drew ?_ | refine blk_alloc ?_ _)); exact BK297.out⟩, ⟨by (with_reducible repeat (first | refine blk_drewN ?_ _ | refine blk_drew ?_ | refine blk_alloc ?_ _)); refine blk_far ?_ NB300_307.out _; (with_reducible repeat (first | refine blk_drewN ?_ _ | refine blk_drew ?_ | refine blk_alloc ?_ _)); refine blk_far ?_ NB300_307.out _; (with_reducible repeat (first | refine blk_drewN ?_ _ | refine blk_drew ?_ | refine blk_alloc ?_ _)); refine blk_far ?_ NB300_307.out _; (with_reducible repeat (first | refine blk_drewN ?_ _ | refine blk_drew ?_ | refine blk_alloc ?_ _)); refine blk_far ?_ NB300_307.out _; (with_reducible repeat (first | refine blk_drewN ?_ _ | refine blk_drew ?_ | refine blk_alloc ?_ _)); exact BK300.out⟩, ⟨by repeat (first | (with_reducible first | exact HB.out | apply below_alloc | apply pw_below_drewN | apply below_drew1 | refine below_set ?_ GE297.out | refine below_set ?_ GE300.out | refine below_set ?_ GE307.out) | exact HB.out)⟩⟩
                              · rw [if_neg c33] at H
                                have c33b0 : (((rd_T47 l0_0 (rd t301 x10_3)).f1) == ((rd_T47 l0_0 (rd t301 x10_3)).f2)) = false := beq_eq_false_iff_ne.mpr c33
                                have c33b1 : (((rd_T47 l0_0 (rd t301 x10_3)).f1) != ((rd_T47 l0_0 (rd t301 x10_3)).f2)) = true := bne_iff_ne.mpr c33
                                by_cases c59 : ((rd_T47 l0_0 (rd t301 x10_3)).f1) < x9_3
                                · rw [if_pos c59] at H
                                  have c59b0 : decide (((rd_T47 l0_0 (rd t301 x10_3)).f1) < x9_3) = true := decide_eq_true c59
                                  clear c59
                                  obtain rfl := Option.some.inj H
                                  obtain ⟨Ao60, co60, eo60⟩ := Kd.R_slice HO_7.out
                                  subst eo60
                                  try go_wp2
                                  have n0_ := Aside0.mk (Kd.R_drew HO_7.out)
                                  have n1_ := Aside0.mk (blk_drew BK297.out)
                                  have n2_ := Aside0.mk (blk_drew BK300.out)
                                  have n3_ := Aside0.mk (below_drew1 HB.out)
                                  clear HO_7
                                  clear BK297
                                  clear BK300
                                  clear HB
                                  have HO_7 := n0_
                                  have BK297 := n1_
                                  have BK300 := n2_
                                  have HB := n3_
                                  clear n0_ n1_ n2_ n3_
                                  have p305 : 0 ≤ (x10_3 : Int) := of_decide_eq_true (by first | (with_reducible assumption) | assumption)
                                  have q305 : x10_3 < (t301.length : Int) := of_decide_eq_true (by first | (with_reducible assumption) | assumption)
                                  obtain ⟨ad305, e305, hx305_0⟩ := Kd.at_int (Kd.R_reads' HO_7.out).2.2 x10_3 p305 q305
                                  cases e305
                                  replace p305 := eq_true p305
                                  replace q305 := eq_true q305
                                  have p306 : 0 ≤ ((rd t301 x10_3) : Int) := of_decide_eq_true (by first | (with_reducible assumption) | assumption)
                                  have q306 : (rd t301 x10_3) < (l0_0.length : Int) := of_decide_eq_true (by first | (with_reducible assumption) | assumption)
                                  obtain ⟨ad306, e306, hx306_0, hx306_1, hx306_2, hx306_3⟩ := at_T47 HR0_0.out (rd t301 x10_3) p306 q306
                                  have hw306_3 := hx306_3
                                  have hw306_2 := hx306_2
                                  have hw306_1 := hx306_1
                                  have hw306_0 := hx306_0
                                  obtain rfl : ad299 = ad306 := (by injection e306)
                                  replace hx306_0 := (HB.out.cell (World.block_lt_of_cell? w _ hx306_0)).trans hx306_0
                                  replace hx306_1 := (HB.out.cell (World.block_lt_of_cell? w _ hx306_1)).trans hx306_1
                                  replace hx306_2 := (HB.out.cell (World.block_lt_of_cell? w _ hx306_2)).trans hx306_2
                                  replace hx306_3 := (HB.out.cell (World.block_lt_of_cell? w _ hx306_3)).trans hx306_3
                                  replace p306 := eq_true p306
                                  replace q306 := eq_true q306
                                  refine start_ (n := 10) (S := fun w' => w'.cell? ⟨gb297, 0, none⟩ = some (.slice (some ad299) l0_0.length c0_0) ∧ w'.cell? (ad305.add (x10_3).toNat) = some (.int .i64 (rd t301 x10_3)) ∧ w'.cell? (ad299.add (((rd t301 x10_3)).toNat * 4)) = some (.int .u8 ((rd_T47 l0_0 (rd t301 x10_3)).f0)) ∧ w'.cell? ⟨(ad299.add (((rd t301 x10_3)).toNat * 4)).block, (ad299.add (((rd t301 x10_3)).toNat * 4)).off + 1, none⟩ = some (.int .i64 ((rd_T47 l0_0 (rd t301 x10_3)).f1)) ∧ w'.cell? ⟨(ad299.add (((rd t301 x10_3)).toNat * 4)).block, (ad299.add (((rd t301 x10_3)).toNat * 4)).off + 2, none⟩ = some (.int .i64 ((rd_T47 l0_0 (rd t301 x10_3)).f2)) ∧ w'.cell? ⟨(ad299.add (((rd t301 x10_3)).toNat * 4)).block, (ad299.add (((rd t301 x10_3)).toNat * 4)).off + 3, none⟩ = some (.int .i64 ((rd_T47 l0_0 (rd t301 x10_3)).f3))) (ds := []) #[false, false, false, false, false, false, false, false, false, false] (by kernel_rfl) rfl rfl ⟨(blk_cell BK297.out 0).trans rfl, hx305_0, ((HB.out.cell (World.block_lt_of_cell? w _ hw306_0)).trans hw306_0), ((HB.out.cell (World.block_lt_of_cell? w _ hw306_1)).trans hw306_1), ((HB.out.cell (World.block_lt_of_cell? w _ hw306_2)).trans hw306_2), ((HB.out.cell (World.block_lt_of_cell? w _ hw306_3)).trans hw306_3)⟩ (fun hHeld => ?_); refine with_tabW monikerref4_Valid.tab14 monikerref4_Valid.bits14 (fun HT_ HW_ => ?_)
                                  generalize wr.drew = w61 at HO_7 BK297 BK300 HB hx305_0 hx306_0 hx306_1 hx306_2 hx306_3 hHeld ⊢
                                  refine pure_ (i := 0) (N := some 57) (v := ?_) (a' := ?_) #[true, false, false, false, false, false, false, false, false, false] rfl rfl (any_of HT_.out (by kernel_rfl)) (fun _ _ _ h => h) (Or.inl ⟨by rfl, ?_⟩) ?_ ?_
                                  rotate_left
                                  · intro w'
                                    go_simp
                                    with_reducible rfl
                                  rotate_left
                                  · simp only [Act.put, List.setIfInBounds_toArray, List.set_cons_zero, List.set_cons_succ, i64_w, i32_w]
                                    rfl
                                  refine pure_ (i := 2) (N := some 59) (v := ?_) (a' := ?_) #[true, false, true, false, false, false, false, false, false, false] rfl rfl (any_of HT_.out (by kernel_rfl)) (fun _ _ _ h => h) (Or.inl ⟨by rfl, ?_⟩) ?_ ?_
                                  rotate_left
                                  · intro w'
                                    go_simp
                                    with_reducible rfl
                                  rotate_left
                                  · simp only [Act.put, List.setIfInBounds_toArray, List.set_cons_zero, List.set_cons_succ, i64_w, i32_w]
                                    rfl
                                  refine pure_ (i := 3) (N := some 60) (v := ?_) (a' := ?_) #[true, false, true, true, false, false, false, false, false, false] rfl rfl (any_of HT_.out (by kernel_rfl)) (fun _ _ _ h => h) (Or.inl ⟨by rfl, ?_⟩) ?_ ?_
                                  rotate_left
                                  · intro w'
                                    go_simp
                                    with_reducible rfl
                                  rotate_left
                                  · simp only [Act.put, List.setIfInBounds_toArray, List.set_cons_zero, List.set_cons_succ, i64_w, i32_w]
                                    rfl
                                  refine pure_ (i := 4) (N := some 61) (v := ?_) (a' := ?_) #[true, false, true, true, true, false, false, false, false, false] rfl rfl (any_of HT_.out (by kernel_rfl)) (fun _ _ _ h => h) (Or.inl ⟨by rfl, ?_⟩) ?_ ?_
                                  rotate_left
                                  · intro w'
                                    go_simp
                                    with_reducible rfl
                                  rotate_left
                                  · simp only [Act.put, List.setIfInBounds_toArray, List.set_cons_zero, List.set_cons_succ, i64_w, i32_w]
                                    rfl
                                  refine take_ (i := 1) (N := some 58) (v := ?_) (a' := ?_) #[true, true, true, true, true, false, false, false, false, false] rfl rfl (take_ofW HT_.out HW_.out (by kernel_rfl)) (fun _ _ _ h => h) (Or.inl ⟨by rfl, ?_⟩) hHeld ?_ ?_
                                  rotate_left
                                  · rintro w' ⟨s0, s1, s2, s3, s4, s5⟩
                                    go_simp
                                    with_reducible rfl
                                  rotate_left
                                  · simp only [Act.put, List.setIfInBounds_toArray, List.set_cons_zero, List.set_cons_succ, i64_w, i32_w]
                                    rfl
                                  refine take_ (i := 5) (N := some 62) (v := ?_) (a' := ?_) #[true, true, true, true, true, true, false, false, false, false] rfl rfl (take_ofW HT_.out HW_.out (by kernel_rfl)) (fun _ _ _ h => h) (Or.inl ⟨by rfl, ?_⟩) hHeld ?_ ?_
                                  rotate_left
                                  · rintro w' ⟨s0, s1, s2, s3, s4, s5⟩
                                    go_simp
                                    with_reducible rfl
                                  rotate_left
                                  · simp only [Act.put, List.setIfInBounds_toArray, List.set_cons_zero, List.set_cons_succ, i64_w, i32_w]
                                    rfl
                                  refine pure_ (i := 6) (N := some 63) (v := ?_) (a' := ?_) #[true, true, true, true, true, true, true, false, false, false] rfl rfl (any_of HT_.out (by kernel_rfl)) (fun _ _ _ h => h) (Or.inl ⟨by rfl, ?_⟩) ?_ ?_
                                  rotate_left
                                  · intro w'
                                    go_simp
                                    with_reducible rfl
                                  rotate_left
                                  · simp only [Act.put, List.setIfInBounds_toArray, List.set_cons_zero, List.set_cons_succ, i64_w, i32_w]
                                    rfl
                                  refine take_ (i := 7) (N := some 64) (v := ?_) (a' := ?_) #[true, true, true, true, true, true, true, true, false, false] rfl rfl (take_ofW HT_.out HW_.out (by kernel_rfl)) (fun _ _ _ h => h) (Or.inl ⟨by rfl, ?_⟩) hHeld ?_ ?_
                                  rotate_left
                                  · rintro w' ⟨s0, s1, s2, s3, s4, s5⟩
                                    go_simp
                                    with_reducible rfl
                                  rotate_left
                                  · simp only [Act.put, List.setIfInBounds_toArray, List.set_cons_zero, List.set_cons_succ, i64_w, i32_w]
                                    rfl
                                  refine one_ (i := 8) (N := some 11) #[true, true, true, true, true, true, true, true, true, false] rfl rfl (one_of HT_.out (by kernel_rfl)) (by decide) (fun K hK => ?_)
                                  refine box_step ?hg (N := 11) ?hd (cs := #[.int .u8 0, .int .i64 0, .int .i64 0, .int .i64 0]) (t := 47) ?hr ?_; (case hd => rfl); (case hg => rfl); (case hr => first | (go_simp; done) | (go_simp; rfl))
                                  intro gb307 hg w62 hbox hb
                                  have HS1_ := (hb.cell (World.block_lt_of_cell? _ _ (hHeld.2.1))).trans (hHeld.2.1)
                                  have n0_ := Aside0.mk (Kd.R_below (by (with_reducible repeat (first | apply Kd.R_alloc | apply Kd.R_drewN | apply Kd.R_drew)); exact HO_7.out) hb)
                                  have n1_ := Aside0.mk (blk_below (g := gb297) (o := .cells #[.slice (some ad299) l0_0.length c0_0] 25 (0, 0)) (by (with_reducible repeat (first | refine blk_drewN ?_ _ | refine blk_drew ?_ | refine blk_alloc ?_ _)); exact BK297.out) hb)
                                  have n2_ := Aside0.mk (blk_below (g := gb300) (o := .cells #[.int .u8 ((rd_T47 l0_0 x5_1).f0), .int .i64 ((rd_T47 l0_0 x5_1).f1), .int .i64 ((rd_T47 l0_0 x5_1).f2), .int .i64 ((rd_T47 l0_0 x5_1).f3)] 47 (0, 0)) (by (with_reducible repeat (first | refine blk_drewN ?_ _ | refine blk_drew ?_ | refine blk_alloc ?_ _)); exact BK300.out) hb)
                                  have n3_ := Aside0.mk (below_step (by repeat (first | (with_reducible first | exact HB.out | apply below_alloc | apply pw_below_drewN | apply below_drew1 | refine below_set ?_ GE297.out | refine below_set ?_ GE300.out) | exact HB.out)) hb)
                                  have n4_ := Aside0.mk (hbox)
                                  have n5_ := Aside0.mk ((by rw [hg]; exact (below_size (by repeat (first | (with_reducible first | exact HB.out | apply below_alloc | apply pw_below_drewN | apply below_drew1 | refine below_set ?_ GE297.out | refine below_set ?_ GE300.out) | exact HB.out))) : w.heap.size ≤ gb307))
                                  have n6_ := Aside0.mk ((by rw [hg]; exact (below_size (by repeat (first | (with_reducible first | exact HB.out | apply below_alloc | apply pw_below_drewN | apply below_drew1 | refine below_set ?_ GE297.out | refine below_set ?_ GE300.out) | exact HB.out))) : w.heap.size ≤ gb307))
                                  have n7_ := Aside0.mk ((by rw [hg]; exact Nat.ne_of_lt (blk_lt (g := gb297) (o := .cells #[.slice (some ad299) l0_0.length c0_0] 25 (0, 0)) (by (with_reducible repeat (first | refine blk_drewN ?_ _ | refine blk_drew ?_ | refine blk_alloc ?_ _)); exact BK297.out)) : gb297 ≠ gb307))
                                  have n8_ := Aside0.mk ((by rw [hg]; exact Nat.ne_of_gt (blk_lt (g := gb297) (o := .cells #[.slice (some ad299) l0_0.length c0_0] 25 (0, 0)) (by (with_reducible repeat (first | refine blk_drewN ?_ _ | refine blk_drew ?_ | refine blk_alloc ?_ _)); exact BK297.out)) : gb307 ≠ gb297))
                                  have n9_ := Aside0.mk ((by rw [hg]; exact Nat.ne_of_lt (blk_lt (g := gb300) (o := .cells #[.int .u8 ((rd_T47 l0_0 x5_1).f0), .int .i64 ((rd_T47 l0_0 x5_1).f1), .int .i64 ((rd_T47 l0_0 x5_1).f2), .int .i64 ((rd_T47 l0_0 x5_1).f3)] 47 (0, 0)) (by (with_reducible repeat (first | refine blk_drewN ?_ _ | refine blk_drew ?_ | refine blk_alloc ?_ _)); exact BK300.out)) : gb300 ≠ gb307))
                                  have n10_ := Aside0.mk ((by rw [hg]; exact Nat.ne_of_gt (blk_lt (g := gb300) (o := .cells #[.int .u8 ((rd_T47 l0_0 x5_1).f0), .int .i64 ((rd_T47 l0_0 x5_1).f1), .int .i64 ((rd_T47 l0_0 x5_1).f2), .int .i64 ((rd_T47 l0_0 x5_1).f3)] 47 (0, 0)) (by (with_reducible repeat (first | refine blk_drewN ?_ _ | refine blk_drew ?_ | refine blk_alloc ?_ _)); exact BK300.out)) : gb307 ≠ gb300))
                                  clear HO_7
                                  clear BK297
                                  clear BK300
                                  clear HB
                                  have HO_7 := n0_
                                  have BK297 := n1_
                                  have BK300 := n2_
                                  have HB := n3_
                                  have BK307 := n4_
                                  have GW307 := n5_
                                  have GE307 := n6_
                                  have NB297_307 := n7_
                                  have NB307_297 := n8_
                                  have NB300_307 := n9_
                                  have NB307_300 := n10_
                                  clear n0_ n1_ n2_ n3_ n4_ n5_ n6_ n7_ n8_ n9_ n10_
                                  clear hb hbox hg
                                  refine hK.out _ _ ⟨(blk_cell BK297.out 0).trans rfl, HS1_, ((HB.out.cell (World.block_lt_of_cell? w _ hw306_0)).trans hw306_0), ((HB.out.cell (World.block_lt_of_cell? w _ hw306_1)).trans hw306_1), ((HB.out.cell (World.block_lt_of_cell? w _ hw306_2)).trans hw306_2), ((HB.out.cell (World.block_lt_of_cell? w _ hw306_3)).trans hw306_3)⟩ (fun hHeld => ?_)
                                  clear hK K
                                  refine norm_ (a' := ?_) ?_ ?_
                                  rotate_left
                                  · show Act.put _ (some 11) _ = _
                                    simp only [Act.put, List.setIfInBounds_toArray, List.set_cons_zero, List.set_cons_succ, i64_w, i32_w]
                                    rfl
                                  refine one_ (i := 9) (N := none) #[true, true, true, true, true, true, true, true, true, true] rfl rfl (one_of HT_.out (by kernel_rfl)) (by decide) (fun K hK => ?_)
                                  have hs63 : w62.cell? ⟨gb307, 0, none⟩ = some (.int .u8 0) := (blk_cell BK307.out 0).trans rfl
                                  have hfs63 := blk_frozen BK307.out 0
                                  have hns63_0 := NB297_307.out
                                  have hns63_1 := NB300_307.out
                                  have hms63_0 := NB307_297.out
                                  have hms63_1 := NB307_300.out
                                  have hs64 : w62.cell? ⟨gb307, 1, none⟩ = some (.int .i64 0) := (blk_cell BK307.out 1).trans rfl
                                  have hfs64 := blk_frozen BK307.out 1
                                  have hns64_0 := NB297_307.out
                                  have hns64_1 := NB300_307.out
                                  have hms64_0 := NB307_297.out
                                  have hms64_1 := NB307_300.out
                                  have hs65 : w62.cell? ⟨gb307, 2, none⟩ = some (.int .i64 0) := (blk_cell BK307.out 2).trans rfl
                                  have hfs65 := blk_frozen BK307.out 2
                                  have hns65_0 := NB297_307.out
                                  have hns65_1 := NB300_307.out
                                  have hms65_0 := NB307_297.out
                                  have hms65_1 := NB307_300.out
                                  have hs66 : w62.cell? ⟨gb307, 3, none⟩ = some (.int .i64 0) := (blk_cell BK307.out 3).trans rfl
                                  have hfs66 := blk_frozen BK307.out 3
                                  have hns66_0 := NB297_307.out
                                  have hns66_1 := NB300_307.out
                                  have hms66_0 := NB307_297.out
                                  have hms66_1 := NB307_300.out
                                  refine skip_ (w1 := ?_) (by rfl) rfl ?_ ?_
                                  rotate_left
                                  · go_simp
                                    rfl
                                  refine hK.out _ _ ⟨((cell_far (p := ⟨gb307, _, none⟩) NB297_307.out _).trans (((cell_far (p := ⟨gb307, _, none⟩) NB297_307.out _).trans (((cell_far (p := ⟨gb307, _, none⟩) NB297_307.out _).trans (((cell_far (p := ⟨gb307, _, none⟩) NB297_307.out _).trans (hHeld.1)))))))), ((cell_far (p := ⟨gb307, _, none⟩) (by first | exact Kd.own_blk (Kd.R_ne HO_7.out BK307.out (by decide)) | (rw [add_block]; exact Kd.own_blk (Kd.R_ne HO_7.out BK307.out (by decide))) | (show (Addr.add _ _).block ≠ _; rw [add_block]; exact Kd.own_blk (Kd.R_ne HO_7.out BK307.out (by decide))) | (dsimp only; exact Kd.own_blk (Kd.R_ne HO_7.out BK307.out (by decide)))) _).trans (((cell_far (p := ⟨gb307, _, none⟩) (by first | exact Kd.own_blk (Kd.R_ne HO_7.out BK307.out (by decide)) | (rw [add_block]; exact Kd.own_blk (Kd.R_ne HO_7.out BK307.out (by decide))) | (show (Addr.add _ _).block ≠ _; rw [add_block]; exact Kd.own_blk (Kd.R_ne HO_7.out BK307.out (by decide))) | (dsimp only; exact Kd.own_blk (Kd.R_ne HO_7.out BK307.out (by decide)))) _).trans (((cell_far (p := ⟨gb307, _, none⟩) (by first | exact Kd.own_blk (Kd.R_ne HO_7.out BK307.out (by decide)) | (rw [add_block]; exact Kd.own_blk (Kd.R_ne HO_7.out BK307.out (by decide))) | (show (Addr.add _ _).block ≠ _; rw [add_block]; exact Kd.own_blk (Kd.R_ne HO_7.out BK307.out (by decide))) | (dsimp only; exact Kd.own_blk (Kd.R_ne HO_7.out BK307.out (by decide)))) _).trans (((cell_far (p := ⟨gb307, _, none⟩) (by first | exact Kd.own_blk (Kd.R_ne HO_7.out BK307.out (by decide)) | (rw [add_block]; exact Kd.own_blk (Kd.R_ne HO_7.out BK307.out (by decide))) | (show (Addr.add _ _).block ≠ _; rw [add_block]; exact Kd.own_blk (Kd.R_ne HO_7.out BK307.out (by decide))) | (dsimp only; exact Kd.own_blk (Kd.R_ne HO_7.out BK307.out (by decide)))) _).trans (hHeld.2.1)))))))), ((cell_far (p := ⟨gb307, _, none⟩) (by first | exact Nat.ne_of_lt (Nat.lt_of_lt_of_le (by have := World.block_lt_of_cell? _ _ hw306_0; first | rwa [add_block] at this | exact this) GW307.out) | (rw [add_block]; exact Nat.ne_of_lt (Nat.lt_of_lt_of_le (by have := World.block_lt_of_cell? _ _ hw306_0; first | rwa [add_block] at this | exact this) GW307.out)) | (show (Addr.add _ _).block ≠ _; rw [add_block]; exact Nat.ne_of_lt (Nat.lt_of_lt_of_le (by have := World.block_lt_of_cell? _ _ hw306_0; first | rwa [add_block] at this | exact this) GW307.out)) | (dsimp only; exact Nat.ne_of_lt (Nat.lt_of_lt_of_le (by have := World.block_lt_of_cell? _ _ hw306_0; first | rwa [add_block] at this | exact this) GW307.out))) _).trans (((cell_far (p := ⟨gb307, _, none⟩) (by first | exact Nat.ne_of_lt (Nat.lt_of_lt_of_le (by have := World.block_lt_of_cell? _ _ hw306_0; first | rwa [add_block] at this | exact this) GW307.out) | (rw [add_block]; exact Nat.ne_of_lt (Nat.lt_of_lt_of_le (by have := World.block_lt_of_cell? _ _ hw306_0; first | rwa [add_block] at this | exact this) GW307.out)) | (show (Addr.add _ _).block ≠ _; rw [add_block]; exact Nat.ne_of_lt (Nat.lt_of_lt_of_le (by have := World.block_lt_of_cell? _ _ hw306_0; first | rwa [add_block] at this | exact this) GW307.out)) | (dsimp only; exact Nat.ne_of_lt (Nat.lt_of_lt_of_le (by have := World.block_lt_of_cell? _ _ hw306_0; first | rwa [add_block] at this | exact this) GW307.out))) _).trans (((cell_far (p := ⟨gb307, _, none⟩) (by first | exact Nat.ne_of_lt (Nat.lt_of_lt_of_le (by have := World.block_lt_of_cell? _ _ hw306_0; first | rwa [add_block] at this | exact this) GW307.out) | (rw [add_block]; exact Nat.ne_of_lt (Nat.lt_of_lt_of_le (by have := World.block_lt_of_cell? _ _ hw306_0; first | rwa [add_block] at this | exact this) GW307.out)) | (show (Addr.add _ _).block ≠ _; rw [add_block]; exact Nat.ne_of_lt (Nat.lt_of_lt_of_le (by have := World.block_lt_of_cell? _ _ hw306_0; first | rwa [add_block] at this | exact this) GW307.out)) | (dsimp only; exact Nat.ne_of_lt (Nat.lt_of_lt_of_le (by have := World.block_lt_of_cell? _ _ hw306_0; first | rwa [add_block] at this | exact this) GW307.out))) _).trans (((cell_far (p := ⟨gb307, _, none⟩) (by first | exact Nat.ne_of_lt (Nat.lt_of_lt_of_le (by have := World.block_lt_of_cell? _ _ hw306_0; first | rwa [add_block] at this | exact this) GW307.out) | (rw [add_block]; exact Nat.ne_of_lt (Nat.lt_of_lt_of_le (by have := World.block_lt_of_cell? _ _ hw306_0; first | rwa [add_block] at this | exact this) GW307.out)) | (show (Addr.add _ _).block ≠ _; rw [add_block]; exact Nat.ne_of_lt (Nat.lt_of_lt_of_le (by have := World.block_lt_of_cell? _ _ hw306_0; first | rwa [add_block] at this | exact this) GW307.out)) | (dsimp only; exact Nat.ne_of_lt (Nat.lt_of_lt_of_le (by have := World.block_lt_of_cell? _ _ hw306_0; first | rwa [add_block] at this | exact this) GW307.out))) _).trans (hHeld.2.2.1)))))))), ((cell_far (p := ⟨gb307, _, none⟩) (by first | exact Nat.ne_of_lt (Nat.lt_of_lt_of_le (by have := World.block_lt_of_cell? _ _ hw306_1; first | rwa [add_block] at this | exact this) GW307.out) | (rw [add_block]; exact Nat.ne_of_lt (Nat.lt_of_lt_of_le (by have := World.block_lt_of_cell? _ _ hw306_1; first | rwa [add_block] at this | exact this) GW307.out)) | (show (Addr.add _ _).block ≠ _; rw [add_block]; exact Nat.ne_of_lt (Nat.lt_of_lt_of_le (by have := World.block_lt_of_cell? _ _ hw306_1; first | rwa [add_block] at this | exact this) GW307.out)) | (dsimp only; exact Nat.ne_of_lt (Nat.lt_of_lt_of_le (by have := World.block_lt_of_cell? _ _ hw306_1; first | rwa [add_block] at this | exact this) GW307.out))) _).trans (((cell_far (p := ⟨gb307, _, none⟩) (by first | exact Nat.ne_of_lt (Nat.lt_of_lt_of_le (by have := World.block_lt_of_cell? _ _ hw306_1; first | rwa [add_block] at this | exact this) GW307.out) | (rw [add_block]; exact Nat.ne_of_lt (Nat.lt_of_lt_of_le (by have := World.block_lt_of_cell? _ _ hw306_1; first | rwa [add_block] at this | exact this) GW307.out)) | (show (Addr.add _ _).block ≠ _; rw [add_block]; exact Nat.ne_of_lt (Nat.lt_of_lt_of_le (by have := World.block_lt_of_cell? _ _ hw306_1; first | rwa [add_block] at this | exact this) GW307.out)) | (dsimp only; exact Nat.ne_of_lt (Nat.lt_of_lt_of_le (by have := World.block_lt_of_cell? _ _ hw306_1; first | rwa [add_block] at this | exact this) GW307.out))) _).trans (((cell_far (p := ⟨gb307, _, none⟩) (by first | exact Nat.ne_of_lt (Nat.lt_of_lt_of_le (by have := World.block_lt_of_cell? _ _ hw306_1; first | rwa [add_block] at this | exact this) GW307.out) | (rw [add_block]; exact Nat.ne_of_lt (Nat.lt_of_lt_of_le (by have := World.block_lt_of_cell? _ _ hw306_1; first | rwa [add_block] at this | exact this) GW307.out)) | (show (Addr.add _ _).block ≠ _; rw [add_block]; exact Nat.ne_of_lt (Nat.lt_of_lt_of_le (by have := World.block_lt_of_cell? _ _ hw306_1; first | rwa [add_block] at this | exact this) GW307.out)) | (dsimp only; exact Nat.ne_of_lt (Nat.lt_of_lt_of_le (by have := World.block_lt_of_cell? _ _ hw306_1; first | rwa [add_block] at this | exact this) GW307.out))) _).trans (((cell_far (p := ⟨gb307, _, none⟩) (by first | exact Nat.ne_of_lt (Nat.lt_of_lt_of_le (by have := World.block_lt_of_cell? _ _ hw306_1; first | rwa [add_block] at this | exact this) GW307.out) | (rw [add_block]; exact Nat.ne_of_lt (Nat.lt_of_lt_of_le (by have := World.block_lt_of_cell? _ _ hw306_1; first | rwa [add_block] at this | exact this) GW307.out)) | (show (Addr.add _ _).block ≠ _; rw [add_block]; exact Nat.ne_of_lt (Nat.lt_of_lt_of_le (by have := World.block_lt_of_cell? _ _ hw306_1; first | rwa [add_block] at this | exact this) GW307.out)) | (dsimp only; exact Nat.ne_of_lt (Nat.lt_of_lt_of_le (by have := World.block_lt_of_cell? _ _ hw306_1; first | rwa [add_block] at this | exact this) GW307.out))) _).trans (hHeld.2.2.2.1)))))))), ((cell_far (p := ⟨gb307, _, none⟩) (by first | exact Nat.ne_of_lt (Nat.lt_of_lt_of_le (by have := World.block_lt_of_cell? _ _ hw306_2; first | rwa [add_block] at this | exact this) GW307.out) | (rw [add_block]; exact Nat.ne_of_lt (Nat.lt_of_lt_of_le (by have := World.block_lt_of_cell? _ _ hw306_2; first | rwa [add_block] at this | exact this) GW307.out)) | (show (Addr.add _ _).block ≠ _; rw [add_block]; exact Nat.ne_of_lt (Nat.lt_of_lt_of_le (by have := World.block_lt_of_cell? _ _ hw306_2; first | rwa [add_block] at this | exact this) GW307.out)) | (dsimp only; exact Nat.ne_of_lt (Nat.lt_of_lt_of_le (by have := World.block_lt_of_cell? _ _ hw306_2; first | rwa [add_block] at this | exact this) GW307.out))) _).trans (((cell_far (p := ⟨gb307, _, none⟩) (by first | exact Nat.ne_of_lt (Nat.lt_of_lt_of_le (by have := World.block_lt_of_cell? _ _ hw306_2; first | rwa [add_block] at this | exact this) GW307.out) | (rw [add_block]; exact Nat.ne_of_lt (Nat.lt_of_lt_of_le (by have := World.block_lt_of_cell? _ _ hw306_2; first | rwa [add_block] at this | exact this) GW307.out)) | (show (Addr.add _ _).block ≠ _; rw [add_block]; exact Nat.ne_of_lt (Nat.lt_of_lt_of_le (by have := World.block_lt_of_cell? _ _ hw306_2; first | rwa [add_block] at this | exact this) GW307.out)) | (dsimp only; exact Nat.ne_of_lt (Nat.lt_of_lt_of_le (by have := World.block_lt_of_cell? _ _ hw306_2; first | rwa [add_block] at this | exact this) GW307.out))) _).trans (((cell_far (p := ⟨gb307, _, none⟩) (by first | exact Nat.ne_of_lt (Nat.lt_of_lt_of_le (by have := World.block_lt_of_cell? _ _ hw306_2; first | rwa [add_block] at this | exact this) GW307.out) | (rw [add_block]; exact Nat.ne_of_lt (Nat.lt_of_lt_of_le (by have := World.block_lt_of_cell? _ _ hw306_2; first | rwa [add_block] at this | exact this) GW307.out)) | (show (Addr.add _ _).block ≠ _; rw [add_block]; exact Nat.ne_of_lt (Nat.lt_of_lt_of_le (by have := World.block_lt_of_cell? _ _ hw306_2; first | rwa [add_block] at this | exact this) GW307.out)) | (dsimp only; exact Nat.ne_of_lt (Nat.lt_of_lt_of_le (by have := World.block_lt_of_cell? _ _ hw306_2; first | rwa [add_block] at this | exact this) GW307.out))) _).trans (((cell_far (p := ⟨gb307, _, none⟩) (by first | exact Nat.ne_of_lt (Nat.lt_of_lt_of_le (by have := World.block_lt_of_cell? _ _ hw306_2; first | rwa [add_block] at this | exact this) GW307.out) | (rw [add_block]; exact Nat.ne_of_lt (Nat.lt_of_lt_of_le (by have := World.block_lt_of_cell? _ _ hw306_2; first | rwa [add_block] at this | exact this) GW307.out)) | (show (Addr.add _ _).block ≠ _; rw [add_block]; exact Nat.ne_of_lt (Nat.lt_of_lt_of_le (by have := World.block_lt_of_cell? _ _ hw306_2; first | rwa [add_block] at this | exact this) GW307.out)) | (dsimp only; exact Nat.ne_of_lt (Nat.lt_of_lt_of_le (by have := World.block_lt_of_cell? _ _ hw306_2; first | rwa [add_block] at this | exact this) GW307.out))) _).trans (hHeld.2.2.2.2.1)))))))), ((cell_far (p := ⟨gb307, _, none⟩) (by first | exact Nat.ne_of_lt (Nat.lt_of_lt_of_le (by have := World.block_lt_of_cell? _ _ hw306_3; first | rwa [add_block] at this | exact this) GW307.out) | (rw [add_block]; exact Nat.ne_of_lt (Nat.lt_of_lt_of_le (by have := World.block_lt_of_cell? _ _ hw306_3; first | rwa [add_block] at this | exact this) GW307.out)) | (show (Addr.add _ _).block ≠ _; rw [add_block]; exact Nat.ne_of_lt (Nat.lt_of_lt_of_le (by have := World.block_lt_of_cell? _ _ hw306_3; first | rwa [add_block] at this | exact this) GW307.out)) | (dsimp only; exact Nat.ne_of_lt (Nat.lt_of_lt_of_le (by have := World.block_lt_of_cell? _ _ hw306_3; first | rwa [add_block] at this | exact this) GW307.out))) _).trans (((cell_far (p := ⟨gb307, _, none⟩) (by first | exact Nat.ne_of_lt (Nat.lt_of_lt_of_le (by have := World.block_lt_of_cell? _ _ hw306_3; first | rwa [add_block] at this | exact this) GW307.out) | (rw [add_block]; exact Nat.ne_of_lt (Nat.lt_of_lt_of_le (by have := World.block_lt_of_cell? _ _ hw306_3; first | rwa [add_block] at this | exact this) GW307.out)) | (show (Addr.add _ _).block ≠ _; rw [add_block]; exact Nat.ne_of_lt (Nat.lt_of_lt_of_le (by have := World.block_lt_of_cell? _ _ hw306_3; first | rwa [add_block] at this | exact this) GW307.out)) | (dsimp only; exact Nat.ne_of_lt (Nat.lt_of_lt_of_le (by have := World.block_lt_of_cell? _ _ hw306_3; first | rwa [add_block] at this | exact this) GW307.out))) _).trans (((cell_far (p := ⟨gb307, _, none⟩) (by first | exact Nat.ne_of_lt (Nat.lt_of_lt_of_le (by have := World.block_lt_of_cell? _ _ hw306_3; first | rwa [add_block] at this | exact this) GW307.out) | (rw [add_block]; exact Nat.ne_of_lt (Nat.lt_of_lt_of_le (by have := World.block_lt_of_cell? _ _ hw306_3; first | rwa [add_block] at this | exact this) GW307.out)) | (show (Addr.add _ _).block ≠ _; rw [add_block]; exact Nat.ne_of_lt (Nat.lt_of_lt_of_le (by have := World.block_lt_of_cell? _ _ hw306_3; first | rwa [add_block] at this | exact this) GW307.out)) | (dsimp only; exact Nat.ne_of_lt (Nat.lt_of_lt_of_le (by have := World.block_lt_of_cell? _ _ hw306_3; first | rwa [add_block] at this | exact this) GW307.out))) _).trans (((cell_far (p := ⟨gb307, _, none⟩) (by first | exact Nat.ne_of_lt (Nat.lt_of_lt_of_le (by have := World.block_lt_of_cell? _ _ hw306_3; first | rwa [add_block] at this | exact this) GW307.out) | (rw [add_block]; exact Nat.ne_of_lt (Nat.lt_of_lt_of_le (by have := World.block_lt_of_cell? _ _ hw306_3; first | rwa [add_block] at this | exact this) GW307.out)) | (show (Addr.add _ _).block ≠ _; rw [add_block]; exact Nat.ne_of_lt (Nat.lt_of_lt_of_le (by have := World.block_lt_of_cell? _ _ hw306_3; first | rwa [add_block] at this | exact this) GW307.out)) | (dsimp only; exact Nat.ne_of_lt (Nat.lt_of_lt_of_le (by have := World.block_lt_of_cell? _ _ hw306_3; first | rwa [add_block] at this | exact this) GW307.out))) _).trans (hHeld.2.2.2.2.2))))))))⟩ (fun hHeld => ?_)
                                  clear hK K
                                  refine done_ (done_of HT_.out (by kernel_rfl)) ?_
                                  have hnb67 := NB307_297.out
                                  have hnc67 := NB297_307.out
                                  have hnb68 := NB307_300.out
                                  have hnc68 := NB300_307.out
                                  have hcz69_0 : w62.cell? ⟨gb307, 0, none⟩ = some (.int .u8 0) := (blk_cell BK307.out 0).trans rfl
                                  have hcz69_1 : w62.cell? ⟨gb307, 1, none⟩ = some (.int .i64 0) := (blk_cell BK307.out 1).trans rfl
                                  have hcz69_2 : w62.cell? ⟨gb307, 2, none⟩ = some (.int .i64 0) := (blk_cell BK307.out 2).trans rfl
                                  have hcz69_3 : w62.cell? ⟨gb307, 3, none⟩ = some (.int .i64 0) := (blk_cell BK307.out 3).trans rfl
                                  have hfz69_0 := blk_frozen BK307.out 0
                                  have hfz69_1 := blk_frozen BK307.out 1
                                  have hfz69_2 := blk_frozen BK307.out 2
                                  have hfz69_3 := blk_frozen BK307.out 3
                                  try go_wp2
                                  go_ret
                                  exact ⟨by first | rfl | (simp [errW_none, errW_some] <;> rfl) | (simp [*, errW_none, errW_some] <;> rfl), by repeat (first | (with_reducible first | exact HB.out | apply below_alloc | apply pw_below_drewN | apply below_drew1 | refine below_set ?_ GE297.out | refine below_set ?_ GE300.out | refine below_set ?_ GE307.out) | exact HB.out)⟩
                                · rw [if_neg c59] at H
                                  have c59b0 : decide (((rd_T47 l0_0 (rd t301 x10_3)).f1) < x9_3) = false := decide_eq_false c59
                                  clear c59
                                  by_cases c70 : ((rd_T47 l0_0 (rd t301 x10_3)).f2) > ((rd_T47 l0_0 x5_1).f2)
                                  · rw [if_pos c70] at H
                                    have c70b0 : decide (((rd_T47 l0_0 x5_1).f2) < ((rd_T47 l0_0 (rd t301 x10_3)).f2)) = true := decide_eq_true c70
                                    clear c70
                                    obtain rfl := Option.some.inj H
                                    obtain ⟨Ao71, co71, eo71⟩ := Kd.R_slice HO_7.out
                                    subst eo71
                                    try go_wp2
                                    have n0_ := Aside0.mk (Kd.R_drew HO_7.out)
                                    have n1_ := Aside0.mk (blk_drew BK297.out)
                                    have n2_ := Aside0.mk (blk_drew BK300.out)
                                    have n3_ := Aside0.mk (below_drew1 HB.out)
                                    clear HO_7
                                    clear BK297
                                    clear BK300
                                    clear HB
                                    have HO_7 := n0_
                                    have BK297 := n1_
                                    have BK300 := n2_
                                    have HB := n3_
                                    clear n0_ n1_ n2_ n3_
                                    have p305 : 0 ≤ (x10_3 : Int) := of_decide_eq_true (by first | (with_reducible assumption) | assumption)
                                    have q305 : x10_3 < (t301.length : Int) := of_decide_eq_true (by first | (with_reducible assumption) | assumption)
                                    obtain ⟨ad305, e305, hx305_0⟩ := Kd.at_int (Kd.R_reads' HO_7.out).2.2 x10_3 p305 q305
                                    cases e305
                                    replace p305 := eq_true p305
                                    replace q305 := eq_true q305
                                    have p306 : 0 ≤ ((rd t301 x10_3) : Int) := of_decide_eq_true (by first | (with_reducible assumption) | assumption)
                                    have q306 : (rd t301 x10_3) < (l0_0.length : Int) := of_decide_eq_true (by first | (with_reducible assumption) | assumption)
                                    obtain ⟨ad306, e306, hx306_0, hx306_1, hx306_2, hx306_3⟩ := at_T47 HR0_0.out (rd t301 x10_3) p306 q306
                                    have hw306_3 := hx306_3
                                    have hw306_2 := hx306_2
                                    have hw306_1 := hx306_1
                                    have hw306_0 := hx306_0
                                    obtain rfl : ad299 = ad306 := (by injection e306)
                                    replace hx306_0 := (HB.out.cell (World.block_lt_of_cell? w _ hx306_0)).trans hx306_0
                                    replace hx306_1 := (HB.out.cell (World.block_lt_of_cell? w _ hx306_1)).trans hx306_1
                                    replace hx306_2 := (HB.out.cell (World.block_lt_of_cell? w _ hx306_2)).trans hx306_2
                                    replace hx306_3 := (HB.out.cell (World.block_lt_of_cell? w _ hx306_3)).trans hx306_3
                                    replace p306 := eq_true p306
                                    replace q306 := eq_true q306
                                    refine start_ (n := 10) (S := fun w' => w'.cell? ⟨gb297, 0, none⟩ = some (.slice (some ad299) l0_0.length c0_0) ∧ w'.cell? (ad305.add (x10_3).toNat) = some (.int .i64 (rd t301 x10_3)) ∧ w'.cell? (ad299.add (((rd t301 x10_3)).toNat * 4)) = some (.int .u8 ((rd_T47 l0_0 (rd t301 x10_3)).f0)) ∧ w'.cell? ⟨(ad299.add (((rd t301 x10_3)).toNat * 4)).block, (ad299.add (((rd t301 x10_3)).toNat * 4)).off + 1, none⟩ = some (.int .i64 ((rd_T47 l0_0 (rd t301 x10_3)).f1)) ∧ w'.cell? ⟨(ad299.add (((rd t301 x10_3)).toNat * 4)).block, (ad299.add (((rd t301 x10_3)).toNat * 4)).off + 2, none⟩ = some (.int .i64 ((rd_T47 l0_0 (rd t301 x10_3)).f2)) ∧ w'.cell? ⟨(ad299.add (((rd t301 x10_3)).toNat * 4)).block, (ad299.add (((rd t301 x10_3)).toNat * 4)).off + 3, none⟩ = some (.int .i64 ((rd_T47 l0_0 (rd t301 x10_3)).f3))) (ds := []) #[false, false, false, false, false, false, false, false, false, false] (by kernel_rfl) rfl rfl ⟨(blk_cell BK297.out 0).trans rfl, hx305_0, ((HB.out.cell (World.block_lt_of_cell? w _ hw306_0)).trans hw306_0), ((HB.out.cell (World.block_lt_of_cell? w _ hw306_1)).trans hw306_1), ((HB.out.cell (World.block_lt_of_cell? w _ hw306_2)).trans hw306_2), ((HB.out.cell (World.block_lt_of_cell? w _ hw306_3)).trans hw306_3)⟩ (fun hHeld => ?_); refine with_tabW monikerref4_Valid.tab14 monikerref4_Valid.bits14 (fun HT_ HW_ => ?_)
                                    generalize wr.drew = w72 at HO_7 BK297 BK300 HB hx305_0 hx306_0 hx306_1 hx306_2 hx306_3 hHeld ⊢
                                    refine pure_ (i := 0) (N := some 57) (v := ?_) (a' := ?_) #[true, false, false, false, false, false, false, false, false, false] rfl rfl (any_of HT_.out (by kernel_rfl)) (fun _ _ _ h => h) (Or.inl ⟨by rfl, ?_⟩) ?_ ?_
                                    rotate_left
                                    · intro w'
                                      go_simp
                                      with_reducible rfl
                                    rotate_left
                                    · simp only [Act.put, List.setIfInBounds_toArray, List.set_cons_zero, List.set_cons_succ, i64_w, i32_w]
                                      rfl
                                    refine pure_ (i := 2) (N := some 59) (v := ?_) (a' := ?_) #[true, false, true, false, false, false, false, false, false, false] rfl rfl (any_of HT_.out (by kernel_rfl)) (fun _ _ _ h => h) (Or.inl ⟨by rfl, ?_⟩) ?_ ?_
                                    rotate_left
                                    · intro w'
                                      go_simp
                                      with_reducible rfl
                                    rotate_left
                                    · simp only [Act.put, List.setIfInBounds_toArray, List.set_cons_zero, List.set_cons_succ, i64_w, i32_w]
                                      rfl
                                    refine pure_ (i := 3) (N := some 60) (v := ?_) (a' := ?_) #[true, false, true, true, false, false, false, false, false, false] rfl rfl (any_of HT_.out (by kernel_rfl)) (fun _ _ _ h => h) (Or.inl ⟨by rfl, ?_⟩) ?_ ?_
                                    rotate_left
                                    · intro w'
                                      go_simp
                                      with_reducible rfl
                                    rotate_left
                                    · simp only [Act.put, List.setIfInBounds_toArray, List.set_cons_zero, List.set_cons_succ, i64_w, i32_w]
                                      rfl
                                    refine pure_ (i := 4) (N := some 61) (v := ?_) (a' := ?_) #[true, false, true, true, true, false, false, false, false, false] rfl rfl (any_of HT_.out (by kernel_rfl)) (fun _ _ _ h => h) (Or.inl ⟨by rfl, ?_⟩) ?_ ?_
                                    rotate_left
                                    · intro w'
                                      go_simp
                                      with_reducible rfl
                                    rotate_left
                                    · simp only [Act.put, List.setIfInBounds_toArray, List.set_cons_zero, List.set_cons_succ, i64_w, i32_w]
                                      rfl
                                    refine take_ (i := 1) (N := some 58) (v := ?_) (a' := ?_) #[true, true, true, true, true, false, false, false, false, false] rfl rfl (take_ofW HT_.out HW_.out (by kernel_rfl)) (fun _ _ _ h => h) (Or.inl ⟨by rfl, ?_⟩) hHeld ?_ ?_
                                    rotate_left
                                    · rintro w' ⟨s0, s1, s2, s3, s4, s5⟩
                                      go_simp
                                      with_reducible rfl
                                    rotate_left
                                    · simp only [Act.put, List.setIfInBounds_toArray, List.set_cons_zero, List.set_cons_succ, i64_w, i32_w]
                                      rfl
                                    refine take_ (i := 5) (N := some 62) (v := ?_) (a' := ?_) #[true, true, true, true, true, true, false, false, false, false] rfl rfl (take_ofW HT_.out HW_.out (by kernel_rfl)) (fun _ _ _ h => h) (Or.inl ⟨by rfl, ?_⟩) hHeld ?_ ?_
                                    rotate_left
                                    · rintro w' ⟨s0, s1, s2, s3, s4, s5⟩
                                      go_simp
                                      with_reducible rfl
                                    rotate_left
                                    · simp only [Act.put, List.setIfInBounds_toArray, List.set_cons_zero, List.set_cons_succ, i64_w, i32_w]
                                      rfl
                                    refine pure_ (i := 6) (N := some 63) (v := ?_) (a' := ?_) #[true, true, true, true, true, true, true, false, false, false] rfl rfl (any_of HT_.out (by kernel_rfl)) (fun _ _ _ h => h) (Or.inl ⟨by rfl, ?_⟩) ?_ ?_
                                    rotate_left
                                    · intro w'
                                      go_simp
                                      with_reducible rfl
                                    rotate_left
                                    · simp only [Act.put, List.setIfInBounds_toArray, List.set_cons_zero, List.set_cons_succ, i64_w, i32_w]
                                      rfl
                                    refine take_ (i := 7) (N := some 64) (v := ?_) (a' := ?_) #[true, true, true, true, true, true, true, true, false, false] rfl rfl (take_ofW HT_.out HW_.out (by kernel_rfl)) (fun _ _ _ h => h) (Or.inl ⟨by rfl, ?_⟩) hHeld ?_ ?_
                                    rotate_left
                                    · rintro w' ⟨s0, s1, s2, s3, s4, s5⟩
                                      go_simp
                                      with_reducible rfl
                                    rotate_left
                                    · simp only [Act.put, List.setIfInBounds_toArray, List.set_cons_zero, List.set_cons_succ, i64_w, i32_w]
                                      rfl
                                    refine one_ (i := 8) (N := some 11) #[true, true, true, true, true, true, true, true, true, false] rfl rfl (one_of HT_.out (by kernel_rfl)) (by decide) (fun K hK => ?_)
                                    refine box_step ?hg (N := 11) ?hd (cs := #[.int .u8 0, .int .i64 0, .int .i64 0, .int .i64 0]) (t := 47) ?hr ?_; (case hd => rfl); (case hg => rfl); (case hr => first | (go_simp; done) | (go_simp; rfl))
                                    intro gb307 hg w73 hbox hb
                                    have HS1_ := (hb.cell (World.block_lt_of_cell? _ _ (hHeld.2.1))).trans (hHeld.2.1)
                                    have n0_ := Aside0.mk (Kd.R_below (by (with_reducible repeat (first | apply Kd.R_alloc | apply Kd.R_drewN | apply Kd.R_drew)); exact HO_7.out) hb)
                                    have n1_ := Aside0.mk (blk_below (g := gb297) (o := .cells #[.slice (some ad299) l0_0.length c0_0] 25 (0, 0)) (by (with_reducible repeat (first | refine blk_drewN ?_ _ | refine blk_drew ?_ | refine blk_alloc ?_ _)); exact BK297.out) hb)
                                    have n2_ := Aside0.mk (blk_below (g := gb300) (o := .cells #[.int .u8 ((rd_T47 l0_0 x5_1).f0), .int .i64 ((rd_T47 l0_0 x5_1).f1), .int .i64 ((rd_T47 l0_0 x5_1).f2), .int .i64 ((rd_T47 l0_0 x5_1).f3)] 47 (0, 0)) (by (with_reducible repeat (first | refine blk_drewN ?_ _ | refine blk_drew ?_ | refine blk_alloc ?_ _)); exact BK300.out) hb)
                                    have n3_ := Aside0.mk (below_step (by repeat (first | (with_reducible first | exact HB.out | apply below_alloc | apply pw_below_drewN | apply below_drew1 | refine below_set ?_ GE297.out | refine below_set ?_ GE300.out) | exact HB.out)) hb)
                                    have n4_ := Aside0.mk (hbox)
                                    have n5_ := Aside0.mk ((by rw [hg]; exact (below_size (by repeat (first | (with_reducible first | exact HB.out | apply below_alloc | apply pw_below_drewN | apply below_drew1 | refine below_set ?_ GE297.out | refine below_set ?_ GE300.out) | exact HB.out))) : w.heap.size ≤ gb307))
                                    have n6_ := Aside0.mk ((by rw [hg]; exact (below_size (by repeat (first | (with_reducible first | exact HB.out | apply below_alloc | apply pw_below_drewN | apply below_drew1 | refine below_set ?_ GE297.out | refine below_set ?_ GE300.out) | exact HB.out))) : w.heap.size ≤ gb307))
                                    have n7_ := Aside0.mk ((by rw [hg]; exact Nat.ne_of_lt (blk_lt (g := gb297) (o := .cells #[.slice (some ad299) l0_0.length c0_0] 25 (0, 0)) (by (with_reducible repeat (first | refine blk_drewN ?_ _ | refine blk_drew ?_ | refine blk_alloc ?_ _)); exact BK297.out)) : gb297 ≠ gb307))
                                    have n8_ := Aside0.mk ((by rw [hg]; exact Nat.ne_of_gt (blk_lt (g := gb297) (o := .cells #[.slice (some ad299) l0_0.length c0_0] 25 (0, 0)) (by (with_reducible repeat (first | refine blk_drewN ?_ _ | refine blk_drew ?_ | refine blk_alloc ?_ _)); exact BK297.out)) : gb307 ≠ gb297))
                                    have n9_ := Aside0.mk ((by rw [hg]; exact Nat.ne_of_lt (blk_lt (g := gb300) (o := .cells #[.int .u8 ((rd_T47 l0_0 x5_1).f0), .int .i64 ((rd_T47 l0_0 x5_1).f1), .int .i64 ((rd_T47 l0_0 x5_1).f2), .int .i64 ((rd_T47 l0_0 x5_1).f3)] 47 (0, 0)) (by (with_reducible repeat (first | refine blk_drewN ?_ _ | refine blk_drew ?_ | refine blk_alloc ?_ _)); exact BK300.out)) : gb300 ≠ gb307))
                                    have n10_ := Aside0.mk ((by rw [hg]; exact Nat.ne_of_gt (blk_lt (g := gb300) (o := .cells #[.int .u8 ((rd_T47 l0_0 x5_1).f0), .int .i64 ((rd_T47 l0_0 x5_1).f1), .int .i64 ((rd_T47 l0_0 x5_1).f2), .int .i64 ((rd_T47 l0_0 x5_1).f3)] 47 (0, 0)) (by (with_reducible repeat (first | refine blk_drewN ?_ _ | refine blk_drew ?_ | refine blk_alloc ?_ _)); exact BK300.out)) : gb307 ≠ gb300))
                                    clear HO_7
                                    clear BK297
                                    clear BK300
                                    clear HB
                                    have HO_7 := n0_
                                    have BK297 := n1_
                                    have BK300 := n2_
                                    have HB := n3_
                                    have BK307 := n4_
                                    have GW307 := n5_
                                    have GE307 := n6_
                                    have NB297_307 := n7_
                                    have NB307_297 := n8_
                                    have NB300_307 := n9_
                                    have NB307_300 := n10_
                                    clear n0_ n1_ n2_ n3_ n4_ n5_ n6_ n7_ n8_ n9_ n10_
                                    clear hb hbox hg
                                    refine hK.out _ _ ⟨(blk_cell BK297.out 0).trans rfl, HS1_, ((HB.out.cell (World.block_lt_of_cell? w _ hw306_0)).trans hw306_0), ((HB.out.cell (World.block_lt_of_cell? w _ hw306_1)).trans hw306_1), ((HB.out.cell (World.block_lt_of_cell? w _ hw306_2)).trans hw306_2), ((HB.out.cell (World.block_lt_of_cell? w _ hw306_3)).trans hw306_3)⟩ (fun hHeld => ?_)
                                    clear hK K
                                    refine norm_ (a' := ?_) ?_ ?_
                                    rotate_left
                                    · show Act.put _ (some 11) _ = _
                                      simp only [Act.put, List.setIfInBounds_toArray, List.set_cons_zero, List.set_cons_succ, i64_w, i32_w]
                                      rfl
                                    refine one_ (i := 9) (N := none) #[true, true, true, true, true, true, true, true, true, true] rfl rfl (one_of HT_.out (by kernel_rfl)) (by decide) (fun K hK => ?_)
                                    have hs74 : w73.cell? ⟨gb307, 0, none⟩ = some (.int .u8 0) := (blk_cell BK307.out 0).trans rfl
                                    have hfs74 := blk_frozen BK307.out 0
                                    have hns74_0 := NB297_307.out
                                    have hns74_1 := NB300_307.out
                                    have hms74_0 := NB307_297.out
                                    have hms74_1 := NB307_300.out
                                    have hs75 : w73.cell? ⟨gb307, 1, none⟩ = some (.int .i64 0) := (blk_cell BK307.out 1).trans rfl
                                    have hfs75 := blk_frozen BK307.out 1
                                    have hns75_0 := NB297_307.out
                                    have hns75_1 := NB300_307.out
                                    have hms75_0 := NB307_297.out
                                    have hms75_1 := NB307_300.out
                                    have hs76 : w73.cell? ⟨gb307, 2, none⟩ = some (.int .i64 0) := (blk_cell BK307.out 2).trans rfl
                                    have hfs76 := blk_frozen BK307.out 2
                                    have hns76_0 := NB297_307.out
                                    have hns76_1 := NB300_307.out
                                    have hms76_0 := NB307_297.out
                                    have hms76_1 := NB307_300.out
                                    have hs77 : w73.cell? ⟨gb307, 3, none⟩ = some (.int .i64 0) := (blk_cell BK307.out 3).trans rfl
                                    have hfs77 := blk_frozen BK307.out 3
                                    have hns77_0 := NB297_307.out
                                    have hns77_1 := NB300_307.out
                                    have hms77_0 := NB307_297.out
                                    have hms77_1 := NB307_300.out
                                    refine skip_ (w1 := ?_) (by rfl) rfl ?_ ?_
                                    rotate_left
                                    · go_simp
                                      rfl
                                    refine hK.out _ _ ⟨((cell_far (p := ⟨gb307, _, none⟩) NB297_307.out _).trans (((cell_far (p := ⟨gb307, _, none⟩) NB297_307.out _).trans (((cell_far (p := ⟨gb307, _, none⟩) NB297_307.out _).trans (((cell_far (p := ⟨gb307, _, none⟩) NB297_307.out _).trans (hHeld.1)))))))), ((cell_far (p := ⟨gb307, _, none⟩) (by first | exact Kd.own_blk (Kd.R_ne HO_7.out BK307.out (by decide)) | (rw [add_block]; exact Kd.own_blk (Kd.R_ne HO_7.out BK307.out (by decide))) | (show (Addr.add _ _).block ≠ _; rw [add_block]; exact Kd.own_blk (Kd.R_ne HO_7.out BK307.out (by decide))) | (dsimp only; exact Kd.own_blk (Kd.R_ne HO_7.out BK307.out (by decide)))) _).trans (((cell_far (p := ⟨gb307, _, none⟩) (by first | exact Kd.own_blk (Kd.R_ne HO_7.out BK307.out (by decide)) | (rw [add_block]; exact Kd.own_blk (Kd.R_ne HO_7.out BK307.out (by decide))) | (show (Addr.add _ _).block ≠ _; rw [add_block]; exact Kd.own_blk (Kd.R_ne HO_7.out BK307.out (by decide))) | (dsimp only; exact Kd.own_blk (Kd.R_ne HO_7.out BK307.out (by decide)))) _).trans (((cell_far (p := ⟨gb307, _, none⟩) (by first | exact Kd.own_blk (Kd.R_ne HO_7.out BK307.out (by decide)) | (rw [add_block]; exact Kd.own_blk (Kd.R_ne HO_7.out BK307.out (by decide))) | (show (Addr.add _ _).block ≠ _; rw [add_block]; exact Kd.own_blk (Kd.R_ne HO_7.out BK307.out (by decide))) | (dsimp only; exact Kd.own_blk (Kd.R_ne HO_7.out BK307.out (by decide)))) _).trans (((cell_far (p := ⟨gb307, _, none⟩) (by first | exact Kd.own_blk (Kd.R_ne HO_7.out BK307.out (by decide)) | (rw [add_block]; exact Kd.own_blk (Kd.R_ne HO_7.out BK307.out (by decide))) | (show (Addr.add _ _).block ≠ _; rw [add_block]; exact Kd.own_blk (Kd.R_ne HO_7.out BK307.out (by decide))) | (dsimp only; exact Kd.own_blk (Kd.R_ne HO_7.out BK307.out (by decide)))) _).trans (hHeld.2.1)))))))), ((cell_far (p := ⟨gb307, _, none⟩) (by first | exact Nat.ne_of_lt (Nat.lt_of_lt_of_le (by have := World.block_lt_of_cell? _ _ hw306_0; first | rwa [add_block] at this | exact this) GW307.out) | (rw [add_block]; exact Nat.ne_of_lt (Nat.lt_of_lt_of_le (by have := World.block_lt_of_cell? _ _ hw306_0; first | rwa [add_block] at this | exact this) GW307.out)) | (show (Addr.add _ _).block ≠ _; rw [add_block]; exact Nat.ne_of_lt (Nat.lt_of_lt_of_le (by have := World.block_lt_of_cell? _ _ hw306_0; first | rwa [add_block] at this | exact this) GW307.out)) | (dsimp only; exact Nat.ne_of_lt (Nat.lt_of_lt_of_le (by have := World.block_lt_of_cell? _ _ hw306_0; first | rwa [add_block] at this | exact this) GW307.out))) _).trans (((cell_far (p := ⟨gb307, _, none⟩) (by first | exact Nat.ne_of_lt (Nat.lt_of_lt_of_le (by have := World.block_lt_of_cell? _ _ hw306_0; first | rwa [add_block] at this | exact this) GW307.out) | (rw [add_block]; exact Nat.ne_of_lt (Nat.lt_of_lt_of_le (by have := World.block_lt_of_cell? _ _ hw306_0; first | rwa [add_block] at this | exact this) GW307.out)) | (show (Addr.add _ _).block ≠ _; rw [add_block]; exact Nat.ne_of_lt (Nat.lt_of_lt_of_le (by have := World.block_lt_of_cell? _ _ hw306_0; first | rwa [add_block] at this | exact this) GW307.out)) | (dsimp only; exact Nat.ne_of_lt (Nat.lt_of_lt_of_le (by have := World.block_lt_of_cell? _ _ hw306_0; first | rwa [add_block] at this | exact this) GW307.out))) _).trans (((cell_far (p := ⟨gb307, _, none⟩) (by first | exact Nat.ne_of_lt (Nat.lt_of_lt_of_le (by have := World.block_lt_of_cell? _ _ hw306_0; first | rwa [add_block] at this | exact this) GW307.out) | (rw [add_block]; exact Nat.ne_of_lt (Nat.lt_of_lt_of_le (by have := World.block_lt_of_cell? _ _ hw306_0; first | rwa [add_block] at this | exact this) GW307.out)) | (show (Addr.add _ _).block ≠ _; rw [add_block]; exact Nat.ne_of_lt (Nat.lt_of_lt_of_le (by have := World.block_lt_of_cell? _ _ hw306_0; first | rwa [add_block] at this | exact this) GW307.out)) | (dsimp only; exact Nat.ne_of_lt (Nat.lt_of_lt_of_le (by have := World.block_lt_of_cell? _ _ hw306_0; first | rwa [add_block] at this | exact this) GW307.out))) _).trans (((cell_far (p := ⟨gb307, _, none⟩) (by first | exact Nat.ne_of_lt (Nat.lt_of_lt_of_le (by have := World.block_lt_of_cell? _ _ hw306_0; first | rwa [add_block] at this | exact this) GW307.out) | (rw [add_block]; exact Nat.ne_of_lt (Nat.lt_of_lt_of_le (by have := World.block_lt_of_cell? _ _ hw306_0; first | rwa [add_block] at this | exact this) GW307.out)) | (show (Addr.add _ _).block ≠ _; rw [add_block]; exact Nat.ne_of_lt (Nat.lt_of_lt_of_le (by have := World.block_lt_of_cell? _ _ hw306_0; first | rwa [add_block] at this | exact this) GW307.out)) | (dsimp only; exact Nat.ne_of_lt (Nat.lt_of_lt_of_le (by have := World.block_lt_of_cell? _ _ hw306_0; first | rwa [add_block] at this | exact this) GW307.out))) _).trans (hHeld.2.2.1)))))))), ((cell_far (p := ⟨gb307, _, none⟩) (by first | exact Nat.ne_of_lt (Nat.lt_of_lt_of_le (by have := World.block_lt_of_cell? _ _ hw306_1; first | rwa [add_block] at this | exact this) GW307.out) | (rw [add_block]; exact Nat.ne_of_lt (Nat.lt_of_lt_of_le (by have := World.block_lt_of_cell? _ _ hw306_1; first | rwa [add_block] at this | exact this) GW307.out)) | (show (Addr.add _ _).block ≠ _; rw [add_block]; exact Nat.ne_of_lt (Nat.lt_of_lt_of_le (by have := World.block_lt_of_cell? _ _ hw306_1; first | rwa [add_block] at this | exact this) GW307.out)) | (dsimp only; exact Nat.ne_of_lt (Nat.lt_of_lt_of_le (by have := World.block_lt_of_cell? _ _ hw306_1; first | rwa [add_block] at this | exact this) GW307.out))) _).trans (((cell_far (p := ⟨gb307, _, none⟩) (by first | exact Nat.ne_of_lt (Nat.lt_of_lt_of_le (by have := World.block_lt_of_cell? _ _ hw306_1; first | rwa [add_block] at this | exact this) GW307.out) | (rw [add_block]; exact Nat.ne_of_lt (Nat.lt_of_lt_of_le (by have := World.block_lt_of_cell? _ _ hw306_1; first | rwa [add_block] at this | exact this) GW307.out)) | (show (Addr.add _ _).block ≠ _; rw [add_block]; exact Nat.ne_of_lt (Nat.lt_of_lt_of_le (by have := World.block_lt_of_cell? _ _ hw306_1; first | rwa [add_block] at this | exact this) GW307.out)) | (dsimp only; exact Nat.ne_of_lt (Nat.lt_of_lt_of_le (by have := World.block_lt_of_cell? _ _ hw306_1; first | rwa [add_block] at this | exact this) GW307.out))) _).trans (((cell_far (p := ⟨gb307, _, none⟩) (by first | exact Nat.ne_of_lt (Nat.lt_of_lt_of_le (by have := World.block_lt_of_cell? _ _ hw306_1; first | rwa [add_block] at this | exact this) GW307.out) | (rw [add_block]; exact Nat.ne_of_lt (Nat.lt_of_lt_of_le (by have := World.block_lt_of_cell? _ _ hw306_1; first | rwa [add_block] at this | exact this) GW307.out)) | (show (Addr.add _ _).block ≠ _; rw [add_block]; exact Nat.ne_of_lt (Nat.lt_of_lt_of_le (by have := World.block_lt_of_cell? _ _ hw306_1; first | rwa [add_block] at this | exact this) GW307.out)) | (dsimp only; exact Nat.ne_of_lt (Nat.lt_of_lt_of_le (by have := World.block_lt_of_cell? _ _ hw306_1; first | rwa [add_block] at this | exact this) GW307.out))) _).trans (((cell_far (p := ⟨gb307, _, none⟩) (by first | exact Nat.ne_of_lt (Nat.lt_of_lt_of_le (by have := World.block_lt_of_cell? _ _ hw306_1; first | rwa [add_block] at this | exact this) GW307.out) | (rw [add_block]; exact Nat.ne_of_lt (Nat.lt_of_lt_of_le (by have := World.block_lt_of_cell? _ _ hw306_1; first | rwa [add_block] at this | exact this) GW307.out)) | (show (Addr.add _ _).block ≠ _; rw [add_block]; exact Nat.ne_of_lt (Nat.lt_of_lt_of_le (by have := World.block_lt_of_cell? _ _ hw306_1; first | rwa [add_block] at this | exact this) GW307.out)) | (dsimp only; exact Nat.ne_of_lt (Nat.lt_of_lt_of_le (by have := World.block_lt_of_cell? _ _ hw306_1; first | rwa [add_block] at this | exact this) GW307.out))) _).trans (hHeld.2.2.2.1)))))))), ((cell_far (p := ⟨gb307, _, none⟩) (by first | exact Nat.ne_of_lt (Nat.lt_of_lt_of_le (by have := World.block_lt_of_cell? _ _ hw306_2; first | rwa [add_block] at this | exact this) GW307.out) | (rw [add_block]; exact Nat.ne_of_lt (Nat.lt_of_lt_of_le (by have := World.block_lt_of_cell? _ _ hw306_2; first | rwa [add_block] at this | exact this) GW307.out)) | (show (Addr.add _ _).block ≠ _; rw [add_block]; exact Nat.ne_of_lt (Nat.lt_of_lt_of_le (by have := World.block_lt_of_cell? _ _ hw306_2; first | rwa [add_block] at this | exact this) GW307.out)) | (dsimp only; exact Nat.ne_of_lt (Nat.lt_of_lt_of_le (by have := World.block_lt_of_cell? _ _ hw306_2; first | rwa [add_block] at this | exact this) GW307.out))) _).trans (((cell_far (p := ⟨gb307, _, none⟩) (by first | exact Nat.ne_of_lt (Nat.lt_of_lt_of_le (by have := World.block_lt_of_cell? _ _ hw306_2; first | rwa [add_block] at this | exact this) GW307.out) | (rw [add_block]; exact Nat.ne_of_lt (Nat.lt_of_lt_of_le (by have := World.block_lt_of_cell? _ _ hw306_2; first | rwa [add_block] at this | exact this) GW307.out)) | (show (Addr.add _ _).block ≠ _; rw [add_block]; exact Nat.ne_of_lt (Nat.lt_of_lt_of_le (by have := World.block_lt_of_cell? _ _ hw306_2; first | rwa [add_block] at this | exact this) GW307.out)) | (dsimp only; exact Nat.ne_of_lt (Nat.lt_of_lt_of_le (by have := World.block_lt_of_cell? _ _ hw306_2; first | rwa [add_block] at this | exact this) GW307.out))) _).trans (((cell_far (p := ⟨gb307, _, none⟩) (by first | exact Nat.ne_of_lt (Nat.lt_of_lt_of_le (by have := World.block_lt_of_cell? _ _ hw306_2; first | rwa [add_block] at this | exact this) GW307.out) | (rw [add_block]; exact Nat.ne_of_lt (Nat.lt_of_lt_of_le (by have := World.block_lt_of_cell? _ _ hw306_2; first | rwa [add_block] at this | exact this) GW307.out)) | (show (Addr.add _ _).block ≠ _; rw [add_block]; exact Nat.ne_of_lt (Nat.lt_of_lt_of_le (by have := World.block_lt_of_cell? _ _ hw306_2; first | rwa [add_block] at this | exact this) GW307.out)) | (dsimp only; exact Nat.ne_of_lt (Nat.lt_of_lt_of_le (by have := World.block_lt_of_cell? _ _ hw306_2; first | rwa [add_block] at this | exact this) GW307.out))) _).trans (((cell_far (p := ⟨gb307, _, none⟩) (by first | exact Nat.ne_of_lt (Nat.lt_of_lt_of_le (by have := World.block_lt_of_cell? _ _ hw306_2; first | rwa [add_block] at this | exact this) GW307.out) | (rw [add_block]; exact Nat.ne_of_lt (Nat.lt_of_lt_of_le (by have := World.block_lt_of_cell? _ _ hw306_2; first | rwa [add_block] at this | exact this) GW307.out)) | (show (Addr.add _ _).block ≠ _; rw [add_block]; exact Nat.ne_of_lt (Nat.lt_of_lt_of_le (by have := World.block_lt_of_cell? _ _ hw306_2; first | rwa [add_block] at this | exact this) GW307.out)) | (dsimp only; exact Nat.ne_of_lt (Nat.lt_of_lt_of_le (by have := World.block_lt_of_cell? _ _ hw306_2; first | rwa [add_block] at this | exact this) GW307.out))) _).trans (hHeld.2.2.2.2.1)))))))), ((cell_far (p := ⟨gb307, _, none⟩) (by first | exact Nat.ne_of_lt (Nat.lt_of_lt_of_le (by have := World.block_lt_of_cell? _ _ hw306_3; first | rwa [add_block] at this | exact this) GW307.out) | (rw [add_block]; exact Nat.ne_of_lt (Nat.lt_of_lt_of_le (by have := World.block_lt_of_cell? _ _ hw306_3; first | rwa [add_block] at this | exact this) GW307.out)) | (show (Addr.add _ _).block ≠ _; rw [add_block]; exact Nat.ne_of_lt (Nat.lt_of_lt_of_le (by have := World.block_lt_of_cell? _ _ hw306_3; first | rwa [add_block] at this | exact this) GW307.out)) | (dsimp only; exact Nat.ne_of_lt (Nat.lt_of_lt_of_le (by have := World.block_lt_of_cell? _ _ hw306_3; first | rwa [add_block] at this | exact this) GW307.out))) _).trans (((cell_far (p := ⟨gb307, _, none⟩) (by first | exact Nat.ne_of_lt (Nat.lt_of_lt_of_le (by have := World.block_lt_of_cell? _ _ hw306_3; first | rwa [add_block] at this | exact this) GW307.out) | (rw [add_block]; exact Nat.ne_of_lt (Nat.lt_of_lt_of_le (by have := World.block_lt_of_cell? _ _ hw306_3; first | rwa [add_block] at this | exact this) GW307.out)) | (show (Addr.add _ _).block ≠ _; rw [add_block]; exact Nat.ne_of_lt (Nat.lt_of_lt_of_le (by have := World.block_lt_of_cell? _ _ hw306_3; first | rwa [add_block] at this | exact this) GW307.out)) | (dsimp only; exact Nat.ne_of_lt (Nat.lt_of_lt_of_le (by have := World.block_lt_of_cell? _ _ hw306_3; first | rwa [add_block] at this | exact this) GW307.out))) _).trans (((cell_far (p := ⟨gb307, _, none⟩) (by first | exact Nat.ne_of_lt (Nat.lt_of_lt_of_le (by have := World.block_lt_of_cell? _ _ hw306_3; first | rwa [add_block] at this | exact this) GW307.out) | (rw [add_block]; exact Nat.ne_of_lt (Nat.lt_of_lt_of_le (by have := World.block_lt_of_cell? _ _ hw306_3; first | rwa [add_block] at this | exact this) GW307.out)) | (show (Addr.add _ _).block ≠ _; rw [add_block]; exact Nat.ne_of_lt (Nat.lt_of_lt_of_le (by have := World.block_lt_of_cell? _ _ hw306_3; first | rwa [add_block] at this | exact this) GW307.out)) | (dsimp only; exact Nat.ne_of_lt (Nat.lt_of_lt_of_le (by have := World.block_lt_of_cell? _ _ hw306_3; first | rwa [add_block] at this | exact this) GW307.out))) _).trans (((cell_far (p := ⟨gb307, _, none⟩) (by first | exact Nat.ne_of_lt (Nat.lt_of_lt_of_le (by have := World.block_lt_of_cell? _ _ hw306_3; first | rwa [add_block] at this | exact this) GW307.out) | (rw [add_block]; exact Nat.ne_of_lt (Nat.lt_of_lt_of_le (by have := World.block_lt_of_cell? _ _ hw306_3; first | rwa [add_block] at this | exact this) GW307.out)) | (show (Addr.add _ _).block ≠ _; rw [add_block]; exact Nat.ne_of_lt (Nat.lt_of_lt_of_le (by have := World.block_lt_of_cell? _ _ hw306_3; first | rwa [add_block] at this | exact this) GW307.out)) | (dsimp only; exact Nat.ne_of_lt (Nat.lt_of_lt_of_le (by have := World.block_lt_of_cell? _ _ hw306_3; first | rwa [add_block] at this | exact this) GW307.out))) _).trans (hHeld.2.2.2.2.2))))))))⟩ (fun hHeld => ?_)
                                    clear hK K
                                    refine done_ (done_of HT_.out (by kernel_rfl)) ?_
                                    have hnb78 := NB307_297.out
                                    have hnc78 := NB297_307.out
                                    have hnb79 := NB307_300.out
                                    have hnc79 := NB300_307.out
                                    have hcz80_0 : w73.cell? ⟨gb307, 0, none⟩ = some (.int .u8 0) := (blk_cell BK307.out 0).trans rfl
                                    have hcz80_1 : w73.cell? ⟨gb307, 1, none⟩ = some (.int .i64 0) := (blk_cell BK307.out 1).trans rfl
                                    have hcz80_2 : w73.cell? ⟨gb307, 2, none⟩ = some (.int .i64 0) := (blk_cell BK307.out 2).trans rfl
                                    have hcz80_3 : w73.cell? ⟨gb307, 3, none⟩ = some (.int .i64 0) := (blk_cell BK307.out 3).trans rfl
                                    have hfz80_0 := blk_frozen BK307.out 0
                                    have hfz80_1 := blk_frozen BK307.out 1
                                    have hfz80_2 := blk_frozen BK307.out 2
                                    have hfz80_3 := blk_frozen BK307.out 3
                                    have hnb81 := NB300_297.out
                                    have hnc81 := NB297_300.out
                                    have hcz82_0 : w73.cell? ⟨gb300, 0, none⟩ = some (.int .u8 ((rd_T47 l0_0 x5_1).f0)) := (blk_cell BK300.out 0).trans rfl
                                    have hcz82_1 : w73.cell? ⟨gb300, 1, none⟩ = some (.int .i64 ((rd_T47 l0_0 x5_1).f1)) := (blk_cell BK300.out 1).trans rfl
                                    have hcz82_2 : w73.cell? ⟨gb300, 2, none⟩ = some (.int .i64 ((rd_T47 l0_0 x5_1).f2)) := (blk_cell BK300.out 2).trans rfl
                                    have hcz82_3 : w73.cell? ⟨gb300, 3, none⟩ = some (.int .i64 ((rd_T47 l0_0 x5_1).f3)) := (blk_cell BK300.out 3).trans rfl
                                    have hfz82_0 := blk_frozen BK300.out 0
                                    have hfz82_1 := blk_frozen BK300.out 1
                                    have hfz82_2 := blk_frozen BK300.out 2
                                    have hfz82_3 := blk_frozen BK300.out 3
                                    try go_wp2
                                    go_ret
                                    exact ⟨by first | rfl | (simp [errW_none, errW_some] <;> rfl) | (simp [*, errW_none, errW_some] <;> rfl), by repeat (first | (with_reducible first | exact HB.out | apply below_alloc | apply pw_below_drewN | apply below_drew1 | refine below_set ?_ GE297.out | refine below_set ?_ GE300.out | refine below_set ?_ GE307.out) | exact HB.out)⟩
                                  · rw [if_neg c70] at H
                                    have c70b0 : decide (((rd_T47 l0_0 x5_1).f2) < ((rd_T47 l0_0 (rd t301 x10_3)).f2)) = false := decide_eq_false c70
                                    clear c70
                                    have H' := Aside0.mk H
                                    clear H
                                    obtain ⟨Ao83, co83, eo83⟩ := Kd.R_slice HO_7.out
                                    subst eo83
                                    try go_wp2
                                    have n0_ := Aside0.mk (Kd.R_drew HO_7.out)
                                    have n1_ := Aside0.mk (blk_drew BK297.out)
                                    have n2_ := Aside0.mk (blk_drew BK300.out)
                                    have n3_ := Aside0.mk (below_drew1 HB.out)
                                    clear HO_7
                                    clear BK297
                                    clear BK300
                                    clear HB
                                    have HO_7 := n0_
                                    have BK297 := n1_
                                    have BK300 := n2_
                                    have HB := n3_
                                    clear n0_ n1_ n2_ n3_
                                    have p305 : 0 ≤ (x10_3 : Int) := of_decide_eq_true (by first | (with_reducible assumption) | assumption)
                                    have q305 : x10_3 < (t301.length : Int) := of_decide_eq_true (by first | (with_reducible assumption) | assumption)
                                    obtain ⟨ad305, e305, hx305_0⟩ := Kd.at_int (Kd.R_reads' HO_7.out).2.2 x10_3 p305 q305
                                    cases e305
                                    replace p305 := eq_true p305
                                    replace q305 := eq_true q305
                                    have p306 : 0 ≤ ((rd t301 x10_3) : Int) := of_decide_eq_true (by first | (with_reducible assumption) | assumption)
                                    have q306 : (rd t301 x10_3) < (l0_0.length : Int) := of_decide_eq_true (by first | (with_reducible assumption) | assumption)
                                    obtain ⟨ad306, e306, hx306_0, hx306_1, hx306_2, hx306_3⟩ := at_T47 HR0_0.out (rd t301 x10_3) p306 q306
                                    have hw306_3 := hx306_3
                                    have hw306_2 := hx306_2
                                    have hw306_1 := hx306_1
                                    have hw306_0 := hx306_0
                                    obtain rfl : ad299 = ad306 := (by injection e306)
                                    replace hx306_0 := (HB.out.cell (World.block_lt_of_cell? w _ hx306_0)).trans hx306_0
                                    replace hx306_1 := (HB.out.cell (World.block_lt_of_cell? w _ hx306_1)).trans hx306_1
                                    replace hx306_2 := (HB.out.cell (World.block_lt_of_cell? w _ hx306_2)).trans hx306_2
                                    replace hx306_3 := (HB.out.cell (World.block_lt_of_cell? w _ hx306_3)).trans hx306_3
                                    replace p306 := eq_true p306
                                    replace q306 := eq_true q306
                                    refine start_ (n := 10) (S := fun w' => w'.cell? ⟨gb297, 0, none⟩ = some (.slice (some ad299) l0_0.length c0_0) ∧ w'.cell? (ad305.add (x10_3).toNat) = some (.int .i64 (rd t301 x10_3)) ∧ w'.cell? (ad299.add (((rd t301 x10_3)).toNat * 4)) = some (.int .u8 ((rd_T47 l0_0 (rd t301 x10_3)).f0)) ∧ w'.cell? ⟨(ad299.add (((rd t301 x10_3)).toNat * 4)).block, (ad299.add (((rd t301 x10_3)).toNat * 4)).off + 1, none⟩ = some (.int .i64 ((rd_T47 l0_0 (rd t301 x10_3)).f1)) ∧ w'.cell? ⟨(ad299.add (((rd t301 x10_3)).toNat * 4)).block, (ad299.add (((rd t301 x10_3)).toNat * 4)).off + 2, none⟩ = some (.int .i64 ((rd_T47 l0_0 (rd t301 x10_3)).f2)) ∧ w'.cell? ⟨(ad299.add (((rd t301 x10_3)).toNat * 4)).block, (ad299.add (((rd t301 x10_3)).toNat * 4)).off + 3, none⟩ = some (.int .i64 ((rd_T47 l0_0 (rd t301 x10_3)).f3))) (ds := []) #[false, false, false, false, false, false, false, false, false, false] (by kernel_rfl) rfl rfl ⟨(blk_cell BK297.out 0).trans rfl, hx305_0, ((HB.out.cell (World.block_lt_of_cell? w _ hw306_0)).trans hw306_0), ((HB.out.cell (World.block_lt_of_cell? w _ hw306_1)).trans hw306_1), ((HB.out.cell (World.block_lt_of_cell? w _ hw306_2)).trans hw306_2), ((HB.out.cell (World.block_lt_of_cell? w _ hw306_3)).trans hw306_3)⟩ (fun hHeld => ?_); refine with_tabW monikerref4_Valid.tab14 monikerref4_Valid.bits14 (fun HT_ HW_ => ?_)
                                    generalize wr.drew = w84 at HO_7 BK297 BK300 HB hx305_0 hx306_0 hx306_1 hx306_2 hx306_3 hHeld ⊢
                                    refine pure_ (i := 0) (N := some 57) (v := ?_) (a' := ?_) #[true, false, false, false, false, false, false, false, false, false] rfl rfl (any_of HT_.out (by kernel_rfl)) (fun _ _ _ h => h) (Or.inl ⟨by rfl, ?_⟩) ?_ ?_
                                    rotate_left
                                    · intro w'
                                      go_simp
                                      with_reducible rfl
                                    rotate_left
                                    · simp only [Act.put, List.setIfInBounds_toArray, List.set_cons_zero, List.set_cons_succ, i64_w, i32_w]
                                      rfl
                                    refine pure_ (i := 2) (N := some 59) (v := ?_) (a' := ?_) #[true, false, true, false, false, false, false, false, false, false] rfl rfl (any_of HT_.out (by kernel_rfl)) (fun _ _ _ h => h) (Or.inl ⟨by rfl, ?_⟩) ?_ ?_
                                    rotate_left
                                    · intro w'
                                      go_simp
                                      with_reducible rfl
                                    rotate_left
                                    · simp only [Act.put, List.setIfInBounds_toArray, List.set_cons_zero, List.set_cons_succ, i64_w, i32_w]
                                      rfl
                                    refine pure_ (i := 3) (N := some 60) (v := ?_) (a' := ?_) #[true, false, true, true, false, false, false, false, false, false] rfl rfl (any_of HT_.out (by kernel_rfl)) (fun _ _ _ h => h) (Or.inl ⟨by rfl, ?_⟩) ?_ ?_
                                    rotate_left
                                    · intro w'
                                      go_simp
                                      with_reducible rfl
                                    rotate_left
                                    · simp only [Act.put, List.setIfInBounds_toArray, List.set_cons_zero, List.set_cons_succ, i64_w, i32_w]
                                      rfl
                                    refine pure_ (i := 4) (N := some 61) (v := ?_) (a' := ?_) #[true, false, true, true, true, false, false, false, false, false] rfl rfl (any_of HT_.out (by kernel_rfl)) (fun _ _ _ h => h) (Or.inl ⟨by rfl, ?_⟩) ?_ ?_
                                    rotate_left
                                    · intro w'
                                      go_simp
                                      with_reducible rfl
                                    rotate_left
                                    · simp only [Act.put, List.setIfInBounds_toArray, List.set_cons_zero, List.set_cons_succ, i64_w, i32_w]
                                      rfl
                                    refine take_ (i := 1) (N := some 58) (v := ?_) (a' := ?_) #[true, true, true, true, true, false, false, false, false, false] rfl rfl (take_ofW HT_.out HW_.out (by kernel_rfl)) (fun _ _ _ h => h) (Or.inl ⟨by rfl, ?_⟩) hHeld ?_ ?_
                                    rotate_left
                                    · rintro w' ⟨s0, s1, s2, s3, s4, s5⟩
                                      go_simp
                                      with_reducible rfl
                                    rotate_left
                                    · simp only [Act.put, List.setIfInBounds_toArray, List.set_cons_zero, List.set_cons_succ, i64_w, i32_w]
                                      rfl
                                    refine take_ (i := 5) (N := some 62) (v := ?_) (a' := ?_) #[true, true, true, true, true, true, false, false, false, false] rfl rfl (take_ofW HT_.out HW_.out (by kernel_rfl)) (fun _ _ _ h => h) (Or.inl ⟨by rfl, ?_⟩) hHeld ?_ ?_
                                    rotate_left
                                    · rintro w' ⟨s0, s1, s2, s3, s4, s5⟩
                                      go_simp
                                      with_reducible rfl
                                    rotate_left
                                    · simp only [Act.put, List.setIfInBounds_toArray, List.set_cons_zero, List.set_cons_succ, i64_w, i32_w]
                                      rfl
                                    refine pure_ (i := 6) (N := some 63) (v := ?_) (a' := ?_) #[true, true, true, true, true, true, true, false, false, false] rfl rfl (any_of HT_.out (by kernel_rfl)) (fun _ _ _ h => h) (Or.inl ⟨by rfl, ?_⟩) ?_ ?_
                                    rotate_left
                                    · intro w'
                                      go_simp
                                      with_reducible rfl
                                    rotate_left
                                    · simp only [Act.put, List.setIfInBounds_toArray, List.set_cons_zero, List.set_cons_succ, i64_w, i32_w]
                                      rfl
                                    refine take_ (i := 7) (N := some 64) (v := ?_) (a' := ?_) #[true, true, true, true, true, true, true, true, false, false] rfl rfl (take_ofW HT_.out HW_.out (by kernel_rfl)) (fun _ _ _ h => h) (Or.inl ⟨by rfl, ?_⟩) hHeld ?_ ?_
                                    rotate_left
                                    · rintro w' ⟨s0, s1, s2, s3, s4, s5⟩
                                      go_simp
                                      with_reducible rfl
                                    rotate_left
                                    · simp only [Act.put, List.setIfInBounds_toArray, List.set_cons_zero, List.set_cons_succ, i64_w, i32_w]
                                      rfl
                                    refine one_ (i := 8) (N := some 11) #[true, true, true, true, true, true, true, true, true, false] rfl rfl (one_of HT_.out (by kernel_rfl)) (by decide) (fun K hK => ?_)
                                    refine box_step ?hg (N := 11) ?hd (cs := #[.int .u8 0, .int .i64 0, .int .i64 0, .int .i64 0]) (t := 47) ?hr ?_; (case hd => rfl); (case hg => rfl); (case hr => first | (go_simp; done) | (go_simp; rfl))
                                    intro gb307 hg w85 hbox hb
                                    have HS1_ := (hb.cell (World.block_lt_of_cell? _ _ (hHeld.2.1))).trans (hHeld.2.1)
                                    have n0_ := Aside0.mk (Kd.R_below (by (with_reducible repeat (first | apply Kd.R_alloc | apply Kd.R_drewN | apply Kd.R_drew)); exact HO_7.out) hb)
                                    have n1_ := Aside0.mk (blk_below (g := gb297) (o := .cells #[.slice (some ad299) l0_0.length c0_0] 25 (0, 0)) (by (with_reducible repeat (first | refine blk_drewN ?_ _ | refine blk_drew ?_ | refine blk_alloc ?_ _)); exact BK297.out) hb)
                                    have n2_ := Aside0.mk (blk_below (g := gb300) (o := .cells #[.int .u8 ((rd_T47 l0_0 x5_1).f0), .int .i64 ((rd_T47 l0_0 x5_1).f1), .int .i64 ((rd_T47 l0_0 x5_1).f2), .int .i64 ((rd_T47 l0_0 x5_1).f3)] 47 (0, 0)) (by (with_reducible repeat (first | refine blk_drewN ?_ _ | refine blk_drew ?_ | refine blk_alloc ?_ _)); exact BK300.out) hb)
                                    have n3_ := Aside0.mk (below_step (by repeat (first | (with_reducible first | exact HB.out | apply below_alloc | apply pw_below_drewN | apply below_drew1 | refine below_set ?_ GE297.out | refine below_set ?_ GE300.out) | exact HB.out)) hb)
                                    have n4_ := Aside0.mk (hbox)
                                    have n5_ := Aside0.mk ((by rw [hg]; exact (below_size (by repeat (first | (with_reducible first | exact HB.out | apply below_alloc | apply pw_below_drewN | apply below_drew1 | refine below_set ?_ GE297.out | refine below_set ?_ GE300.out) | exact HB.out))) : w.heap.size ≤ gb307))
                                    have n6_ := Aside0.mk ((by rw [hg]; exact (below_size (by repeat (first | (with_reducible first | exact HB.out | apply below_alloc | apply pw_below_drewN | apply below_drew1 | refine below_set ?_ GE297.out | refine below_set ?_ GE300.out) | exact HB.out))) : w.heap.size ≤ gb307))
                                    have n7_ := Aside0.mk ((by rw [hg]; exact Nat.ne_of_lt (blk_lt (g := gb297) (o := .cells #[.slice (some ad299) l0_0.length c0_0] 25 (0, 0)) (by (with_reducible repeat (first | refine blk_drewN ?_ _ | refine blk_drew ?_ | refine blk_alloc ?_ _)); exact BK297.out)) : gb297 ≠ gb307))
                                    have n8_ := Aside0.mk ((by rw [hg]; exact Nat.ne_of_gt (blk_lt (g := gb297) (o := .cells #[.slice (some ad299) l0_0.length c0_0] 25 (0, 0)) (by (with_reducible repeat (first | refine blk_drewN ?_ _ | refine blk_drew ?_ | refine blk_alloc ?_ _)); exact BK297.out)) : gb307 ≠ gb297))
                                    have n9_ := Aside0.mk ((by rw [hg]; exact Nat.ne_of_lt (blk_lt (g := gb300) (o := .cells #[.int .u8 ((rd_T47 l0_0 x5_1).f0), .int .i64 ((rd_T47 l0_0 x5_1).f1), .int .i64 ((rd_T47 l0_0 x5_1).f2), .int .i64 ((rd_T47 l0_0 x5_1).f3)] 47 (0, 0)) (by (with_reducible repeat (first | refine blk_drewN ?_ _ | refine blk_drew ?_ | refine blk_alloc ?_ _)); exact BK300.out)) : gb300 ≠ gb307))
                                    have n10_ := Aside0.mk ((by rw [hg]; exact Nat.ne_of_gt (blk_lt (g := gb300) (o := .cells #[.int .u8 ((rd_T47 l0_0 x5_1).f0), .int .i64 ((rd_T47 l0_0 x5_1).f1), .int .i64 ((rd_T47 l0_0 x5_1).f2), .int .i64 ((rd_T47 l0_0 x5_1).f3)] 47 (0, 0)) (by (with_reducible repeat (first | refine blk_drewN ?_ _ | refine blk_drew ?_ | refine blk_alloc ?_ _)); exact BK300.out)) : gb307 ≠ gb300))
                                    clear HO_7
                                    clear BK297
                                    clear BK300
                                    clear HB
                                    have HO_7 := n0_
                                    have BK297 := n1_
                                    have BK300 := n2_
                                    have HB := n3_
                                    have BK307 := n4_
                                    have GW307 := n5_
                                    have GE307 := n6_
                                    have NB297_307 := n7_
                                    have NB307_297 := n8_
                                    have NB300_307 := n9_
                                    have NB307_300 := n10_
                                    clear n0_ n1_ n2_ n3_ n4_ n5_ n6_ n7_ n8_ n9_ n10_
                                    clear hb hbox hg
                                    refine hK.out _ _ ⟨(blk_cell BK297.out 0).trans rfl, HS1_, ((HB.out.cell (World.block_lt_of_cell? w _ hw306_0)).trans hw306_0), ((HB.out.cell (World.block_lt_of_cell? w _ hw306_1)).trans hw306_1), ((HB.out.cell (World.block_lt_of_cell? w _ hw306_2)).trans hw306_2), ((HB.out.cell (World.block_lt_of_cell? w _ hw306_3)).trans hw306_3)⟩ (fun hHeld => ?_)
                                    clear hK K
                                    refine norm_ (a' := ?_) ?_ ?_
                                    rotate_left
                                    · show Act.put _ (some 11) _ = _
                                      simp only [Act.put, List.setIfInBounds_toArray, List.set_cons_zero, List.set_cons_succ, i64_w, i32_w]
                                      rfl
                                    refine one_ (i := 9) (N := none) #[true, true, true, true, true, true, true, true, true, true] rfl rfl (one_of HT_.out (by kernel_rfl)) (by decide) (fun K hK => ?_)
                                    have hs86 : w85.cell? ⟨gb307, 0, none⟩ = some (.int .u8 0) := (blk_cell BK307.out 0).trans rfl
                                    have hfs86 := blk_frozen BK307.out 0
                                    have hns86_0 := NB297_307.out
                                    have hns86_1 := NB300_307.out
                                    have hms86_0 := NB307_297.out
                                    have hms86_1 := NB307_300.out
                                    have hs87 : w85.cell? ⟨gb307, 1, none⟩ = some (.int .i64 0) := (blk_cell BK307.out 1).trans rfl
                                    have hfs87 := blk_frozen BK307.out 1
                                    have hns87_0 := NB297_307.out
                                    have hns87_1 := NB300_307.out
                                    have hms87_0 := NB307_297.out
                                    have hms87_1 := NB307_300.out
                                    have hs88 : w85.cell? ⟨gb307, 2, none⟩ = some (.int .i64 0) := (blk_cell BK307.out 2).trans rfl
                                    have hfs88 := blk_frozen BK307.out 2
                                    have hns88_0 := NB297_307.out
                                    have hns88_1 := NB300_307.out
                                    have hms88_0 := NB307_297.out
                                    have hms88_1 := NB307_300.out
                                    have hs89 : w85.cell? ⟨gb307, 3, none⟩ = some (.int .i64 0) := (blk_cell BK307.out 3).trans rfl
                                    have hfs89 := blk_frozen BK307.out 3
                                    have hns89_0 := NB297_307.out
                                    have hns89_1 := NB300_307.out
                                    have hms89_0 := NB307_297.out
                                    have hms89_1 := NB307_300.out
                                    refine skip_ (w1 := ?_) (by rfl) rfl ?_ ?_
                                    rotate_left
                                    · go_simp
                                      rfl
                                    refine hK.out _ _ ⟨((cell_far (p := ⟨gb307, _, none⟩) NB297_307.out _).trans (((cell_far (p := ⟨gb307, _, none⟩) NB297_307.out _).trans (((cell_far (p := ⟨gb307, _, none⟩) NB297_307.out _).trans (((cell_far (p := ⟨gb307, _, none⟩) NB297_307.out _).trans (hHeld.1)))))))), ((cell_far (p := ⟨gb307, _, none⟩) (by first | exact Kd.own_blk (Kd.R_ne HO_7.out BK307.out (by decide)) | (rw [add_block]; exact Kd.own_blk (Kd.R_ne HO_7.out BK307.out (by decide))) | (show (Addr.add _ _).block ≠ _; rw [add_block]; exact Kd.own_blk (Kd.R_ne HO_7.out BK307.out (by decide))) | (dsimp only; exact Kd.own_blk (Kd.R_ne HO_7.out BK307.out (by decide)))) _).trans (((cell_far (p := ⟨gb307, _, none⟩) (by first | exact Kd.own_blk (Kd.R_ne HO_7.out BK307.out (by decide)) | (rw [add_block]; exact Kd.own_blk (Kd.R_ne HO_7.out BK307.out (by decide))) | (show (Addr.add _ _).block ≠ _; rw [add_block]; exact Kd.own_blk (Kd.R_ne HO_7.out BK307.out (by decide))) | (dsimp only; exact Kd.own_blk (Kd.R_ne HO_7.out BK307.out (by decide)))) _).trans (((cell_far (p := ⟨gb307, _, none⟩) (by first | exact Kd.own_blk (Kd.R_ne HO_7.out BK307.out (by decide)) | (rw [add_block]; exact Kd.own_blk (Kd.R_ne HO_7.out BK307.out (by decide))) | (show (Addr.add _ _).block ≠ _; rw [add_block]; exact Kd.own_blk (Kd.R_ne HO_7.out BK307.out (by decide))) | (dsimp only; exact Kd.own_blk (Kd.R_ne HO_7.out BK307.out (by decide)))) _).trans (((cell_far (p := ⟨gb307, _, none⟩) (by first | exact Kd.own_blk (Kd.R_ne HO_7.out BK307.out (by decide)) | (rw [add_block]; exact Kd.own_blk (Kd.R_ne HO_7.out BK307.out (by decide))) | (show (Addr.add _ _).block ≠ _; rw [add_block]; exact Kd.own_blk (Kd.R_ne HO_7.out BK307.out (by decide))) | (dsimp only; exact Kd.own_blk (Kd.R_ne HO_7.out BK307.out (by decide)))) _).trans (hHeld.2.1)))))))), ((cell_far (p := ⟨gb307, _, none⟩) (by first | exact Nat.ne_of_lt (Nat.lt_of_lt_of_le (by have := World.block_lt_of_cell? _ _ hw306_0; first | rwa [add_block] at this | exact this) GW307.out) | (rw [add_block]; exact Nat.ne_of_lt (Nat.lt_of_lt_of_le (by have := World.block_lt_of_cell? _ _ hw306_0; first | rwa [add_block] at this | exact this) GW307.out)) | (show (Addr.add _ _).block ≠ _; rw [add_block]; exact Nat.ne_of_lt (Nat.lt_of_lt_of_le (by have := World.block_lt_of_cell? _ _ hw306_0; first | rwa [add_block] at this | exact this) GW307.out)) | (dsimp only; exact Nat.ne_of_lt (Nat.lt_of_lt_of_le (by have := World.block_lt_of_cell? _ _ hw306_0; first | rwa [add_block] at this | exact this) GW307.out))) _).trans (((cell_far (p := ⟨gb307, _, none⟩) (by first | exact Nat.ne_of_lt (Nat.lt_of_lt_of_le (by have := World.block_lt_of_cell? _ _ hw306_0; first | rwa [add_block] at this | exact this) GW307.out) | (rw [add_block]; exact Nat.ne_of_lt (Nat.lt_of_lt_of_le (by have := World.block_lt_of_cell? _ _ hw306_0; first | rwa [add_block] at this | exact this) GW307.out)) | (show (Addr.add _ _).block ≠ _; rw [add_block]; exact Nat.ne_of_lt (Nat.lt_of_lt_of_le (by have := World.block_lt_of_cell? _ _ hw306_0; first | rwa [add_block] at this | exact this) GW307.out)) | (dsimp only; exact Nat.ne_of_lt (Nat.lt_of_lt_of_le (by have := World.block_lt_of_cell? _ _ hw306_0; first | rwa [add_block] at this | exact this) GW307.out))) _).trans (((cell_far (p := ⟨gb307, _, none⟩) (by first | exact Nat.ne_of_lt (Nat.lt_of_lt_of_le (by have := World.block_lt_of_cell? _ _ hw306_0; first | rwa [add_block] at this | exact this) GW307.out) | (rw [add_block]; exact Nat.ne_of_lt (Nat.lt_of_lt_of_le (by have := World.block_lt_of_cell? _ _ hw306_0; first | rwa [add_block] at this | exact this) GW307.out)) | (show (Addr.add _ _).block ≠ _; rw [add_block]; exact Nat.ne_of_lt (Nat.lt_of_lt_of_le (by have := World.block_lt_of_cell? _ _ hw306_0; first | rwa [add_block] at this | exact this) GW307.out)) | (dsimp only; exact Nat.ne_of_lt (Nat.lt_of_lt_of_le (by have := World.block_lt_of_cell? _ _ hw306_0; first | rwa [add_block] at this | exact this) GW307.out))) _).trans (((cell_far (p := ⟨gb307, _, none⟩) (by first | exact Nat.ne_of_lt (Nat.lt_of_lt_of_le (by have := World.block_lt_of_cell? _ _ hw306_0; first | rwa [add_block] at this | exact this) GW307.out) | (rw [add_block]; exact Nat.ne_of_lt (Nat.lt_of_lt_of_le (by have := World.block_lt_of_cell? _ _ hw306_0; first | rwa [add_block] at this | exact this) GW307.out)) | (show (Addr.add _ _).block ≠ _; rw [add_block]; exact Nat.ne_of_lt (Nat.lt_of_lt_of_le (by have := World.block_lt_of_cell? _ _ hw306_0; first | rwa [add_block] at this | exact this) GW307.out)) | (dsimp only; exact Nat.ne_of_lt (Nat.lt_of_lt_of_le (by have := World.block_lt_of_cell? _ _ hw306_0; first | rwa [add_block] at this | exact this) GW307.out))) _).trans (hHeld.2.2.1)))))))), ((cell_far (p := ⟨gb307, _, none⟩) (by first | exact Nat.ne_of_lt (Nat.lt_of_lt_of_le (by have := World.block_lt_of_cell? _ _ hw306_1; first | rwa [add_block] at this | exact this) GW307.out) | (rw [add_block]; exact Nat.ne_of_lt (Nat.lt_of_lt_of_le (by have := World.block_lt_of_cell? _ _ hw306_1; first | rwa [add_block] at this | exact this) GW307.out)) | (show (Addr.add _ _).block ≠ _; rw [add_block]; exact Nat.ne_of_lt (Nat.lt_of_lt_of_le (by have := World.block_lt_of_cell? _ _ hw306_1; first | rwa [add_block] at this | exact this) GW307.out)) | (dsimp only; exact Nat.ne_of_lt (Nat.lt_of_lt_of_le (by have := World.block_lt_of_cell? _ _ hw306_1; first | rwa [add_block] at this | exact this) GW307.out))) _).trans (((cell_far (p := ⟨gb307, _, none⟩) (by first | exact Nat.ne_of_lt (Nat.lt_of_lt_of_le (by have := World.block_lt_of_cell? _ _ hw306_1; first | rwa [add_block] at this | exact this) GW307.out) | (rw [add_block]; exact Nat.ne_of_lt (Nat.lt_of_lt_of_le (by have := World.block_lt_of_cell? _ _ hw306_1; first | rwa [add_block] at this | exact this) GW307.out)) | (show (Addr.add _ _).block ≠ _; rw [add_block]; exact Nat.ne_of_lt (Nat.lt_of_lt_of_le (by have := World.block_lt_of_cell? _ _ hw306_1; first | rwa [add_block] at this | exact this) GW307.out)) | (dsimp only; exact Nat.ne_of_lt (Nat.lt_of_lt_of_le (by have := World.block_lt_of_cell? _ _ hw306_1; first | rwa [add_block] at this | exact this) GW307.out))) _).trans (((cell_far (p := ⟨gb307, _, none⟩) (by first | exact Nat.ne_of_lt (Nat.lt_of_lt_of_le (by have := World.block_lt_of_cell? _ _ hw306_1; first | rwa [add_block] at this | exact this) GW307.out) | (rw [add_block]; exact Nat.ne_of_lt (Nat.lt_of_lt_of_le (by have := World.block_lt_of_cell? _ _ hw306_1; first | rwa [add_block] at this | exact this) GW307.out)) | (show (Addr.add _ _).block ≠ _; rw [add_block]; exact Nat.ne_of_lt (Nat.lt_of_lt_of_le (by have := World.block_lt_of_cell? _ _ hw306_1; first | rwa [add_block] at this | exact this) GW307.out)) | (dsimp only; exact Nat.ne_of_lt (Nat.lt_of_lt_of_le (by have := World.block_lt_of_cell? _ _ hw306_1; first | rwa [add_block] at this | exact this) GW307.out))) _).trans (((cell_far (p := ⟨gb307, _, none⟩) (by first | exact Nat.ne_of_lt (Nat.lt_of_lt_of_le (by have := World.block_lt_of_cell? _ _ hw306_1; first | rwa [add_block] at this | exact this) GW307.out) | (rw [add_block]; exact Nat.ne_of_lt (Nat.lt_of_lt_of_le (by have := World.block_lt_of_cell? _ _ hw306_1; first | rwa [add_block] at this | exact this) GW307.out)) | (show (Addr.add _ _).block ≠ _; rw [add_block]; exact Nat.ne_of_lt (Nat.lt_of_lt_of_le (by have := World.block_lt_of_cell? _ _ hw306_1; first | rwa [add_block] at this | exact this) GW307.out)) | (dsimp only; exact Nat.ne_of_lt (Nat.lt_of_lt_of_le (by have := World.block_lt_of_cell? _ _ hw306_1; first | rwa [add_block] at this | exact this) GW307.out))) _).trans (hHeld.2.2.2.1)))))))), ((cell_far (p := ⟨gb307, _, none⟩) (by first | exact Nat.ne_of_lt (Nat.lt_of_lt_of_le (by have := World.block_lt_of_cell? _ _ hw306_2; first | rwa [add_block] at this | exact this) GW307.out) | (rw [add_block]; exact Nat.ne_of_lt (Nat.lt_of_lt_of_le (by have := World.block_lt_of_cell? _ _ hw306_2; first | rwa [add_block] at this | exact this) GW307.out)) | (show (Addr.add _ _).block ≠ _; rw [add_block]; exact Nat.ne_of_lt (Nat.lt_of_lt_of_le (by have := World.block_lt_of_cell? _ _ hw306_2; first | rwa [add_block] at this | exact this) GW307.out)) | (dsimp only; exact Nat.ne_of_lt (Nat.lt_of_lt_of_le (by have := World.block_lt_of_cell? _ _ hw306_2; first | rwa [add_block] at this | exact this) GW307.out))) _).trans (((cell_far (p := ⟨gb307, _, none⟩) (by first | exact Nat.ne_of_lt (Nat.lt_of_lt_of_le (by have := World.block_lt_of_cell? _ _ hw306_2; first | rwa [add_block] at this | exact this) GW307.out) | (rw [add_block]; exact Nat.ne_of_lt (Nat.lt_of_lt_of_le (by have := World.block_lt_of_cell? _ _ hw306_2; first | rwa [add_block] at this | exact this) GW307.out)) | (show (Addr.add _ _).block ≠ _; rw [add_block]; exact Nat.ne_of_lt (Nat.lt_of_lt_of_le (by have := World.block_lt_of_cell? _ _ hw306_2; first | rwa [add_block] at this | exact this) GW307.out)) | (dsimp only; exact Nat.ne_of_lt (Nat.lt_of_lt_of_le (by have := World.block_lt_of_cell? _ _ hw306_2; first | rwa [add_block] at this | exact this) GW307.out))) _).trans (((cell_far (p := ⟨gb307, _, none⟩) (by first | exact Nat.ne_of_lt (Nat.lt_of_lt_of_le (by have := World.block_lt_of_cell? _ _ hw306_2; first | rwa [add_block] at this | exact this) GW307.out) | (rw [add_block]; exact Nat.ne_of_lt (Nat.lt_of_lt_of_le (by have := World.block_lt_of_cell? _ _ hw306_2; first | rwa [add_block] at this | exact this) GW307.out)) | (show (Addr.add _ _).block ≠ _; rw [add_block]; exact Nat.ne_of_lt (Nat.lt_of_lt_of_le (by have := World.block_lt_of_cell? _ _ hw306_2; first | rwa [add_block] at this | exact this) GW307.out)) | (dsimp only; exact Nat.ne_of_lt (Nat.lt_of_lt_of_le (by have := World.block_lt_of_cell? _ _ hw306_2; first | rwa [add_block] at this | exact this) GW307.out))) _).trans (((cell_far (p := ⟨gb307, _, none⟩) (by first | exact Nat.ne_of_lt (Nat.lt_of_lt_of_le (by have := World.block_lt_of_cell? _ _ hw306_2; first | rwa [add_block] at this | exact this) GW307.out) | (rw [add_block]; exact Nat.ne_of_lt (Nat.lt_of_lt_of_le (by have := World.block_lt_of_cell? _ _ hw306_2; first | rwa [add_block] at this | exact this) GW307.out)) | (show (Addr.add _ _).block ≠ _; rw [add_block]; exact Nat.ne_of_lt (Nat.lt_of_lt_of_le (by have := World.block_lt_of_cell? _ _ hw306_2; first | rwa [add_block] at this | exact this) GW307.out)) | (dsimp only; exact Nat.ne_of_lt (Nat.lt_of_lt_of_le (by have := World.block_lt_of_cell? _ _ hw306_2; first | rwa [add_block] at this | exact this) GW307.out))) _).trans (hHeld.2.2.2.2.1)))))))), ((cell_far (p := ⟨gb307, _, none⟩) (by first | exact Nat.ne_of_lt (Nat.lt_of_lt_of_le (by have := World.block_lt_of_cell? _ _ hw306_3; first | rwa [add_block] at this | exact this) GW307.out) | (rw [add_block]; exact Nat.ne_of_lt (Nat.lt_of_lt_of_le (by have := World.block_lt_of_cell? _ _ hw306_3; first | rwa [add_block] at this | exact this) GW307.out)) | (show (Addr.add _ _).block ≠ _; rw [add_block]; exact Nat.ne_of_lt (Nat.lt_of_lt_of_le (by have := World.block_lt_of_cell? _ _ hw306_3; first | rwa [add_block] at this | exact this) GW307.out)) | (dsimp only; exact Nat.ne_of_lt (Nat.lt_of_lt_of_le (by have := World.block_lt_of_cell? _ _ hw306_3; first | rwa [add_block] at this | exact this) GW307.out))) _).trans (((cell_far (p := ⟨gb307, _, none⟩) (by first | exact Nat.ne_of_lt (Nat.lt_of_lt_of_le (by have := World.block_lt_of_cell? _ _ hw306_3; first | rwa [add_block] at this | exact this) GW307.out) | (rw [add_block]; exact Nat.ne_of_lt (Nat.lt_of_lt_of_le (by have := World.block_lt_of_cell? _ _ hw306_3; first | rwa [add_block] at this | exact this) GW307.out)) | (show (Addr.add _ _).block ≠ _; rw [add_block]; exact Nat.ne_of_lt (Nat.lt_of_lt_of_le (by have := World.block_lt_of_cell? _ _ hw306_3; first | rwa [add_block] at this | exact this) GW307.out)) | (dsimp only; exact Nat.ne_of_lt (Nat.lt_of_lt_of_le (by have := World.block_lt_of_cell? _ _ hw306_3; first | rwa [add_block] at this | exact this) GW307.out))) _).trans (((cell_far (p := ⟨gb307, _, none⟩) (by first | exact Nat.ne_of_lt (Nat.lt_of_lt_of_le (by have := World.block_lt_of_cell? _ _ hw306_3; first | rwa [add_block] at this | exact this) GW307.out) | (rw [add_block]; exact Nat.ne_of_lt (Nat.lt_of_lt_of_le (by have := World.block_lt_of_cell? _ _ hw306_3; first | rwa [add_block] at this | exact this) GW307.out)) | (show (Addr.add _ _).block ≠ _; rw [add_block]; exact Nat.ne_of_lt (Nat.lt_of_lt_of_le (by have := World.block_lt_of_cell? _ _ hw306_3; first | rwa [add_block] at this | exact this) GW307.out)) | (dsimp only; exact Nat.ne_of_lt (Nat.lt_of_lt_of_le (by have := World.block_lt_of_cell? _ _ hw306_3; first | rwa [add_block] at this | exact this) GW307.out))) _).trans (((cell_far (p := ⟨gb307, _, none⟩) (by first | exact Nat.ne_of_lt (Nat.lt_of_lt_of_le (by have := World.block_lt_of_cell? _ _ hw306_3; first | rwa [add_block] at this | exact this) GW307.out) | (rw [add_block]; exact Nat.ne_of_lt (Nat.lt_of_lt_of_le (by have := World.block_lt_of_cell? _ _ hw306_3; first | rwa [add_block] at this | exact this) GW307.out)) | (show (Addr.add _ _).block ≠ _; rw [add_block]; exact Nat.ne_of_lt (Nat.lt_of_lt_of_le (by have := World.block_lt_of_cell? _ _ hw306_3; first | rwa [add_block] at this | exact this) GW307.out)) | (dsimp only; exact Nat.ne_of_lt (Nat.lt_of_lt_of_le (by have := World.block_lt_of_cell? _ _ hw306_3; first | rwa [add_block] at this | exact this) GW307.out))) _).trans (hHeld.2.2.2.2.2))))))))⟩ (fun hHeld => ?_)
                                    clear hK K
                                    refine done_ (done_of HT_.out (by kernel_rfl)) ?_
                                    have hnb90 := NB307_297.out
                                    have hnc90 := NB297_307.out
                                    have hnb91 := NB307_300.out
                                    have hnc91 := NB300_307.out
                                    have hcz92_0 : w85.cell? ⟨gb307, 0, none⟩ = some (.int .u8 0) := (blk_cell BK307.out 0).trans rfl
                                    have hcz92_1 : w85.cell? ⟨gb307, 1, none⟩ = some (.int .i64 0) := (blk_cell BK307.out 1).trans rfl
                                    have hcz92_2 : w85.cell? ⟨gb307, 2, none⟩ = some (.int .i64 0) := (blk_cell BK307.out 2).trans rfl
                                    have hcz92_3 : w85.cell? ⟨gb307, 3, none⟩ = some (.int .i64 0) := (blk_cell BK307.out 3).trans rfl
                                    have hfz92_0 := blk_frozen BK307.out 0
                                    have hfz92_1 := blk_frozen BK307.out 1
                                    have hfz92_2 := blk_frozen BK307.out 2
                                    have hfz92_3 := blk_frozen BK307.out 3
                                    have hnb93 := NB300_297.out
                                    have hnc93 := NB297_300.out
                                    have hcz94_0 : w85.cell? ⟨gb300, 0, none⟩ = some (.int .u8 ((rd_T47 l0_0 x5_1).f0)) := (blk_cell BK300.out 0).trans rfl
                                    have hcz94_1 : w85.cell? ⟨gb300, 1, none⟩ = some (.int .i64 ((rd_T47 l0_0 x5_1).f1)) := (blk_cell BK300.out 1).trans rfl
                                    have hcz94_2 : w85.cell? ⟨gb300, 2, none⟩ = some (.int .i64 ((rd_T47 l0_0 x5_1).f2)) := (blk_cell BK300.out 2).trans rfl
                                    have hcz94_3 : w85.cell? ⟨gb300, 3, none⟩ = some (.int .i64 ((rd_T47 l0_0 x5_1).f3)) := (blk_cell BK300.out 3).trans rfl
                                    have hfz94_0 := blk_frozen BK300.out 0
                                    have hfz94_1 := blk_frozen BK300.out 1
                                    have hfz94_2 := blk_frozen BK300.out 2
                                    have hfz94_3 := blk_frozen BK300.out 3
                                    try go_wp2
                                    go_roundg k3
                                    case measure => have := HK1.out; have := HJ9.out; have := HK3.out; omega
                                    case rel => exact ⟨((rd_T47 l0_0 (rd t301 x10_3)).f2), (wrap64 (x10_3 + 1)), (by first | rfl | (simp; done) | (simp [*]; done)), (by first | rfl | (simp; done) | (simp [*]; done)), H', ⟨by have := HK1.out; have := HJ9.out; have := HK3.out; omega⟩, ⟨by (with_reducible repeat (first | apply Kd.R_alloc | apply Kd.R_drewN | apply Kd.R_drew)); exact Kd.R_mono (Kd.R_far (p := ⟨gb307, 3, none⟩) (Kd.R_far (p := ⟨gb307, 2, none⟩) (Kd.R_far (p := ⟨gb307, 1, none⟩) (Kd.R_far (p := ⟨gb307, 0, none⟩) (Kd.R_types HO_7.out BK307.out (by decide)) (fun _ hk => hk.2) (.int .u8 ((rd_T47 l0_0 (rd t301 x10_3)).f0))) (fun _ hk => hk.2) (.int .i64 ((rd_T47 l0_0 (rd t301 x10_3)).f1))) (fun _ hk => hk.2) (.int .i64 ((rd_T47 l0_0 (rd t301 x10_3)).f2))) (fun _ hk => hk.2) (.int .i64 ((rd_T47 l0_0 (rd t301 x10_3)).f3))) (fun _ hk => trivial)⟩, ⟨by (with_reducible repeat (first | refine blk_drewN ?_ _ | refine blk_drew ?_ | refine blk_alloc ?_ _)); refine blk_far ?_ NB297_307.out _; (with_reducible repeat (first | refine blk_drewN ?_ _ | refine blk_drew ?_ | refine blk_alloc ?_ _)); refine blk_far ?_ NB297_307.out _; (with_reducible repeat (first | refine blk_drewN ?_ _ | refine blk_drew ?_ | refine blk_alloc ?_ _)); refine blk_far ?_ NB297_307.out _; (with_reducible repeat (first | refine blk_drewN ?_ _ | refine blk_drew ?_ | refine blk_alloc ?_ _)); refine blk_far ?_ NB297_307.out _; (with_reducible repeat (first | refine blk_drewN ?_ _ | refine blk_drew ?_ | refine blk_alloc ?_ _)); exact BK297.out⟩, ⟨by (with_reducible repeat (first | refine blk_drewN ?_ _ | refine blk_drew ?_ | refine blk_alloc ?_ _)); refine blk_far ?_ NB300_307.out _; (with_reducible repeat (first | refine blk_drewN ?_ _ | refine blk_drew ?_ | refine blk_alloc ?_ _)); refine blk_far ?_ NB300_307.out _; (with_reducible repeat (first | refine blk_drewN ?_ _ | refine blk_drew ?_ | refine blk_alloc ?_ _)); refine blk_far ?_ NB300_307.out _; (with_reducible repeat (first | refine blk_drewN ?_ _ | refine blk_drew ?_ | refine blk_alloc ?_ _)); refine blk_far ?_ NB300_307.out _; (with_reducible repeat (first | refine blk_drewN ?_ _ | refine blk_drew ?_ | refine blk_alloc ?_ _)); exact BK300.out⟩, ⟨by repeat (first | (with_reducible first | exact HB.out | apply below_alloc | apply pw_below_drewN | apply below_drew1 | refine below_set ?_ GE297.out | refine below_set ?_ GE300.out | refine below_set ?_ GE307.out) | exact HB.out)⟩⟩
                            · rw [if_neg c32] at H
                              exact absurd H (by simp)
                          · rw [if_neg c31] at H
                            exact absurd H (by simp)
                        · rw [if_neg c30] at H
                          exact absurd H (by simp)
                      · rw [if_neg c29] at H
                        have c29b0 : decide (x10_3 < (t301.length : Int)) = false := decide_eq_false c29
                        clear c29
                        have H' := Aside0.mk H
                        clear H
                        obtain ⟨Ao95, co95, eo95⟩ := Kd.R_slice HO_7.out
                        subst eo95
                        go_wp2
                        go_roundg k3
                        case measure => have := HK1.out; have := HJ9.out; have := HK3.out; omega
                        case rel => exact ⟨(wrap64 (x5_1 + 1)), (by first | rfl | (simp; done) | (simp [*]; done)), H', ⟨by have := HK1.out; have := HJ9.out; have := HK3.out; omega⟩, ⟨by (with_reducible repeat (first | refine blk_drewN ?_ _ | refine blk_drew ?_ | refine blk_alloc ?_ _)); exact BK297.out⟩, ⟨by repeat (first | (with_reducible first | exact HB.out | apply below_alloc | apply pw_below_drewN | apply below_drew1 | refine below_set ?_ GE297.out | refine below_set ?_ GE300.out) | exact HB.out)⟩⟩
          · rw [if_neg c9] at H
            exact absurd H (by simp)
        · rw [if_neg c8] at H
          have c8b0 : decide (x5_1 < (l0_0.length : Int)) = false := decide_eq_false c8
          clear c8
          obtain rfl := Option.some.inj H
          have hcz96_0 : wr.cell? ⟨gb297, 0, none⟩ = some (.slice A0_0 l0_0.length c0_0) := (blk_cell BK297.out 0).trans rfl
          have hfz96_0 := blk_frozen BK297.out 0
          go_wp2
          go_ret
          exact ⟨by first | rfl | (simp [errW_none, errW_some] <;> rfl) | (simp [*, errW_none, errW_some] <;> rfl), by repeat (first | (with_reducible first | exact HB.out | apply below_alloc | apply pw_below_drewN | apply below_drew1 | refine below_set ?_ GE297.out) | exact HB.out)⟩
  · replace c4 := Bool.eq_false_iff.mpr c4
    subst c4
    have H1 : (some false) = some r := by rw [if_neg (show ¬ (false = true) by decide)] at H; exact H
    clear H
    have H := H1
    clear H1
    obtain rfl := Option.some.inj H
    go_enter Try.func42, Try.ntmps42
    go_wp2_with (first | ((with_reducible refine gate_dst (N := 2) rfl ?_); refine box_event ?hg (N := 2) ?hd (cs := #[.slice A0_0 l0_0.length c0_0]) (t := 25) ?hr ?_; (case hd => rfl); (case hg => rfl); (case hr => first | (go_simp; done) | (go_simp; rfl)); intro gb297 hg w97 hbox hb; have n0_ := Aside0.mk (below_step (by repeat (first | (with_reducible first | exact HB.out | apply below_alloc | apply pw_below_drewN | apply below_drew1) | exact HB.out)) hb); have n1_ := Aside0.mk (hbox); have n2_ := Aside0.mk ((by rw [hg]; exact (below_size (by repeat (first | (with_reducible first | exact HB.out | apply below_alloc | apply pw_below_drewN | apply below_drew1) | exact HB.out))) : w.heap.size ≤ gb297)); have n3_ := Aside0.mk ((by rw [hg]; exact (below_size (by repeat (first | (with_reducible first | exact HB.out | apply below_alloc | apply pw_below_drewN | apply below_drew1) | exact HB.out))) : w.heap.size ≤ gb297)); clear HB; have HB := n0_; have BK297 := n1_; have GW297 := n2_; have GE297 := n3_; clear n0_ n1_ n2_ n3_; clear hb hbox hg; have hcz98_0 : w97.cell? ⟨gb297, 0, none⟩ = some (.slice A0_0 l0_0.length c0_0) := (blk_cell BK297.out 0).trans rfl; have hfz98_0 := blk_frozen BK297.out 0) | ((with_reducible refine gate_callee (f := 59) rfl ?_); refine goesL_ (some 13) rfl rfl Try.func59 (by kernel_rfl) rfl #[.agg #[.slice A0_0 l0_0.length c0_0]] rfl (by (try simp only [List.map_toArray, List.map_cons, List.map_nil]); first | done | rfl | (simp only [List.length_drop, List.length_take]; rfl)) ?_; (with_reducible refine (monikerref4_Shaped.calls k _ _ l0_0 false _ ?side1 ?side2 A3.out).mono ?_); (case side1 => repeat (first | exact (Kd.C_below HR0_0.out HB.out) | (with_reducible refine Kd.C_alloc ?_ _) | (with_reducible refine Kd.C_drewN ?_ _) | (with_reducible refine Kd.C_drew ?_))); (case side2 => exact HC0_0.out); rintro e w99 ⟨rfl, hb⟩; refine ⟨_, rfl, ?_⟩; have n0_ := Aside0.mk (blk_below (g := gb297) (o := .cells #[.slice A0_0 l0_0.length c0_0] 25 (0, 0)) (by (with_reducible repeat (first | refine blk_drewN ?_ _ | refine blk_drew ?_ | refine blk_alloc ?_ _)); exact BK297.out) hb); have n1_ := Aside0.mk (below_step (by repeat (first | (with_reducible first | exact HB.out | apply below_alloc | apply pw_below_drewN | apply below_drew1 | refine below_set ?_ GE297.out) | exact HB.out)) hb); clear BK297; clear HB; have BK297 := n0_; have HB := n1_; clear n0_ n1_; (try clear hb); (try clear hb2); (try clear hk); (try clear hi)))
    go_ret
    exact ⟨by first | rfl | (simp [errW_none, errW_some] <;> rfl) | (simp [*, errW_none, errW_some] <;> rfl), by repeat (first | (with_reducible first | exact HB.out | apply below_alloc | apply pw_below_drewN | apply below_drew1 | refine below_set ?_ GE297.out) | exact HB.out)⟩

end Go.Proofs.Ytodldpdnhcafpaa.F

namespace Go.Proofs.Ytodldpdnhcafpaa.Q
open Go.RowKit Go.Proofs.YtodldpdnhcafpaaW.PrintWords Go.Proofs.YtodldpdnhcafpaaW.PrintLast Go.Proofs.YtodldpdnhcafpaaW.PrintMore
open Go.Proofs.Ytodldpdnhcafpaa.F Go.Proofs.Ytodldpdnhcafpaa.K
set_option linter.unusedSimpArgs false
set_option linter.unusedVariables false

def okS (l : List S47) (q n : Int) : Bool := decide (0 ≤ (rd_T47 l n).f1) && (decide ((rd_T47 l n).f1 ≤ (rd_T47 l n).f2) && decide ((rd_T47 l n).f2 ≤ q))
def rf (l : List S47) (nd : S47) : List Int → Int → Bool
  | [], _ => true
  | x :: ks, en => if (rd_T47 l x).f1 = (rd_T47 l x).f2 then (if (rd_T47 l x).f1 < nd.f1 then false else rf l nd ks en) else (if (rd_T47 l x).f1 < en then false else if (rd_T47 l x).f2 > nd.f2 then false else rf l nd ks (rd_T47 l x).f2)
def allV (l : List S47) (q : Int) : Nat → Int → Bool
  | 0, _ => true
  | f + 1, n => okS l q n && ((vfold l (rd_T47 l n) (kspec l n).1).1 && allV l q f (n + 1))
def allR (l : List S47) (q : Int) : Nat → Int → Bool
  | 0, _ => true
  | f + 1, n => okS l q n && (rf l (rd_T47 l n) (kidsOf l n) (rd_T47 l n).f1 && allR l q f (n + 1))
theorem kgo_mem (l : List S47) (en : Int) : ∀ (d : Nat) (pre : List Int) (x lo : Int), lo ≤ x → (∀ y ∈ pre, lo ≤ y ∧ y < en) → ∀ y ∈ (kgo l en d pre x).1, lo ≤ y ∧ y < en
  | 0, pre, x, lo, _, h => h
  | d + 1, pre, x, lo, hx, h => by
    simp only [kgo]
    split
    · rename_i hlt
      have h2 : ∀ y ∈ pre ++ [x], lo ≤ y ∧ y < en := by
        intro y hy
        rcases List.mem_append.1 hy with hy | hy
        · exact h y hy
        · have : y = x := by simpa using hy
          omega
      split
      · exact h2
      · split
        · exact h2
        · exact kgo_mem l en d _ _ lo (by omega) h2
    · exact h
theorem kspec_mem (l : List S47) (n : Int) : ∀ y ∈ (kspec l n).1, 0 ≤ y ∧ y < (l.length : Int) := by
  unfold kspec
  split
  · rename_i hs
    unfold sizedB at hs
    simp only [Bool.and_eq_true, decide_eq_true_eq] at hs
    intro y hy
    have := kgo_mem l _ _ [] (n + 1) (n + 1) (Int.le_refl _) (fun y hy => by cases hy) y hy
    omega
  · intro y hy; cases hy
theorem fold_rf (l : List S47) (nd : S47) (q : Int) (hok : ∀ m, 0 ≤ m → m < (l.length : Int) → okS l q m = true) : ∀ (ks : List Int), (∀ y ∈ ks, 0 ≤ y ∧ y < (l.length : Int)) → ∀ (g : Bool) (a : Int),
    (ks.foldl (fun s x => vstep nd (rd_T47 l x) s.1 s.2) (g, a)).1 = (g && rf l nd ks a)
  | [], _, g, a => by simp [rf]
  | x :: ks, hm, g, a => by
    have ih := fold_rf l nd q hok ks (fun y hy => hm y (List.mem_cons_of_mem _ hy))
    have h1 := hm x List.mem_cons_self
    have h2 := hok x h1.1 h1.2
    unfold okS at h2
    simp only [Bool.and_eq_true, decide_eq_true_eq] at h2
    simp only [List.foldl_cons, rf]
    generalize rd_T47 l x = y at *
    by_cases c : y.f1 = y.f2
    · have hv : vstep nd y g a = (g && decide (nd.f1 ≤ y.f1), a) := by unfold vstep; rw [if_pos c]
      rw [hv, ih, if_pos c]
      by_cases c2 : y.f1 < nd.f1
      · rw [if_pos c2, decide_eq_false (show ¬ nd.f1 ≤ y.f1 by omega)]; simp
      · rw [if_neg c2, decide_eq_true (show nd.f1 ≤ y.f1 by omega), Bool.and_true]
    · have hv : vstep nd y g a = (g && decide (a ≤ y.f1) && decide (y.f2 ≤ nd.f2), mx a y.f2) := by unfold vstep; rw [if_neg c]
      rw [hv, ih, if_neg c]
      by_cases c2 : y.f1 < a
      · rw [if_pos c2, decide_eq_false (show ¬ a ≤ y.f1 by omega)]; simp
      · rw [if_neg c2, decide_eq_true (show a ≤ y.f1 by omega)]
        have hmx : mx a y.f2 = y.f2 := by unfold mx; omega
        rw [hmx]
        by_cases c3 : y.f2 > nd.f2
        · rw [if_pos c3, decide_eq_false (show ¬ y.f2 ≤ nd.f2 by omega)]; simp
        · rw [if_neg c3, decide_eq_true (show y.f2 ≤ nd.f2 by omega)]; simp
theorem all_same (l : List S47) (q : Int) (hg : ∀ m, 0 ≤ m → m < (l.length : Int) → (kspec l m).2 = true) (hok : ∀ m, 0 ≤ m → m < (l.length : Int) → okS l q m = true) : ∀ (f : Nat) (n : Int), (l.length : Int) - n = f → 0 ≤ n → allV l q f n = allR l q f n
  | 0, _, _, _ => rfl
  | f + 1, n, hf, h0 => by
    simp only [allV, allR]
    rw [all_same l q hg hok f (n + 1) (by omega) (by omega)]
    have h1 := fold_rf l (rd_T47 l n) q hok (kspec l n).1 (kspec_mem l n) true (rd_T47 l n).f1
    have h2 : kidsOf l n = (kspec l n).1 := by unfold kidsOf; rw [if_pos (hg n h0 (by omega))]
    unfold vfold
    rw [h1, h2, Bool.true_and]
theorem all_bad (l : List S47) (q m : Int) (h : okS l q m = false) : ∀ (f : Nat) (n : Int), n ≤ m → m < n + f → allV l q f n = false ∧ allR l q f n = false
  | 0, n, h1, h2 => by omega
  | f + 1, n, h1, h2 => by
    simp only [allV, allR]
    by_cases c : n = m
    · rw [c, h]; simp
    · obtain ⟨i1, i2⟩ := all_bad l q m h f (n + 1) (by omega) (by omega)
      rw [i1, i2]; simp
theorem all_eq (l : List S47) (q : Int) (hg : ∀ m, 0 ≤ m → m < (l.length : Int) → (kspec l m).2 = true) : allV l q l.length 0 = allR l q l.length 0 := by
  by_cases h : ∀ m, 0 ≤ m → m < (l.length : Int) → okS l q m = true
  · exact all_same l q hg h l.length 0 (by omega) (by omega)
  · obtain ⟨m, hm⟩ : ∃ m, ¬ (0 ≤ m → m < (l.length : Int) → okS l q m = true) := Classical.byContradiction fun hh => h (fun m => Classical.byContradiction fun h3 => hh ⟨m, h3⟩)
    have h0 : 0 ≤ m := Classical.byContradiction fun h3 => hm (fun h4 => absurd h4 h3)
    have h1 : m < (l.length : Int) := Classical.byContradiction fun h3 => hm (fun _ h4 => absurd h4 h3)
    have h2 : okS l q m = false := by
      cases hh : okS l q m with
      | false => rfl
      | true => exact absurd (fun _ _ => hh) hm
    obtain ⟨i1, i2⟩ := all_bad l q m h2 l.length 0 h0 (by omega)
    rw [i1, i2]
theorem allG_at (l : List S47) : ∀ (f : Nat) (n : Int), allG l f n = true → ∀ m, n ≤ m → m < n + f → (kspec l m).2 = true
  | 0, n, _, m, h1, h2 => by omega
  | f + 1, n, h, m, h1, h2 => by
    simp only [allG, Bool.and_eq_true] at h
    by_cases c : n = m
    · subst c
      have := h.1
      unfold good at this
      simp only [Bool.and_eq_true] at this
      exact this.1
    · exact allG_at l f (n + 1) h.2 m (by omega) (by omega)
def validB (l : List S47) (q : Int) : Bool := shapedB l && allR l q l.length 0

theorem valid_loop (l : List S47) (hl : l.length ≤ 4398046511104) (q : Int) : ∀ (f : Nat) (n : Int), (l.length : Int) - n = f → 0 ≤ n → Ev (fun k => tree_Valid.l0 k l q n) (allV l q f n)
  | 0, n, hf, h0 => by
    refine ⟨1, fun m hm => ?_⟩
    obtain ⟨k, rfl⟩ : ∃ j, m = j + 1 := ⟨m - 1, by omega⟩
    simp only [tree_Valid.l0, allV]
    rw [if_neg (by omega)]
  | f + 1, n, hf, h0 => by
    have hlt : n < (l.length : Int) := by omega
    have ih := valid_loop l hl q f (n + 1) (by omega) (by omega)
    have hw1 : wrap64 (n + 1) = n + 1 := kw64 (by omega) (by omega)
    obtain ⟨k1, _, _⟩ := Kids_all l hl n
    simp only [allV]
    unfold okS
    have e : ∀ k, tree_Valid.l0 (k + 1) l q n = if (rd_T47 l n).f1 < 0 then some false else if (rd_T47 l n).f2 < (rd_T47 l n).f1 then some false else if (rd_T47 l n).f2 > q then some false else (kids.f k l n).bind fun r => (if (vfold l (rd_T47 l n) r.1).1 = true then tree_Valid.l0 k l q (n + 1) else some false) := by
      intro k
      simp only [tree_Valid.l0, hw1]
      rw [if_pos hlt, if_pos h0]
    by_cases c1 : (rd_T47 l n).f1 < 0
    · rw [decide_eq_false (show ¬ 0 ≤ (rd_T47 l n).f1 by omega)]
      exact ⟨1, fun m hm => by obtain ⟨k, rfl⟩ : ∃ j, m = j + 1 := ⟨m - 1, by omega⟩; simp only; rw [e, if_pos c1]; simp⟩
    · rw [decide_eq_true (show 0 ≤ (rd_T47 l n).f1 by omega)]
      by_cases c2 : (rd_T47 l n).f2 < (rd_T47 l n).f1
      · rw [decide_eq_false (show ¬ (rd_T47 l n).f1 ≤ (rd_T47 l n).f2 by omega)]
        exact ⟨1, fun m hm => by obtain ⟨k, rfl⟩ : ∃ j, m = j + 1 := ⟨m - 1, by omega⟩; simp only; rw [e, if_neg c1, if_pos c2]; simp⟩
      · rw [decide_eq_true (show (rd_T47 l n).f1 ≤ (rd_T47 l n).f2 by omega)]
        by_cases c3 : (rd_T47 l n).f2 > q
        · rw [decide_eq_false (show ¬ (rd_T47 l n).f2 ≤ q by omega)]
          exact ⟨1, fun m hm => by obtain ⟨k, rfl⟩ : ∃ j, m = j + 1 := ⟨m - 1, by omega⟩; simp only; rw [e, if_neg c1, if_neg c2, if_pos c3]; simp⟩
        · rw [decide_eq_true (show (rd_T47 l n).f2 ≤ q by omega)]
          refine Ev.step (f := fun k => (kids.f k l n).bind fun r => (if (vfold l (rd_T47 l n) r.1).1 = true then tree_Valid.l0 k l q (n + 1) else some false)) (fun k => by rw [e, if_neg c1, if_neg c2, if_neg c3]) ?_
          refine k1.bind ?_
          by_cases c4 : (vfold l (rd_T47 l n) (kspec l n).1).1 = true
          · simp only [if_pos c4]
            rw [c4]
            simpa using ih
          · simp only [if_neg c4]
            rw [show (vfold l (rd_T47 l n) (kspec l n).1).1 = false by simpa using c4]
            simpa using Ev.now false
theorem Valid_is (l : List S47) (hl : l.length ≤ 4398046511104) (q : Int) : Ev (fun k => tree_Valid.f k l q) (validB l q) := by
  unfold tree_Valid.f validB
  refine (shaped_is l hl).bind ?_
  by_cases h : shapedB l = true
  · simp only [if_pos h]
    have h2 := h
    unfold shapedB at h2
    simp only [Bool.and_eq_true, decide_eq_true_eq] at h2
    rw [h, Bool.true_and, ← all_eq l q (fun m h3 h4 => allG_at l l.length 0 h2.2.2 m h3 (by omega))]
    exact valid_loop l hl q l.length 0 (by omega) (by omega)
  · simp only [if_neg h]
    rw [show shapedB l = false by simpa using h]
    exact Ev.now _

theorem rvalid_in (l : List S47) (q n : Int) (nd : S47) (ks : List Int) (hk : ks.length ≤ 4398046511104) (hm : ∀ y ∈ ks, 0 ≤ y ∧ y < (l.length : Int)) (r : Bool) (hr : Ev (fun k => monikerref4_Valid.l0 k q (wrap64 (n + 1)) l) r) (d : Nat) : ∀ (i : Nat) (en : Int), i ≤ ks.length → ks.length - i = d →
    Ev (fun k => monikerref4_Valid.l1 k q n ks en (i : Int) l nd.f0 nd.f1 nd.f2 nd.f3) (rf l nd (ks.drop i) en && r) := by
  induction d with
  | zero =>
    intro i en h1 h2
    rw [List.drop_eq_nil_of_le (by omega)]
    simp only [rf, Bool.true_and]
    refine Ev.step (fun k => ?_) hr
    simp only [monikerref4_Valid.l1]
    rw [if_neg (by omega)]
  | succ d ih =>
    intro i en h1 h2
    have hi : i < ks.length := by omega
    have hw : wrap64 ((i : Int) + 1) = ((i + 1 : Nat) : Int) := kw64 (by omega) (by omega)
    have hrd : rd ks (i : Int) = ks[i] := by simp [rd, List.getD_eq_getElem?_getD, hi]
    have hmi := hm _ (List.getElem_mem hi)
    have e : ∀ k, monikerref4_Valid.l1 (k + 1) q n ks en (i : Int) l nd.f0 nd.f1 nd.f2 nd.f3 = if (rd_T47 l ks[i]).f1 = (rd_T47 l ks[i]).f2 then (if (rd_T47 l ks[i]).f1 < nd.f1 then some false else monikerref4_Valid.l1 k q n ks en ((i + 1 : Nat) : Int) l nd.f0 nd.f1 nd.f2 nd.f3) else (if (rd_T47 l ks[i]).f1 < en then some false else if (rd_T47 l ks[i]).f2 > nd.f2 then some false else monikerref4_Valid.l1 k q n ks (rd_T47 l ks[i]).f2 ((i + 1 : Nat) : Int) l nd.f0 nd.f1 nd.f2 nd.f3) := by
      intro k
      simp only [monikerref4_Valid.l1, hrd, hw]
      rw [if_pos (by omega), if_pos (by omega), if_pos hmi.1, if_pos hmi.2]
    rw [List.drop_eq_getElem_cons hi]
    simp only [rf]
    by_cases c : (rd_T47 l ks[i]).f1 = (rd_T47 l ks[i]).f2
    · rw [if_pos c]
      by_cases c2 : (rd_T47 l ks[i]).f1 < nd.f1
      · rw [if_pos c2, Bool.false_and]
        exact ⟨1, fun m hm => by obtain ⟨k, rfl⟩ : ∃ j, m = j + 1 := ⟨m - 1, by omega⟩; simp only; rw [e, if_pos c, if_pos c2]⟩
      · rw [if_neg c2]
        refine Ev.step (fun k => ?_) (ih (i + 1) en (by omega) (by omega))
        rw [e, if_pos c, if_neg c2]
    · rw [if_neg c]
      by_cases c2 : (rd_T47 l ks[i]).f1 < en
      · rw [if_pos c2, Bool.false_and]
        exact ⟨1, fun m hm => by obtain ⟨k, rfl⟩ : ∃ j, m = j + 1 := ⟨m - 1, by omega⟩; simp only; rw [e, if_neg c, if_pos c2]⟩
      · rw [if_neg c2]
        by_cases c3 : (rd_T47 l ks[i]).f2 > nd.f2
        · rw [if_pos c3, Bool.false_and]
          exact ⟨1, fun m hm => by obtain ⟨k, rfl⟩ : ∃ j, m = j + 1 := ⟨m - 1, by omega⟩; simp only; rw [e, if_neg c, if_neg c2, if_pos c3]⟩
        · rw [if_neg c3]
          refine Ev.step (fun k => ?_) (ih (i + 1) _ (by omega) (by omega))
          rw [e, if_neg c, if_neg c2, if_neg c3]
theorem kidsOf_mem (l : List S47) (n : Int) : ∀ y ∈ kidsOf l n, 0 ≤ y ∧ y < (l.length : Int) := by
  unfold kidsOf
  split
  · exact kspec_mem l n
  · intro y hy; cases hy
theorem rvalid_loop (l : List S47) (hl : l.length ≤ 4398046511104) (q : Int) : ∀ (f : Nat) (n : Int), (l.length : Int) - n = f → 0 ≤ n → Ev (fun k => monikerref4_Valid.l0 k q n l) (allR l q f n)
  | 0, n, hf, h0 => by
    refine ⟨1, fun m hm => ?_⟩
    obtain ⟨k, rfl⟩ : ∃ j, m = j + 1 := ⟨m - 1, by omega⟩
    simp only [monikerref4_Valid.l0, allR]
    rw [if_neg (by omega)]
  | f + 1, n, hf, h0 => by
    have hlt : n < (l.length : Int) := by omega
    have ih := rvalid_loop l hl q f (n + 1) (by omega) (by omega)
    have hw1 : wrap64 (n + 1) = n + 1 := kw64 (by omega) (by omega)
    obtain ⟨_, k2, k3⟩ := Kids_all l hl n
    have hkl : (kidsOf l n).length ≤ 4398046511104 := by unfold kidsOf; split; omega; simp
    simp only [allR]
    unfold okS
    have hbad : Ev (fun k => monikerref4_Valid.j1 k q n true l (rd_T47 l n).f0 (rd_T47 l n).f1 (rd_T47 l n).f2 (rd_T47 l n).f3) false := ⟨1, fun m hm => by
      obtain ⟨k, rfl⟩ : ∃ j, m = j + 1 := ⟨m - 1, by omega⟩
      simp only [monikerref4_Valid.j1]; rfl⟩
    by_cases c1 : (rd_T47 l n).f1 < 0
    · rw [decide_eq_false (show ¬ 0 ≤ (rd_T47 l n).f1 by omega), Bool.false_and, Bool.false_and]
      refine Ev.step (fun k => ?_) hbad
      simp only [monikerref4_Valid.l0]
      rw [if_pos hlt, if_pos h0, if_pos c1]
    · rw [decide_eq_true (show 0 ≤ (rd_T47 l n).f1 by omega), Bool.true_and]
      by_cases c2 : (rd_T47 l n).f2 < (rd_T47 l n).f1
      · rw [decide_eq_false (show ¬ (rd_T47 l n).f1 ≤ (rd_T47 l n).f2 by omega), Bool.false_and, Bool.false_and]
        refine Ev.step (fun k => ?_) hbad
        simp only [monikerref4_Valid.l0]
        rw [if_pos hlt, if_pos h0, if_neg c1, if_pos c2]
      · rw [decide_eq_true (show (rd_T47 l n).f1 ≤ (rd_T47 l n).f2 by omega), Bool.true_and]
        by_cases c3 : (rd_T47 l n).f2 > q
        · rw [decide_eq_false (show ¬ (rd_T47 l n).f2 ≤ q by omega), Bool.false_and]
          refine Ev.step (fun k => ?_) hbad
          simp only [monikerref4_Valid.l0]
          rw [if_pos hlt, if_pos h0, if_neg c1, if_neg c2, decide_eq_true c3]
        · rw [decide_eq_true (show (rd_T47 l n).f2 ≤ q by omega), Bool.true_and]
          refine Ev.step (f := fun k => monikerref4_Valid.j1 k q n false l (rd_T47 l n).f0 (rd_T47 l n).f1 (rd_T47 l n).f2 (rd_T47 l n).f3) (fun k => by
            simp only [monikerref4_Valid.l0]
            rw [if_pos hlt, if_pos h0, if_neg c1, if_neg c2, decide_eq_false c3]) ?_
          refine Ev.step (f := fun k => (monikerref4_Kids.f k l n).bind fun bt301 => (monikerref4_Valid.l1 k q n bt301.1 (rd_T47 l n).f1 0 l (rd_T47 l n).f0 (rd_T47 l n).f1 (rd_T47 l n).f2 (rd_T47 l n).f3)) (fun k => by
            simp only [monikerref4_Valid.j1]
            rw [if_neg (by simp)]) ?_
          refine k3.bind ?_
          have := rvalid_in l q n (rd_T47 l n) (kidsOf l n) hkl (kidsOf_mem l n) _ (by rw [hw1]; exact ih) _ 0 (rd_T47 l n).f1 (by omega) rfl
          simpa using this
theorem RValid_is (l : List S47) (hl : l.length ≤ 4398046511104) (hk : ∀ x ∈ l, 0 ≤ x.f0 ∧ x.f0 ≤ 255) (q : Int) : Ev (fun k => monikerref4_Valid.f k l q) (validB l q) := by
  unfold monikerref4_Valid.f validB
  refine (RShaped_is l hl hk).bind ?_
  by_cases h : shapedB l = true
  · simp only [if_pos h]
    rw [h, Bool.true_and]
    exact rvalid_loop l hl q l.length 0 (by omega) (by omega)
  · simp only [if_neg h]
    rw [show shapedB l = false by simpa using h]
    exact Ev.now _
end Go.Proofs.Ytodldpdnhcafpaa.Q

namespace Go.Proofs.Ytodldpdnhcafpaa.Q
open Go.RowKit Go.Proofs.YtodldpdnhcafpaaW.PrintWords Go.Proofs.YtodldpdnhcafpaaW.PrintLast Go.Proofs.YtodldpdnhcafpaaW.PrintMore
open Go.Proofs.Ytodldpdnhcafpaa.F Go.Proofs.Ytodldpdnhcafpaa.K
set_option linter.unusedSimpArgs false
set_option linter.unusedVariables false

/-! In a valid tree each place of the first node's run lies in the run of just one node without lying in a kid's. -/
section
variable (l : List S47) (i : Int)
/-- The kids from x on, where all are in order. -/
def kl (en : Int) : Nat → Int → List Int
  | 0, _ => []
  | d + 1, x => if x < en then x :: kl en d (x + (rd_T47 l x).f3) else []
end

theorem kgo_kl (l : List S47) (en : Int) : ∀ (d : Nat) (pre : List Int) (x : Int), ck l en d x = true → (kgo l en d pre x).1 = pre ++ kl l en d x
  | 0, pre, x, _ => by simp [kgo, kl]
  | d + 1, pre, x, h => by
    simp only [ck] at h
    simp only [kgo, kl]
    split
    · rename_i c
      rw [if_pos c] at h
      split
      · rename_i c1
        rw [if_pos c1] at h
        cases h
      · rename_i c1
        rw [if_neg c1] at h
        split
        · rename_i c2
          rw [if_pos c2] at h
          cases h
        · rename_i c2
          rw [if_neg c2] at h
          rw [kgo_kl l en d _ _ h, List.append_assoc]
          rfl
    · simp
end Go.Proofs.Ytodldpdnhcafpaa.Q

-- TreeFamily, plainly: Kids, Up and Walk of a list of nodes that is in order
namespace Go.Proofs.Ytodldpdnhcafpaa.Q
open Go.RowKit Go.Proofs.YtodldpdnhcafpaaW.PrintWords Go.Proofs.YtodldpdnhcafpaaW.PrintLast Go.Proofs.YtodldpdnhcafpaaW.PrintMore
open Go.Proofs.Ytodldpdnhcafpaa.F Go.Proofs.Ytodldpdnhcafpaa.K
set_option linter.unusedSimpArgs false
set_option linter.unusedVariables false

/-- Behind a node's last one. -/
def En (l : List S47) (n : Int) : Int := n + (rd_T47 l n).f3
/-- All nodes' kids are in order. -/
def Good (l : List S47) : Prop := ∀ m, 0 ≤ m → m < (l.length : Int) → (kspec l m).2 = true
theorem good_of {l : List S47} {q : Int} (h : validB l q = true) : Good l ∧ 0 < l.length ∧ (rd_T47 l 0).f3 = (l.length : Int) := by
  unfold validB shapedB at h
  simp only [Bool.and_eq_true, decide_eq_true_eq] at h
  obtain ⟨⟨h1, h2, h3⟩, _⟩ := h
  exact ⟨fun m h4 h5 => allG_at l l.length 0 h3 m h4 (by omega), h1, h2⟩
theorem good_at {l : List S47} (hg : Good l) {n : Int} (h0 : 0 ≤ n) (h1 : n < (l.length : Int)) : 1 ≤ (rd_T47 l n).f3 ∧ En l n ≤ (l.length : Int) ∧ C l (n + 1) (En l n) = true ∧ kidsOf l n = kl l (En l n) l.length (n + 1) := by
  have h := hg n h0 h1
  have h' := h
  rw [kspec_C, Bool.and_eq_true] at h
  obtain ⟨hs, hc⟩ := h
  have hs' := hs
  unfold sizedB at hs
  simp only [Bool.and_eq_true, decide_eq_true_eq] at hs
  refine ⟨hs.2.2.1, by unfold En; omega, hc, ?_⟩
  unfold kidsOf
  rw [if_pos h']
  unfold kspec
  rw [if_pos hs', kgo_kl l _ _ _ _ hc, List.nil_append]
  rfl
/-- The nodes within a node end within it. -/
theorem nest {l : List S47} (hg : Good l) : ∀ (f : Nat) (en x p : Int), 0 ≤ x → en ≤ (l.length : Int) → en - x ≤ f → ck l en f x = true → x ≤ p → p < en → En l p ≤ en
  | 0, en, x, p, h0, he, hf, h, h1, h2 => by omega
  | f + 1, en, x, p, h0, he, hf, h, h1, h2 => by
    simp only [ck] at h
    rw [if_pos (by omega)] at h
    split at h
    · cases h
    · rename_i c1
      split at h
      · cases h
      · rename_i c2
        by_cases c : p < x + (rd_T47 l x).f3
        · by_cases c3 : p = x
          · subst c3
            unfold En
            omega
          · obtain ⟨g1, g2, g3, _⟩ := good_at hg h0 (by omega)
            unfold C at g3
            rw [ck_fuel l _ l.length f (x + 1) (by unfold En at g2 ⊢; omega) (by unfold En; omega)] at g3
            have := nest hg f (En l x) (x + 1) p (by omega) g2 (by unfold En; omega) g3 (by omega) (by unfold En; omega)
            unfold En at this ⊢
            omega
        · exact nest hg f en (x + (rd_T47 l x).f3) p (by omega) he (by omega) h (by omega) h2
/-- Ahead of a kid all else within ends. -/
theorem kl_ahead {l : List S47} (hg : Good l) (k : Int) : ∀ (f : Nat) (en x p : Int), 0 ≤ x → en ≤ (l.length : Int) → en - x ≤ f → ck l en f x = true → k ∈ kl l en f x → x ≤ k ∧ k < en ∧ En l k ≤ en ∧ (x ≤ p → p < k → En l p ≤ k)
  | 0, en, x, p, h0, he, hf, h, hk => by cases hk
  | f + 1, en, x, p, h0, he, hf, h, hk => by
    simp only [kl] at hk
    by_cases c : x < en
    · rw [if_pos c] at hk
      have hc := h
      simp only [ck] at h
      rw [if_pos c] at h
      split at h
      · cases h
      · rename_i c1
        split at h
        · cases h
        · rename_i c2
          rcases List.mem_cons.1 hk with rfl | hk
          · exact ⟨Int.le_refl _, c, by unfold En; omega, fun _ _ => by omega⟩
          · obtain ⟨i1, i2, i3, i4⟩ := kl_ahead hg k f en (x + (rd_T47 l x).f3) p (by omega) he (by omega) h hk
            refine ⟨by omega, i2, i3, fun hx hp => ?_⟩
            by_cases c3 : p < x + (rd_T47 l x).f3
            · have hx1 : En l p ≤ En l x := by
                by_cases c4 : p = x
                · subst c4; exact Int.le_refl _
                · obtain ⟨g1, g2, g3, _⟩ := good_at hg h0 (by omega)
                  unfold C at g3
                  exact nest hg l.length (En l x) (x + 1) p (by omega) g2 (by omega) g3 (by omega) (by unfold En; omega)
              unfold En at hx1 ⊢
              omega
            · exact i4 (by omega) hp
    · rw [if_neg c] at hk
      cases hk
theorem kid_in {l : List S47} (hg : Good l) {n k : Int} (h0 : 0 ≤ n) (h1 : n < (l.length : Int)) (hk : k ∈ kidsOf l n) : n < k ∧ k < En l n ∧ En l k ≤ En l n ∧ ∀ p, n < p → p < k → En l p ≤ k := by
  obtain ⟨g1, g2, g3, g4⟩ := good_at hg h0 h1
  rw [g4] at hk
  unfold C at g3
  have h := fun p => kl_ahead hg k l.length (En l n) (n + 1) p (by omega) g2 (by omega) g3 hk
  exact ⟨by have := (h 0).1; omega, (h 0).2.1, (h 0).2.2.1, fun p hp hpk => (h p).2.2.2 (by omega) hpk⟩
/-- Up finds the node whose kid it is. -/
theorem up_kid {l : List S47} (hg : Good l) {n k : Int} (h0 : 0 ≤ n) (h1 : n < (l.length : Int)) (hk : k ∈ kidsOf l n) : upOf l k = n := by
  obtain ⟨a1, a2, a3, a4⟩ := kid_in hg h0 h1 hk
  obtain ⟨_, g2, _, _⟩ := good_at hg h0 h1
  have hne : ∀ p : Int, n < p → p < k → (rd_T47 l p).f3 ≤ k - p := fun p hp hpk => by
    have := a4 p hp hpk
    unfold En at this
    omega
  have hm : metOf k (kidsOf l n) = true := by
    unfold metOf
    exact List.any_eq_true.2 ⟨k, hk, decide_eq_true rfl⟩
  have go : ∀ d : Nat, n < (d : Int) → (d : Int) ≤ k → upGo l k d = n := by
    intro d
    induction d with
    | zero => intro h _; omega
    | succ d ih =>
      intro hd hdk
      simp only [upGo]
      by_cases c : (d : Int) = n
      · have hs : ¬ (rd_T47 l (d : Int)).f3 ≤ k - (d : Int) := by
          rw [c]
          unfold En at a2
          omega
        rw [if_neg hs, c, if_pos hm]
      · rw [if_pos (hne d (by omega) (by omega))]
        exact ih (by omega) (by omega)
  unfold upOf
  rw [if_neg (by omega), if_neg (by omega)]
  exact go k.toNat (by omega) (by omega)
theorem up_zero (l : List S47) : upOf l 0 = -1 := by
  unfold upOf
  rw [if_neg (by omega)]
  split
  · rfl
  · rfl
/-- How many kids the nodes have, one behind the other. -/
def sumK (l : List S47) : Nat → Int → Nat
  | 0, _ => 0
  | f + 1, n => (kidsOf l n).length + sumK l f (n + 1)
theorem sumK_add (l : List S47) : ∀ (a b : Nat) (n : Int), sumK l (a + b) n = sumK l a n + sumK l b (n + a)
  | 0, b, n => by simp [sumK]
  | a + 1, b, n => by
    rw [show a + 1 + b = (a + b) + 1 by omega]
    simp only [sumK]
    rw [sumK_add l a b (n + 1), show n + 1 + (a : Int) = n + ((a + 1 : Nat) : Int) by omega]
    omega
theorem chain_kids (l : List S47) (lo en : Int) (hen : en ≤ (l.length : Int)) (hT : ∀ m, lo ≤ m → m < (l.length : Int) → (sumK l (rd_T47 l m).f3.toNat m : Int) = (rd_T47 l m).f3 - 1) : ∀ (d : Nat) (x : Int), lo ≤ x → 0 ≤ x → x ≤ en → en - x ≤ d → ck l en d x = true →
    (sumK l (en - x).toNat x : Int) = (en - x) - (kl l en d x).length
  | 0, x, _, h0, hx, hd, _ => by
    rw [show (en - x).toNat = 0 by omega]
    simp only [sumK, kl, List.length_nil]
    omega
  | d + 1, x, hl, h0, hx, hd, h => by
    simp only [ck] at h
    simp only [kl]
    by_cases c : x < en
    · rw [if_pos c] at h ⊢
      split at h
      · cases h
      · rename_i c1
        split at h
        · cases h
        · rename_i c2
          have ih := chain_kids l lo en hen hT d (x + (rd_T47 l x).f3) (by omega) (by omega) (by omega) (by omega) h
          have e : (en - x).toNat = (rd_T47 l x).f3.toNat + (en - (x + (rd_T47 l x).f3)).toNat := by omega
          have hx' := hT x hl (by omega)
          rw [e, sumK_add]
          have e2 : x + (((rd_T47 l x).f3.toNat : Nat) : Int) = x + (rd_T47 l x).f3 := by omega
          rw [e2]
          simp only [List.length_cons]
          omega
    · rw [if_neg c]
      rw [show (en - x).toNat = 0 by omega]
      simp only [sumK, List.length_nil]
      omega
theorem subtree_kids {l : List S47} (hg : Good l) : ∀ (f : Nat) (n : Int), (l.length : Int) - n ≤ f → 0 ≤ n → ∀ m, n ≤ m → m < (l.length : Int) → (sumK l (rd_T47 l m).f3.toNat m : Int) = (rd_T47 l m).f3 - 1
  | 0, n, hf, h0, m, h1, h2 => by omega
  | f + 1, n, hf, h0, m, h1, h2 => by
    by_cases c : m = n
    · subst c
      have ih := subtree_kids hg f (m + 1) (by omega) (by omega)
      obtain ⟨g1, g2, g3, g4⟩ := good_at hg h0 h2
      unfold C at g3
      have hch := chain_kids l (m + 1) (En l m) g2 (fun k hk1 hk2 => ih k hk1 hk2) l.length (m + 1) (Int.le_refl _) (by omega) (by unfold En; omega) (by omega) g3
      rw [← g4] at hch
      have e : (rd_T47 l m).f3.toNat = (En l m - (m + 1)).toNat + 1 := by unfold En; omega
      rw [e]
      simp only [sumK]
      have e3 : En l m = m + (rd_T47 l m).f3 := rfl
      omega
    · exact subtree_kids hg f (n + 1) (by omega) (by omega) m (by omega) h2
/-- Each node but the first is a kid. -/
theorem sumK_all {l : List S47} (hg : Good l) (h0 : 0 < l.length) (hz : (rd_T47 l 0).f3 = (l.length : Int)) : (sumK l l.length 0 : Int) = (l.length : Int) - 1 := by
  have h := subtree_kids hg l.length 0 (by omega) (by omega) 0 (Int.le_refl _) (by omega)
  rw [hz] at h
  simpa using h
/-- The kids from x on: none, or x and those behind it. -/
theorem kl_head (l : List S47) (en x : Int) (f : Nat) (hf : en - x ≤ f) : (kl l en f x = [] ∧ en ≤ x) ∨ ∃ f', f = f' + 1 ∧ x < en ∧ kl l en f x = x :: kl l en f' (x + (rd_T47 l x).f3) := by
  cases f with
  | zero => exact .inl ⟨rfl, by omega⟩
  | succ f =>
    simp only [kl]
    by_cases c : x < en
    · rw [if_pos c]
      exact .inr ⟨f, rfl, c, rfl⟩
    · rw [if_neg c]
      exact .inl ⟨rfl, by omega⟩
/-- A Walk without a skip gives each number in turn. -/
theorem walk_plain (l : List S47) (en : Int) : ∀ (d : Nat) (x : Int), en - x ≤ d → ∀ i (h : i < (walkL l (fun _ => false) en d x).length), (walkL l (fun _ => false) en d x)[i] = x + (i : Int)
  | 0, x, _, i, h => by simp [walkL] at h
  | d + 1, x, hd, i, h => by
    by_cases c : x < en
    · have e : walkL l (fun _ => false) en (d + 1) x = x :: walkL l (fun _ => false) en d (x + 1) := by
        simp only [walkL]
        rw [if_pos c, if_neg (by simp)]
      simp only [e] at h ⊢
      cases i with
      | zero => simp
      | succ i =>
        simp only [List.getElem_cons_succ]
        rw [walk_plain l en d (x + 1) (by omega) i (by simpa using h)]
        omega
    · have e : walkL l (fun _ => false) en (d + 1) x = [] := by
        simp only [walkL]
        rw [if_neg c]
      simp [e] at h
theorem walk_plain_len (l : List S47) (en : Int) : ∀ (d : Nat) (x : Int), x ≤ en → en - x ≤ d → ((walkL l (fun _ => false) en d x).length : Int) = en - x
  | 0, x, h1, h2 => by simp only [walkL, List.length_nil]; omega
  | d + 1, x, h1, h2 => by
    by_cases c : x < en
    · have e : walkL l (fun _ => false) en (d + 1) x = x :: walkL l (fun _ => false) en d (x + 1) := by
        simp only [walkL]
        rw [if_pos c, if_neg (by simp)]
      rw [e, List.length_cons]
      have := walk_plain_len l en d (x + 1) (by omega) (by omega)
      omega
    · have e : walkL l (fun _ => false) en (d + 1) x = [] := by
        simp only [walkL]
        rw [if_neg c]
      rw [e, List.length_nil]
      omega
/-- What a Walk with a skip gives from x on rises from x. -/
theorem walkL_ge {l : List S47} (sk : Int → Bool) (en : Int) : ∀ (d : Nat) (x : Int), ∀ y ∈ walkL l sk en d x, x ≤ y ∧ y < en
  | 0, x, y, hy => by cases hy
  | d + 1, x, y, hy => by
    simp only [walkL] at hy
    split at hy
    · rename_i c
      rcases List.mem_cons.1 hy with rfl | hy
      · exact ⟨Int.le_refl _, c⟩
      · split at hy
        · split at hy
          · cases hy
          · split at hy
            · cases hy
            · have := walkL_ge sk en d _ y hy
              omega
        · have := walkL_ge sk en d _ y hy
          omega
    · cases hy
theorem walkL_rises {l : List S47} (sk : Int → Bool) (en : Int) : ∀ (d : Nat) (x : Int), (walkL l sk en d x).Pairwise (· < ·)
  | 0, x => List.Pairwise.nil
  | d + 1, x => by
    simp only [walkL]
    split
    · refine List.pairwise_cons.2 ⟨fun y hy => ?_, ?_⟩
      · split at hy
        · split at hy
          · cases hy
          · split at hy
            · cases hy
            · have := walkL_ge sk en d _ y hy
              omega
        · have := walkL_ge sk en d _ y hy
          omega
      · split
        · split
          · exact List.Pairwise.nil
          · split
            · exact List.Pairwise.nil
            · exact walkL_rises sk en d _
        · exact walkL_rises sk en d _
    · exact List.Pairwise.nil
/-- Up to where all is left out, ahead of n. -/
def hidOf (l : List S47) (sk : Int → Bool) : Nat → Int
  | 0 => 0
  | n + 1 => if (n : Int) < hidOf l sk n then hidOf l sk n else if sk n = true then En l n else hidOf l sk n
theorem hid_le {l : List S47} (hg : Good l) (sk : Int → Bool) : ∀ n : Nat, n ≤ l.length → 0 ≤ hidOf l sk n ∧ hidOf l sk n ≤ (l.length : Int)
  | 0, _ => by simp only [hidOf]; omega
  | n + 1, h => by
    have ih := hid_le hg sk n (by omega)
    simp only [hidOf]
    split
    · exact ih
    · split
      · have := good_at hg (n := n) (by omega) (by omega)
        unfold En at this ⊢
        omega
      · exact ih
/-- A number is given where it is not left out. -/
theorem walk_hid {l : List S47} (hg : Good l) (h0 : 0 < l.length) (hz : (rd_T47 l 0).f3 = (l.length : Int)) (sk : Int → Bool) : ∀ n : Nat, n ≤ l.length →
    ∃ d : Nat, (l.length : Int) - (if (n : Int) < hidOf l sk n then hidOf l sk n else n) ≤ d ∧ ∀ y, (n : Int) ≤ y → (y ∈ walkOf l sk 0 ↔ y ∈ walkL l sk l.length d (if (n : Int) < hidOf l sk n then hidOf l sk n else n))
  | 0, _ => by
    refine ⟨l.length, by simp [hidOf], fun y hy => ?_⟩
    have hs : sizedB l 0 = true := by
      unfold sizedB
      rw [hz]
      simp
      omega
    unfold walkOf
    rw [if_pos hs, hz]
    simp [hidOf]
  | n + 1, h => by
    obtain ⟨d, hd, ih⟩ := walk_hid hg h0 hz sk n (by omega)
    have hle := hid_le hg sk n (by omega)
    by_cases c : (n : Int) < hidOf l sk n
    · have e : hidOf l sk (n + 1) = hidOf l sk n := by simp only [hidOf]; rw [if_pos c]
      rw [if_pos c] at hd ih
      rw [e]
      by_cases c2 : ((n + 1 : Nat) : Int) < hidOf l sk n
      · rw [if_pos c2]
        exact ⟨d, hd, fun y hy => ih y (by omega)⟩
      · rw [if_neg c2, show ((n + 1 : Nat) : Int) = hidOf l sk n by omega]
        exact ⟨d, hd, fun y hy => ih y (by omega)⟩
    · rw [if_neg c] at hd ih
      obtain ⟨d, rfl⟩ : ∃ e, d = e + 1 := ⟨d - 1, by omega⟩
      obtain ⟨g1, g2, _, _⟩ := good_at hg (n := (n : Int)) (by omega) (by omega)
      unfold En at g2
      simp only [walkL] at ih
      by_cases c3 : sk n = true
      · have e : hidOf l sk (n + 1) = En l n := by simp only [hidOf]; rw [if_neg c, if_pos c3]
        have e2 : (if ((n + 1 : Nat) : Int) < En l n then En l n else ((n + 1 : Nat) : Int)) = (n : Int) + (rd_T47 l n).f3 := by unfold En; split <;> omega
        rw [e, e2]
        refine ⟨d, by omega, fun y hy => ?_⟩
        have := ih y (by omega)
        rw [if_pos (by omega), if_pos c3, if_neg (by omega), if_neg (by omega)] at this
        rw [this, List.mem_cons]
        exact ⟨fun h => h.resolve_left (by omega), .inr⟩
      · have e : hidOf l sk (n + 1) = hidOf l sk n := by simp only [hidOf]; rw [if_neg c, if_neg c3]
        rw [e, if_neg (by omega)]
        refine ⟨d, by omega, fun y hy => ?_⟩
        have := ih y (by omega)
        rw [if_pos (by omega), if_neg c3] at this
        rw [this, List.mem_cons, show ((n + 1 : Nat) : Int) = (n : Int) + 1 by omega]
        exact ⟨fun h => h.resolve_left (by omega), .inr⟩
theorem walk_given {l : List S47} (hg : Good l) (h0 : 0 < l.length) (hz : (rd_T47 l 0).f3 = (l.length : Int)) (sk : Int → Bool) (n : Nat) (hn : n < l.length) : (n : Int) ∈ walkOf l sk 0 ↔ ¬ (n : Int) < hidOf l sk n := by
  obtain ⟨d, hd, ih⟩ := walk_hid hg h0 hz sk n (by omega)
  rw [ih n (Int.le_refl _)]
  by_cases c : (n : Int) < hidOf l sk n
  · rw [if_pos c]
    refine ⟨fun h => ?_, fun h => absurd c h⟩
    have := (walkL_ge sk _ d _ _ h).1
    omega
  · rw [if_neg c] at hd ⊢
    refine ⟨fun _ => c, fun _ => ?_⟩
    obtain ⟨d, rfl⟩ : ∃ e, d = e + 1 := ⟨d - 1, by omega⟩
    simp only [walkL]
    rw [if_pos (by omega)]
    exact List.mem_cons_self
end Go.Proofs.Ytodldpdnhcafpaa.Q

namespace Go.Proofs.Ytodldpdnhcafpaa.O
open Go.ChangeShapes Go.WideShapes Go.Deep Go.Proofs.YtodldpdnhcafpaaW.PrintWords

/-- What a value of type t that came in is, as a Lean value of kind d; and what is known of it. -/
def Opens {α : Type} (P : Program) (t : TypeId) (d : Kd α) (B : α → Prop) : Prop :=
  ∀ {H : Type} {enc : TypeId × Value → H} {w : World} {base : Nat} {spare : Nat → Bool} {held : Bool} {fuel : Nat} {cs : List Value} {x : DataW H × List MemPlace},
    DataW.trod enc P w base spare held fuel t cs = some x → (∀ n ∈ x.1.weights P t, n ≤ reachBytes) → ∃ a, d.K w a cs ∧ B a

theorem Opens.imp {α : Type} {P : Program} {t : TypeId} {d : Kd α} {B B' : α → Prop} (h : Opens P t d B) (hb : ∀ a, B a → B' a) : Opens P t d B' := fun h1 h2 => by
  obtain ⟨a, h3, h4⟩ := h h1 h2
  exact ⟨a, h3, hb a h4⟩
theorem opens_int {P : Program} {t : TypeId} {k : IntKind} (hu : P.underlying t = some (.int k)) : Opens P t (Kd.int k) (fun n => (Lit.int k n).wf = true) := fun h _ => by
  obtain ⟨n, rfl, rfl, hw⟩ := DataW.trod_int hu h
  exact ⟨n, rfl, hw⟩
theorem opens_string {P : Program} {t : TypeId} (hu : P.underlying t = some .string) : Opens P t Kd.string (fun s => s.size ≤ 140737488351232) := fun h hw => by
  obtain ⟨s, rfl, rfl, _⟩ := DataW.trod_string hu h
  refine ⟨s, rfl, ?_⟩
  have := hw s.data.toList.length (by simp [DataW.weights])
  rw [Array.length_toList] at this
  exact this

theorem mem_weightsAll {H : Type} {P : Program} {e : TypeId} : ∀ {l : List (DataW H)} {y : DataW H}, y ∈ l → ∀ n ∈ y.weights P e, n ∈ DataW.weightsAll P e l
  | y0 :: l, y, h, n, hn => by
    simp only [DataW.weightsAll, List.mem_append]
    rcases List.mem_cons.1 h with rfl | h
    · exact .inl hn
    · exact .inr (mem_weightsAll h n hn)

/-- A slice that came in, its address and capacity told. -/
theorem open_row {α : Type} {P : Program} {t e : TypeId} {d : Kd α} {B : α → Prop} (hu : P.underlying t = some (.slice e)) (he : Opens P e d B) (hc : P.cellsOf e = d.sz)
    {H : Type} {enc : TypeId × Value → H} {w : World} {base : Nat} {spare : Nat → Bool} {held : Bool} {fuel : Nat} {A : Option Addr} {n c : Nat} {x : DataW H × List MemPlace}
    (h : DataW.trod enc P w base spare held fuel t [.slice A n c] = some x) (hw : ∀ n ∈ x.1.weights P t, n ≤ reachBytes) :
    ∃ xs : List α, xs.length = n ∧ d.C w A n xs ∧ n ≤ c ∧ (A = none → c = 0) ∧ (∀ a ∈ xs, B a) ∧ n * P.bytesOf e ≤ 140737488351232 := by
  rcases open_slice hu h with ⟨hcs, rfl⟩ | ⟨a, len, cap, m, fu, D, Pl, hcs, hb, hl, hm, hmm, rfl, hel⟩
  · simp only [List.cons.injEq, Value.slice.injEq, and_true] at hcs
    obtain ⟨rfl, rfl, rfl⟩ := hcs
    exact ⟨[], rfl, ⟨rfl, by omega, fun h0 => absurd h0 (by omega)⟩, by omega, fun _ => rfl, (fun a ha => by cases ha), by omega⟩
  · simp only [List.cons.injEq, Value.slice.injEq, and_true] at hcs
    obtain ⟨rfl, rfl, rfl⟩ := hcs
    have hlm : n ≤ m := by rw [hmm]; split <;> omega
    have hex : ∀ i, i < n → ∃ v : α, (∃ cs, d.K w v cs ∧ ∀ j u, cs[j]? = some u → w.cell? (a.add (i * d.sz + j)) = some u) ∧ B v := by
      intro i hi
      obtain ⟨cs', hc1, hc2⟩ := hel i (by omega)
      have hmem : D i ∈ (List.range n).map D := List.mem_map.2 ⟨i, List.mem_range.2 hi, rfl⟩
      obtain ⟨v, hv, hB⟩ := he hc2 (fun q hq => hw q (by
        simp only [DataW.weights, hu, List.mem_cons, List.mem_append]
        exact .inr (.inl (mem_weightsAll hmem q hq))))
      refine ⟨v, ⟨cs', hv, fun j u hj => ?_⟩, hB⟩
      obtain ⟨_, hcl, hat⟩ := World.cells?_some hc1
      have hjl : j < cs'.length := (List.getElem?_eq_some_iff.1 hj).1
      have := hat j (by omega)
      rw [hc] at this
      rw [← Go.Deep.add_add, this, hj]
    have key : ∀ k, k ≤ n → ∃ xs : List α, xs.length = k ∧ (∀ j p, xs[j]? = some p → (∃ cs, cs.length = d.sz ∧ d.K w p cs ∧ ∀ i u, cs[i]? = some u → w.cell? (a.add (j * d.sz + i)) = some u) ∧ B p) := by
      intro k
      induction k with
      | zero => intro _; exact ⟨[], rfl, fun j p hj => by simp at hj⟩
      | succ k ih =>
        intro hk
        obtain ⟨xs, hx, hxs⟩ := ih (by omega)
        obtain ⟨v, ⟨cs, hv, hcell⟩, hB⟩ := hex k (by omega)
        refine ⟨xs ++ [v], by simp [hx], fun j p hj => ?_⟩
        rcases Nat.lt_or_ge j k with hjk | hjk
        · rw [List.getElem?_append_left (by omega)] at hj
          exact hxs j p hj
        · have hjl := (List.getElem?_eq_some_iff.1 hj).1
          rw [List.length_append, List.length_singleton] at hjl
          obtain rfl : j = k := by omega
          have hp : v = p := by simpa [List.getElem?_append_right, hx] using hj
          subst hp
          exact ⟨⟨cs, d.K_len hv, hv, hcell⟩, hB⟩
    obtain ⟨xs, hx, hxs⟩ := key n (Nat.le_refl _)
    refine ⟨xs, hx, ⟨hx, by have : maxLen = 9223372036854775807 := rfl; omega, fun _ => ⟨a, rfl, fun j p hj => (hxs j p hj).1⟩⟩, hl, (fun h => by cases h), fun v hv => ?_, ?_⟩
    · obtain ⟨j, hj, rfl⟩ := List.mem_iff_getElem.1 hv
      exact (hxs j _ (List.getElem?_eq_getElem hj)).2
    · have := hw ((((List.range n).map D).length + ((List.range (m - n)).map fun j => D (n + j)).length) * P.bytesOf e) (by
        simp only [DataW.weights, hu]
        exact List.mem_cons_self)
      simp only [List.length_map, List.length_range] at this
      have h2 : n * P.bytesOf e ≤ (n + (m - n)) * P.bytesOf e := Nat.mul_le_mul_right _ (by omega)
      have h3 : reachBytes = 140737488351232 := rfl
      omega

end Go.Proofs.Ytodldpdnhcafpaa.O

namespace Go.Proofs.Ytodldpdnhcafpaa.H
open Go.ChangeShapes Go.WideShapes Go.Deep Go.Proofs.YtodldpdnhcafpaaW.PrintWords Go.Proofs.Ytodldpdnhcafpaa.F

theorem cells3 : Try.prog.cellsOf 3 = 1 := by kernel_rfl
theorem cells9 : Try.prog.cellsOf 9 = 1 := by kernel_rfl
theorem cells22 : Try.prog.cellsOf 22 = 1 := by kernel_rfl
theorem cells23 : Try.prog.cellsOf 23 = 1 := by kernel_rfl
theorem cells25 : Try.prog.cellsOf 25 = 1 := by kernel_rfl
theorem cells27 : Try.prog.cellsOf 27 = 3 := by kernel_rfl
theorem cells45 : Try.prog.cellsOf 45 = 1 := by kernel_rfl
theorem cells59 : Try.prog.cellsOf 59 = 1 := by kernel_rfl
theorem bytes61 : Try.prog.bytesOf 61 = 24 := by kernel_rfl
theorem bytes47 : Try.prog.bytesOf 47 = 32 := by kernel_rfl
def B61 (x : S61) : Prop := (Lit.int .u8 x.f0).wf = true ∧ (Lit.int .i64 x.f1).wf = true ∧ (Lit.int .i64 x.f2).wf = true
theorem cells61 : Try.prog.cellsOf 61 = 3 := by kernel_rfl
theorem opens61 : O.Opens Try.prog 61 k61 B61 := by
  intro H enc w base spare held fuel cs x h hw
  obtain ⟨ys, n, rfl, rfl, hlen, hyl, hf⟩ := DataW.trod_struct Try.underlying61 h
  rw [cells61] at hlen
  obtain ⟨c0, c1, c2, rfl⟩ : ∃ c0 c1 c2, cs = [c0, c1, c2] := by
    match cs, hlen with
    | [c0, c1, c2], _ => exact ⟨c0, c1, c2, rfl⟩
  obtain ⟨y0, y1, y2, rfl⟩ : ∃ y0 y1 y2, ys = [y0, y1, y2] := by
    match ys, hyl with
    | [y0, y1, y2], _ => exact ⟨y0, y1, y2, rfl⟩
  have f0 := hf 0 { name := "Kind", type := 59, offset := 0, embedded := false, tag := "", pkgPath := "", byteOffset := 0 } rfl
  have f1 := hf 1 { name := "From", type := 3, offset := 1, embedded := false, tag := "", pkgPath := "", byteOffset := 8 } rfl
  have f2 := hf 2 { name := "To", type := 3, offset := 2, embedded := false, tag := "", pkgPath := "", byteOffset := 16 } rfl
  simp only [cells3, cells59, List.drop_zero, List.drop_succ_cons, List.take_succ_cons, List.take_zero, List.getElem?_cons_zero, List.getElem?_cons_succ] at f0 f1 f2
  have hq : ∀ (j : Nat) (t : TypeId) (d : DataW H), [59, 3, 3][j]? = some t → [y0.1, y1.1, y2.1][j]? = some d → ∀ n ∈ d.weights Try.prog t, n ≤ reachBytes := by
    intro j t d h1 h2 q hq
    refine hw q ?_
    simp only [DataW.weights, Try.underlying61]
    exact DataW.weights_mem_each (j := j) h1 h2 q hq
  obtain ⟨a0, e0, w0⟩ := O.opens_int Try.underlying59 f0 (hq 0 _ _ rfl rfl)
  obtain rfl : c0 = .int .u8 a0 := (List.cons.inj e0).1
  obtain ⟨a1, e1, w1⟩ := O.opens_int Try.underlying3 f1 (hq 1 _ _ rfl rfl)
  obtain rfl : c1 = .int .i64 a1 := (List.cons.inj e1).1
  obtain ⟨a2, e2, w2⟩ := O.opens_int Try.underlying3 f2 (hq 2 _ _ rfl rfl)
  obtain rfl : c2 = .int .i64 a2 := (List.cons.inj e2).1
  exact ⟨⟨a0, a1, a2⟩, k61_mk w _, w0, w1, w2⟩
def B47 (x : S47) : Prop := (Lit.int .u8 x.f0).wf = true ∧ (Lit.int .i64 x.f1).wf = true ∧ (Lit.int .i64 x.f2).wf = true ∧ (Lit.int .i64 x.f3).wf = true
theorem cells47 : Try.prog.cellsOf 47 = 4 := by kernel_rfl
theorem opens47 : O.Opens Try.prog 47 k47 B47 := by
  intro H enc w base spare held fuel cs x h hw
  obtain ⟨ys, n, rfl, rfl, hlen, hyl, hf⟩ := DataW.trod_struct Try.underlying47 h
  rw [cells47] at hlen
  obtain ⟨c0, c1, c2, c3, rfl⟩ : ∃ c0 c1 c2 c3, cs = [c0, c1, c2, c3] := by
    match cs, hlen with
    | [c0, c1, c2, c3], _ => exact ⟨c0, c1, c2, c3, rfl⟩
  obtain ⟨y0, y1, y2, y3, rfl⟩ : ∃ y0 y1 y2 y3, ys = [y0, y1, y2, y3] := by
    match ys, hyl with
    | [y0, y1, y2, y3], _ => exact ⟨y0, y1, y2, y3, rfl⟩
  have f0 := hf 0 { name := "Kind", type := 45, offset := 0, embedded := false, tag := "", pkgPath := "", byteOffset := 0 } rfl
  have f1 := hf 1 { name := "First", type := 3, offset := 1, embedded := false, tag := "", pkgPath := "", byteOffset := 8 } rfl
  have f2 := hf 2 { name := "End", type := 3, offset := 2, embedded := false, tag := "", pkgPath := "", byteOffset := 16 } rfl
  have f3 := hf 3 { name := "Size", type := 3, offset := 3, embedded := false, tag := "", pkgPath := "", byteOffset := 24 } rfl
  simp only [cells3, cells45, List.drop_zero, List.drop_succ_cons, List.take_succ_cons, List.take_zero, List.getElem?_cons_zero, List.getElem?_cons_succ] at f0 f1 f2 f3
  have hq : ∀ (j : Nat) (t : TypeId) (d : DataW H), [45, 3, 3, 3][j]? = some t → [y0.1, y1.1, y2.1, y3.1][j]? = some d → ∀ n ∈ d.weights Try.prog t, n ≤ reachBytes := by
    intro j t d h1 h2 q hq
    refine hw q ?_
    simp only [DataW.weights, Try.underlying47]
    exact DataW.weights_mem_each (j := j) h1 h2 q hq
  obtain ⟨a0, e0, w0⟩ := O.opens_int Try.underlying45 f0 (hq 0 _ _ rfl rfl)
  obtain rfl : c0 = .int .u8 a0 := (List.cons.inj e0).1
  obtain ⟨a1, e1, w1⟩ := O.opens_int Try.underlying3 f1 (hq 1 _ _ rfl rfl)
  obtain rfl : c1 = .int .i64 a1 := (List.cons.inj e1).1
  obtain ⟨a2, e2, w2⟩ := O.opens_int Try.underlying3 f2 (hq 2 _ _ rfl rfl)
  obtain rfl : c2 = .int .i64 a2 := (List.cons.inj e2).1
  obtain ⟨a3, e3, w3⟩ := O.opens_int Try.underlying3 f3 (hq 3 _ _ rfl rfl)
  obtain rfl : c3 = .int .i64 a3 := (List.cons.inj e3).1
  exact ⟨⟨a0, a1, a2, a3⟩, k47_mk w _, w0, w1, w2, w3⟩

theorem slice_cells {P : Program} {t e : TypeId} (hu : P.underlying t = some (.slice e)) {H : Type} {enc : TypeId × Value → H} {w : World} {base : Nat} {spare : Nat → Bool} {held : Bool} {fuel : Nat} {cs : List Value} {x : DataW H × List MemPlace}
    (h : DataW.trod enc P w base spare held fuel t cs = some x) : ∃ A n c, cs = [.slice A n c] := by
  rcases open_slice hu h with ⟨hcs, _⟩ | ⟨a, len, cap, m, fu, D, Pl, hcs, _⟩
  · exact ⟨_, _, _, hcs⟩
  · exact ⟨_, _, _, hcs⟩

/-- A Forest that came in. -/
theorem open27 {H : Type} {enc : TypeId × Value → H} {W : World} {base b0 : Nat} {r : Reach} {spare : Nat → Bool} {held : Bool} {v : Value} {d : DataW H} {p : List MemPlace} (hv : Value.okWide Try.prog W r b0 27 v) (h : DataW.Trod enc Try.prog W base spare held 27 v d p) (hw : ∀ n ∈ d.weights Try.prog 27, n ≤ reachBytes) :
    ∃ (t : ByteArray) (A1 : Option Addr) (c1 : Nat) (ps : List S61) (A2 : Option Addr) (c2 : Nat) (ns : List S47), v = .agg #[.string t, .slice A1 ps.length c1, .slice A2 ns.length c2] ∧ t.size ≤ 140737488351232 ∧
      Kd.C k61 W A1 ps.length ps ∧ ps.length ≤ c1 ∧ (A1 = none → c1 = 0) ∧ (∀ x ∈ ps, B61 x) ∧ ps.length * 24 ≤ 140737488351232 ∧ Kd.C k47 W A2 ns.length ns ∧ ns.length ≤ c2 ∧ (A2 = none → c2 = 0) ∧ (∀ x ∈ ns, B47 x) ∧ ns.length * 32 ≤ 140737488351232 := by
  obtain ⟨cs, rfl, hsz⟩ := okWide_struct Try.underlying27 hv
  rw [cells27] at hsz
  obtain ⟨l⟩ := cs
  obtain ⟨c0, c1, c2, rfl⟩ : ∃ a b c, l = [a, b, c] := by
    match l, hsz with
    | [a, b, c], _ => exact ⟨a, b, c, rfl⟩
  obtain ⟨fuel, hf⟩ := h
  obtain ⟨ys, n, _, hd, _, hyl, hg⟩ := DataW.trod_struct Try.underlying27 hf
  obtain ⟨y0, y1, y2, rfl⟩ : ∃ a b c, ys = [a, b, c] := by
    match ys, hyl with
    | [a, b, c], _ => exact ⟨a, b, c, rfl⟩
  obtain ⟨rfl, rfl⟩ := Prod.mk.inj hd
  have f0 := hg 0 { name := "Text", type := 9, offset := 0, embedded := false, tag := "", pkgPath := "", byteOffset := 0 } rfl
  have f1 := hg 1 { name := "Pieces", type := 22, offset := 1, embedded := false, tag := "", pkgPath := "", byteOffset := 16 } rfl
  have f2 := hg 2 { name := "Tree", type := 25, offset := 2, embedded := false, tag := "", pkgPath := "", byteOffset := 40 } rfl
  simp only [Value.cells, cells9, cells22, cells25, List.drop_zero, List.drop_succ_cons, List.take_succ_cons, List.take_zero, List.getElem?_cons_zero, List.getElem?_cons_succ] at f0 f1 f2
  have hq : ∀ (j : Nat) (t : TypeId) (d : DataW H), [9, 22, 25][j]? = some t → [y0.1, y1.1, y2.1][j]? = some d → ∀ n ∈ d.weights Try.prog t, n ≤ reachBytes := by
    intro j t d h1 h2 q hq
    refine hw q ?_
    simp only [DataW.weights, Try.underlying27]
    exact DataW.weights_mem_each (j := j) h1 h2 q hq
  obtain ⟨t, e0, ht⟩ := O.opens_string Try.underlying9 f0 (hq 0 _ _ rfl rfl)
  obtain rfl : c0 = .string t := (List.cons.inj e0).1
  obtain ⟨A1, n1, k1, e1⟩ := slice_cells Try.underlying22 f1
  obtain rfl : c1 = .slice A1 n1 k1 := (List.cons.inj e1).1
  obtain ⟨ps, rfl, p1, p2, p3, p4, p5⟩ := O.open_row Try.underlying22 opens61 cells61 f1 (hq 1 _ _ rfl rfl)
  obtain ⟨zs, n', _, hz, _, hzl, hg2⟩ := DataW.trod_struct Try.underlying25 f2
  obtain ⟨z0, rfl⟩ : ∃ a, zs = [a] := by
    match zs, hzl with
    | [a], _ => exact ⟨a, rfl⟩
  have f3 := hg2 0 { name := "Nodes", type := 23, offset := 0, embedded := false, tag := "", pkgPath := "", byteOffset := 0 } rfl
  simp only [cells23, List.drop_zero, List.take_succ_cons, List.take_zero, List.getElem?_cons_zero] at f3
  obtain ⟨A2, n2, k2, e2⟩ := slice_cells Try.underlying23 f3
  obtain rfl : c2 = .slice A2 n2 k2 := (List.cons.inj e2).1
  have hq3 : ∀ n ∈ z0.1.weights Try.prog 23, n ≤ reachBytes := by
    intro q hq1
    refine hq 2 _ _ rfl rfl q ?_
    rw [hz]
    simp only [List.map_cons, List.map_nil, DataW.weights, Try.underlying25]
    exact DataW.weights_mem_each (j := 0) (ts := [23]) (ds := [z0.1]) rfl rfl q hq1
  obtain ⟨ns, rfl, q1, q2, q3, q4, q5⟩ := O.open_row Try.underlying23 opens47 cells47 f3 hq3
  rw [bytes61] at p5
  rw [bytes47] at q5
  exact ⟨t, A1, k1, ps, A2, k2, ns, rfl, ht, p1, p2, p3, p4, p5, q1, q2, q3, q4, q5⟩
end Go.Proofs.Ytodldpdnhcafpaa.H
