/- Texts of the proof of one law (Blind), part 1: functions printed as Lean functions with their walks, and what is proved of them. Conditions: those of each theorem. -/
import Derived.Test.YtodldpdnhcafpaaZBlind0
-- A text of this session's own program (wip/myprint.sh over a changed print tool): functions and their walks
namespace Go.Proofs.Ytodldpdnhcafpaa.F
open Go.RowKit Go.Proofs.YtodldpdnhcafpaaW.PrintWords Go.Proofs.YtodldpdnhcafpaaW.PrintLast Go.Proofs.YtodldpdnhcafpaaW.PrintMore
attribute [local go_sem] max2_int min2_int max_two min_two max_three min_three max_four min_four   -- for this text's walks alone
set_option linter.unusedVariables false
set_option linter.unusedSimpArgs false

/-! ### monikerref4_Valid: function 42 -/
mutual
def monikerref4_Valid.l0 : Nat → Int → Int → List (S47) → Option (Bool)
  | 0, _, _, _ => none
  | k + 1, x1, x5, x298000 => if x5 < (x298000.length : Int) then (if 0 ≤ x5 then (if ((rd_T47 x298000 x5).f1) < 0 then (monikerref4_Valid.j1 k x1 x5 true x298000 ((rd_T47 x298000 x5).f0) ((rd_T47 x298000 x5).f1) ((rd_T47 x298000 x5).f2) ((rd_T47 x298000 x5).f3)) else (if ((rd_T47 x298000 x5).f2) < ((rd_T47 x298000 x5).f1) then (monikerref4_Valid.j1 k x1 x5 true x298000 ((rd_T47 x298000 x5).f0) ((rd_T47 x298000 x5).f1) ((rd_T47 x298000 x5).f2) ((rd_T47 x298000 x5).f3)) else (monikerref4_Valid.j1 k x1 x5 (decide (((rd_T47 x298000 x5).f2) > x1)) x298000 ((rd_T47 x298000 x5).f0) ((rd_T47 x298000 x5).f1) ((rd_T47 x298000 x5).f2) ((rd_T47 x298000 x5).f3)))) else (none)) else (some true)
def monikerref4_Valid.j1 : Nat → Int → Int → Bool → List (S47) → Int → Int → Int → Int → Option (Bool)
  | 0, _, _, _, _, _, _, _, _ => none
  | k + 1, x1, x5, x42, x298000, x301000, x301001, x301002, x301003 => if x42 = true then (some false) else ((monikerref4_Kids.f k x298000 x5).bind fun bt301 => (monikerref4_Valid.l1 k x1 x5 bt301.1 x301001 0 x298000 x301000 x301001 x301002 x301003))
def monikerref4_Valid.l1 : Nat → Int → Int → List Int → Int → Int → List (S47) → Int → Int → Int → Int → Option (Bool)
  | 0, _, _, _, _, _, _, _, _, _, _ => none
  | k + 1, x1, x5, x7, x9, x10, x298000, x301000, x301001, x301002, x301003 => if x10 < (x7.length : Int) then (if 0 ≤ x10 then (if 0 ≤ (rd x7 x10) then (if (rd x7 x10) < (x298000.length : Int) then (if ((rd_T47 x298000 (rd x7 x10)).f1) = ((rd_T47 x298000 (rd x7 x10)).f2) then (if ((rd_T47 x298000 (rd x7 x10)).f1) < x301001 then (some false) else (monikerref4_Valid.l1 k x1 x5 x7 x9 (wrap64 (x10 + 1)) x298000 x301000 x301001 x301002 x301003)) else (if ((rd_T47 x298000 (rd x7 x10)).f1) < x9 then (some false) else (if ((rd_T47 x298000 (rd x7 x10)).f2) > x301002 then (some false) else (monikerref4_Valid.l1 k x1 x5 x7 ((rd_T47 x298000 (rd x7 x10)).f2) (wrap64 (x10 + 1)) x298000 x301000 x301001 x301002 x301003)))) else (none)) else (none)) else (none)) else (monikerref4_Valid.l0 k x1 (wrap64 (x5 + 1)) x298000)
end
def monikerref4_Valid.f (k : Nat) (l0_0 : List (S47)) (a1 : Int) : Option (Bool) := (monikerref4_Shaped.f k l0_0).bind fun t298 => (if t298 = true then (monikerref4_Valid.l0 k a1 0 l0_0) else (some false))
def monikerref4_Valid.T14 : Bool × List (List Nat × List Nat) := (true, [([], []), ([0], [0]), ([], []), ([], []), ([2, 3], [2, 3]), ([4], [4]), ([1, 5], [1, 5]), ([6], [6]), ([], []), ([8, 7, 0, 1, 2, 3, 4, 5, 6, 7, 8], [7, 8])])
def monikerref4_Valid.B14 : List Nat := [0, 1, 0, 0, 12, 28, 63, 127, 0, 511]
theorem monikerref4_Valid.tab14 : rtab .any (opsOf Try.f42 14) = monikerref4_Valid.T14 := by kernel_rfl
theorem monikerref4_Valid.bits14 : waitsOk monikerref4_Valid.T14.2 monikerref4_Valid.B14 = true := by kernel_rfl
set_option maxHeartbeats 8000000 in
set_option maxRecDepth 100000 in
theorem monikerref4_Valid.calls (k : Nat) (A0_0 : Option Addr) (c0_0 : Nat) (l0_0 : List (S47)) (a1 : Int) (r : Bool) (w : World) (hr0_0 : Kd.C k47 w A0_0 l0_0.length l0_0) (hc0_0 : l0_0.length ≤ c0_0) (h : monikerref4_Valid.f k l0_0 a1 = some r) :
    Calls Try.prog 42 #[.agg #[.slice A0_0 l0_0.length c0_0], .int .i64 a1] w fun e w' => e = .returned (.bool r) ∧ Below w.heap.size w w' := by
  have hu25 := Try.underlying25
  have hu47 := Try.underlying47
  have HR0_0 := Aside0.mk hr0_0
  have HC0_0 := Aside0.mk hc0_0
  clear hr0_0 hc0_0
  have HB := Aside0.mk (Below.refl w.heap.size w)
  have H : ((monikerref4_Shaped.f k l0_0).bind fun t298 => (if t298 = true then (monikerref4_Valid.l0 k a1 0 l0_0) else (some false))) = some r := h
  clear h
  replace H := Option.bind_eq_some_iff.mp H
  obtain ⟨t298, A30, H⟩ := H
  replace H : (if t298 = true then (monikerref4_Valid.l0 k a1 0 l0_0) else (some false)) = some r := H
  have A3 := Aside0.mk A30
  clear A30
  by_cases c4 : t298 = true
  · subst c4
    have H1 : (monikerref4_Valid.l0 k a1 0 l0_0) = some r := by rw [if_pos rfl] at H; exact H
    clear H
    have H := H1
    clear H1
    have H' := Aside0.mk H
    clear H
    go_enter Try.func42, Try.ntmps42
    go_wp2_with (first | ((with_reducible refine gate_dst (N := 2) rfl ?_); refine box_event ?hg (N := 2) ?hd (cs := #[.slice A0_0 l0_0.length c0_0]) (t := 25) ?hr ?_; (case hd => rfl); (case hg => rfl); (case hr => first | (go_simp; done) | (go_simp; rfl)); intro gb297 hg w5 hbox hb; have n0_ := Aside0.mk (below_step (by repeat (first | (with_reducible first | exact HB.out | apply below_alloc | apply pw_below_drewN | apply below_drew1) | exact HB.out)) hb); have n1_ := Aside0.mk (hbox); have n2_ := Aside0.mk ((by rw [hg]; exact (below_size (by repeat (first | (with_reducible first | exact HB.out | apply below_alloc | apply pw_below_drewN | apply below_drew1) | exact HB.out))) : w.heap.size ≤ gb297)); have n3_ := Aside0.mk ((by rw [hg]; exact (below_size (by repeat (first | (with_reducible first | exact HB.out | apply below_alloc | apply pw_below_drewN | apply below_drew1) | exact HB.out))) : w.heap.size ≤ gb297)); clear HB; have HB := n0_; have BK297 := n1_; have GW297 := n2_; have GE297 := n3_; clear n0_ n1_ n2_ n3_; clear hb hbox hg; have hcz6_0 : w5.cell? ⟨gb297, 0, none⟩ = some (.slice A0_0 l0_0.length c0_0) := (blk_cell BK297.out 0).trans rfl; have hfz6_0 := blk_frozen BK297.out 0) | ((with_reducible refine gate_callee (f := 59) rfl ?_); refine goesL_ (some 13) rfl rfl Try.func59 (by kernel_rfl) rfl #[.agg #[.slice A0_0 l0_0.length c0_0]] rfl (by (try simp only [List.map_toArray, List.map_cons, List.map_nil]); first | done | rfl | (simp only [List.length_drop, List.length_take]; rfl)) ?_; (with_reducible refine (monikerref4_Shaped.calls k _ _ l0_0 true _ ?side1 ?side2 A3.out).mono ?_); (case side1 => repeat (first | exact (Kd.C_below HR0_0.out HB.out) | (with_reducible refine Kd.C_alloc ?_ _) | (with_reducible refine Kd.C_drewN ?_ _) | (with_reducible refine Kd.C_drew ?_))); (case side2 => exact HC0_0.out); rintro e w7 ⟨rfl, hb⟩; refine ⟨_, rfl, ?_⟩; have n0_ := Aside0.mk (blk_below (g := gb297) (o := .cells #[.slice A0_0 l0_0.length c0_0] 25 (0, 0)) (by (with_reducible repeat (first | refine blk_drewN ?_ _ | refine blk_drew ?_ | refine blk_alloc ?_ _)); exact BK297.out) hb); have n1_ := Aside0.mk (below_step (by repeat (first | (with_reducible first | exact HB.out | apply below_alloc | apply pw_below_drewN | apply below_drew1 | refine below_set ?_ GE297.out) | exact HB.out)) hb); clear BK297; clear HB; have BK297 := n0_; have HB := n1_; clear n0_ n1_; (try clear hb); (try clear hb2); (try clear hk); (try clear hi)))
    go_loopg [5] k (fun kq v5 w' => ∃ (x5_1 : Int), v5 = .int .i64 x5_1 ∧ Aside0 (monikerref4_Valid.l0 kq a1 x5_1 l0_0 = some r) ∧ Aside0 (kq ≤ k) ∧ Aside0 (w'.heap[gb297]? = some (.cells #[(.slice A0_0 l0_0.length c0_0)] 25 (0, 0))) ∧ Aside0 (Below w.heap.size w w'))
    case atStart => exact ⟨(0), (by first | rfl | (simp; done) | (simp [*]; done)), H', ⟨Nat.le_refl _⟩, ⟨by (with_reducible repeat (first | refine blk_drewN ?_ _ | refine blk_drew ?_ | refine blk_alloc ?_ _)); exact BK297.out⟩, ⟨by repeat (first | (with_reducible first | exact HB.out | apply below_alloc | apply pw_below_drewN | apply below_drew1 | refine below_set ?_ GE297.out) | exact HB.out)⟩⟩
    case round =>
      clear H'
      try clear p2
      try clear c4
      try clear c5
      try clear hcz6_0
      try clear hfz6_0
      obtain ⟨x5_1, rfl, HA, HK1, BK297, HB⟩ := hrel
      cases gk with
      | zero => exact absurd HA.out (by simp [monikerref4_Valid.l0])
      | succ k1 =>
        have H := HA.out
        clear HA
        simp only [monikerref4_Valid.l0] at H
        by_cases c8 : x5_1 < (l0_0.length : Int)
        · rw [if_pos c8] at H
          have c8b0 : decide (x5_1 < (l0_0.length : Int)) = true := decide_eq_true c8
          clear c8
          by_cases c9 : 0 ≤ x5_1
          · rw [if_pos c9] at H
            have c9b0 : decide (0 ≤ x5_1) = true := decide_eq_true c9
            clear c9
            have HC10 := Aside0.mk H
            clear H
            have hcz11_0 : wr.cell? ⟨gb297, 0, none⟩ = some (.slice A0_0 l0_0.length c0_0) := (blk_cell BK297.out 0).trans rfl
            have hfz11_0 := blk_frozen BK297.out 0
            have p299 : 0 ≤ (x5_1 : Int) := of_decide_eq_true (by first | (with_reducible assumption) | assumption)
            have q299 : x5_1 < (l0_0.length : Int) := of_decide_eq_true (by first | (with_reducible assumption) | assumption)
            obtain ⟨ad299, e299, hx299_0, hx299_1, hx299_2, hx299_3⟩ := at_T47 HR0_0.out x5_1 p299 q299
            cases e299
            replace hx299_0 := (HB.out.cell (World.block_lt_of_cell? w _ hx299_0)).trans hx299_0
            replace hx299_1 := (HB.out.cell (World.block_lt_of_cell? w _ hx299_1)).trans hx299_1
            replace hx299_2 := (HB.out.cell (World.block_lt_of_cell? w _ hx299_2)).trans hx299_2
            replace hx299_3 := (HB.out.cell (World.block_lt_of_cell? w _ hx299_3)).trans hx299_3
            replace p299 := eq_true p299
            replace q299 := eq_true q299
            go_upto_region 7 with (first | ((with_reducible refine gate_dst (N := 6) rfl ?_); refine box_event ?hg (N := 6) ?hd (cs := #[.int .u8 0, .int .i64 0, .int .i64 0, .int .i64 0]) (t := 47) ?hr ?_; (case hd => rfl); (case hg => rfl); (case hr => first | (go_simp; done) | (go_simp; rfl)); intro gb300 hg w12 hbox hb; have n0_ := Aside0.mk (blk_below (g := gb297) (o := .cells #[.slice (some ad299) l0_0.length c0_0] 25 (0, 0)) (by (with_reducible repeat (first | refine blk_drewN ?_ _ | refine blk_drew ?_ | refine blk_alloc ?_ _)); exact BK297.out) hb); have n1_ := Aside0.mk (below_step (by repeat (first | (with_reducible first | exact HB.out | apply below_alloc | apply pw_below_drewN | apply below_drew1 | refine below_set ?_ GE297.out) | exact HB.out)) hb); have n2_ := Aside0.mk (hbox); have n3_ := Aside0.mk ((by rw [hg]; exact (below_size (by repeat (first | (with_reducible first | exact HB.out | apply below_alloc | apply pw_below_drewN | apply below_drew1 | refine below_set ?_ GE297.out) | exact HB.out))) : w.heap.size ≤ gb300)); have n4_ := Aside0.mk ((by rw [hg]; exact (below_size (by repeat (first | (with_reducible first | exact HB.out | apply below_alloc | apply pw_below_drewN | apply below_drew1 | refine below_set ?_ GE297.out) | exact HB.out))) : w.heap.size ≤ gb300)); have n5_ := Aside0.mk ((by rw [hg]; exact Nat.ne_of_lt (blk_lt (g := gb297) (o := .cells #[.slice (some ad299) l0_0.length c0_0] 25 (0, 0)) (by (with_reducible repeat (first | refine blk_drewN ?_ _ | refine blk_drew ?_ | refine blk_alloc ?_ _)); exact BK297.out)) : gb297 ≠ gb300)); have n6_ := Aside0.mk ((by rw [hg]; exact Nat.ne_of_gt (blk_lt (g := gb297) (o := .cells #[.slice (some ad299) l0_0.length c0_0] 25 (0, 0)) (by (with_reducible repeat (first | refine blk_drewN ?_ _ | refine blk_drew ?_ | refine blk_alloc ?_ _)); exact BK297.out)) : gb300 ≠ gb297)); clear BK297; clear HB; have BK297 := n0_; have HB := n1_; have BK300 := n2_; have GW300 := n3_; have GE300 := n4_; have NB297_300 := n5_; have NB300_297 := n6_; clear n0_ n1_ n2_ n3_ n4_ n5_ n6_; clear hb hbox hg; have hnb13 := NB300_297.out; have hnc13 := NB297_300.out; have hcz14_0 : w12.cell? ⟨gb300, 0, none⟩ = some (.int .u8 0) := (blk_cell BK300.out 0).trans rfl; have hcz14_1 : w12.cell? ⟨gb300, 1, none⟩ = some (.int .i64 0) := (blk_cell BK300.out 1).trans rfl; have hcz14_2 : w12.cell? ⟨gb300, 2, none⟩ = some (.int .i64 0) := (blk_cell BK300.out 2).trans rfl; have hcz14_3 : w12.cell? ⟨gb300, 3, none⟩ = some (.int .i64 0) := (blk_cell BK300.out 3).trans rfl; have hfz14_0 := blk_frozen BK300.out 0; have hfz14_1 := blk_frozen BK300.out 1; have hfz14_2 := blk_frozen BK300.out 2; have hfz14_3 := blk_frozen BK300.out 3))
            (try simp only [Act.put, List.setIfInBounds_toArray, List.set_cons_zero, List.set_cons_succ])
            go_cut [42] (fun v42 wc => ∃ (kq : Nat) (x42_9 : Bool), v42 = .bool x42_9 ∧ Aside0 (monikerref4_Valid.j1 kq a1 x5_1 x42_9 l0_0 ((rd_T47 l0_0 x5_1).f0) ((rd_T47 l0_0 x5_1).f1) ((rd_T47 l0_0 x5_1).f2) ((rd_T47 l0_0 x5_1).f3) = some r) ∧ Aside0 (kq ≤ k1) ∧ Aside0 (wc.heap[gb297]? = some (.cells #[(.slice (some ad299) l0_0.length c0_0)] 25 (0, 0))) ∧ Aside0 (wc.heap[gb300]? = some (.cells #[.int .u8 ((rd_T47 l0_0 x5_1).f0), .int .i64 ((rd_T47 l0_0 x5_1).f1), .int .i64 ((rd_T47 l0_0 x5_1).f2), .int .i64 ((rd_T47 l0_0 x5_1).f3)] 47 (0, 0))) ∧ Aside0 (Below w.heap.size w wc))
            case first =>
              have H := HC10.out
              clear HC10
              by_cases c15 : ((rd_T47 l0_0 x5_1).f1) < 0
              · rw [if_pos c15] at H
                have c15b0 : decide (((rd_T47 l0_0 x5_1).f1) < 0) = true := decide_eq_true c15
                clear c15
                (first | rw [c15b0] | (simp only [i64_w, i32_w]; rw [c15b0]) | skip)
                have H' := Aside0.mk H
                clear H
                have hnb16 := NB300_297.out
                have hnc16 := NB297_300.out
                have hcz17_0 : w12.cell? ⟨gb300, 0, none⟩ = some (.int .u8 0) := (blk_cell BK300.out 0).trans rfl
                have hcz17_1 : w12.cell? ⟨gb300, 1, none⟩ = some (.int .i64 0) := (blk_cell BK300.out 1).trans rfl
                have hcz17_2 : w12.cell? ⟨gb300, 2, none⟩ = some (.int .i64 0) := (blk_cell BK300.out 2).trans rfl
                have hcz17_3 : w12.cell? ⟨gb300, 3, none⟩ = some (.int .i64 0) := (blk_cell BK300.out 3).trans rfl
                have hfz17_0 := blk_frozen BK300.out 0
                have hfz17_1 := blk_frozen BK300.out 1
                have hfz17_2 := blk_frozen BK300.out 2
                have hfz17_3 := blk_frozen BK300.out 3
                go_wp2
                go_meet
                case rel => exact ⟨_, (true), (by first | rfl | (simp; done) | (simp [*]; done)), H', ⟨by have := HK1.out; first | omega | exact Nat.le_refl _⟩, ⟨by (with_reducible repeat (first | refine blk_drewN ?_ _ | refine blk_drew ?_ | refine blk_alloc ?_ _)); refine blk_far ?_ NB297_300.out _; (with_reducible repeat (first | refine blk_drewN ?_ _ | refine blk_drew ?_ | refine blk_alloc ?_ _)); refine blk_far ?_ NB297_300.out _; (with_reducible repeat (first | refine blk_drewN ?_ _ | refine blk_drew ?_ | refine blk_alloc ?_ _)); refine blk_far ?_ NB297_300.out _; (with_reducible repeat (first | refine blk_drewN ?_ _ | refine blk_drew ?_ | refine blk_alloc ?_ _)); refine blk_far ?_ NB297_300.out _; (with_reducible repeat (first | refine blk_drewN ?_ _ | refine blk_drew ?_ | refine blk_alloc ?_ _)); exact BK297.out⟩, ⟨by (with_reducible repeat (first | refine blk_drewN ?_ _ | refine blk_drew ?_ | refine blk_alloc ?_ _)); refine blk_put (cs := #[.int .u8 ((rd_T47 l0_0 x5_1).f0), .int .i64 ((rd_T47 l0_0 x5_1).f1), .int .i64 ((rd_T47 l0_0 x5_1).f2), .int .i64 0]) ?_ 3 _ rfl; (with_reducible repeat (first | refine blk_drewN ?_ _ | refine blk_drew ?_ | refine blk_alloc ?_ _)); refine blk_put (cs := #[.int .u8 ((rd_T47 l0_0 x5_1).f0), .int .i64 ((rd_T47 l0_0 x5_1).f1), .int .i64 0, .int .i64 0]) ?_ 2 _ rfl; (with_reducible repeat (first | refine blk_drewN ?_ _ | refine blk_drew ?_ | refine blk_alloc ?_ _)); refine blk_put (cs := #[.int .u8 ((rd_T47 l0_0 x5_1).f0), .int .i64 0, .int .i64 0, .int .i64 0]) ?_ 1 _ rfl; (with_reducible repeat (first | refine blk_drewN ?_ _ | refine blk_drew ?_ | refine blk_alloc ?_ _)); refine blk_put (cs := #[.int .u8 0, .int .i64 0, .int .i64 0, .int .i64 0]) ?_ 0 _ rfl; (with_reducible repeat (first | refine blk_drewN ?_ _ | refine blk_drew ?_ | refine blk_alloc ?_ _)); exact BK300.out⟩, ⟨by repeat (first | (with_reducible first | exact HB.out | apply below_alloc | apply pw_below_drewN | apply below_drew1 | refine below_set ?_ GE297.out | refine below_set ?_ GE300.out) | exact HB.out)⟩⟩
              · rw [if_neg c15] at H
                have c15b0 : decide (((rd_T47 l0_0 x5_1).f1) < 0) = false := decide_eq_false c15
                clear c15
                (first | rw [c15b0] | (simp only [i64_w, i32_w]; rw [c15b0]) | skip)
                by_cases c18 : ((rd_T47 l0_0 x5_1).f2) < ((rd_T47 l0_0 x5_1).f1)
                · rw [if_pos c18] at H
                  have c18b0 : decide (((rd_T47 l0_0 x5_1).f2) < ((rd_T47 l0_0 x5_1).f1)) = true := decide_eq_true c18
                  clear c18
                  have H' := Aside0.mk H
                  clear H
                  have hnb19 := NB300_297.out
                  have hnc19 := NB297_300.out
                  have hcz20_0 : w12.cell? ⟨gb300, 0, none⟩ = some (.int .u8 0) := (blk_cell BK300.out 0).trans rfl
                  have hcz20_1 : w12.cell? ⟨gb300, 1, none⟩ = some (.int .i64 0) := (blk_cell BK300.out 1).trans rfl
                  have hcz20_2 : w12.cell? ⟨gb300, 2, none⟩ = some (.int .i64 0) := (blk_cell BK300.out 2).trans rfl
                  have hcz20_3 : w12.cell? ⟨gb300, 3, none⟩ = some (.int .i64 0) := (blk_cell BK300.out 3).trans rfl
                  have hfz20_0 := blk_frozen BK300.out 0
                  have hfz20_1 := blk_frozen BK300.out 1
                  have hfz20_2 := blk_frozen BK300.out 2
                  have hfz20_3 := blk_frozen BK300.out 3
                  go_wp2
                  go_meet
                  case rel => exact ⟨_, (true), (by first | rfl | (simp; done) | (simp [*]; done)), H', ⟨by have := HK1.out; first | omega | exact Nat.le_refl _⟩, ⟨by (with_reducible repeat (first | refine blk_drewN ?_ _ | refine blk_drew ?_ | refine blk_alloc ?_ _)); refine blk_far ?_ NB297_300.out _; (with_reducible repeat (first | refine blk_drewN ?_ _ | refine blk_drew ?_ | refine blk_alloc ?_ _)); refine blk_far ?_ NB297_300.out _; (with_reducible repeat (first | refine blk_drewN ?_ _ | refine blk_drew ?_ | refine blk_alloc ?_ _)); refine blk_far ?_ NB297_300.out _; (with_reducible repeat (first | refine blk_drewN ?_ _ | refine blk_drew ?_ | refine blk_alloc ?_ _)); refine blk_far ?_ NB297_300.out _; (with_reducible repeat (first | refine blk_drewN ?_ _ | refine blk_drew ?_ | refine blk_alloc ?_ _)); exact BK297.out⟩, ⟨by (with_reducible repeat (first | refine blk_drewN ?_ _ | refine blk_drew ?_ | refine blk_alloc ?_ _)); refine blk_put (cs := #[.int .u8 ((rd_T47 l0_0 x5_1).f0), .int .i64 ((rd_T47 l0_0 x5_1).f1), .int .i64 ((rd_T47 l0_0 x5_1).f2), .int .i64 0]) ?_ 3 _ rfl; (with_reducible repeat (first | refine blk_drewN ?_ _ | refine blk_drew ?_ | refine blk_alloc ?_ _)); refine blk_put (cs := #[.int .u8 ((rd_T47 l0_0 x5_1).f0), .int .i64 ((rd_T47 l0_0 x5_1).f1), .int .i64 0, .int .i64 0]) ?_ 2 _ rfl; (with_reducible repeat (first | refine blk_drewN ?_ _ | refine blk_drew ?_ | refine blk_alloc ?_ _)); refine blk_put (cs := #[.int .u8 ((rd_T47 l0_0 x5_1).f0), .int .i64 0, .int .i64 0, .int .i64 0]) ?_ 1 _ rfl; (with_reducible repeat (first | refine blk_drewN ?_ _ | refine blk_drew ?_ | refine blk_alloc ?_ _)); refine blk_put (cs := #[.int .u8 0, .int .i64 0, .int .i64 0, .int .i64 0]) ?_ 0 _ rfl; (with_reducible repeat (first | refine blk_drewN ?_ _ | refine blk_drew ?_ | refine blk_alloc ?_ _)); exact BK300.out⟩, ⟨by repeat (first | (with_reducible first | exact HB.out | apply below_alloc | apply pw_below_drewN | apply below_drew1 | refine below_set ?_ GE297.out | refine below_set ?_ GE300.out) | exact HB.out)⟩⟩
                · rw [if_neg c18] at H
                  have c18b0 : decide (((rd_T47 l0_0 x5_1).f2) < ((rd_T47 l0_0 x5_1).f1)) = false := decide_eq_false c18
                  clear c18
                  have H' := Aside0.mk H
                  clear H
                  have hnb21 := NB300_297.out
                  have hnc21 := NB297_300.out
                  have hcz22_0 : w12.cell? ⟨gb300, 0, none⟩ = some (.int .u8 0) := (blk_cell BK300.out 0).trans rfl
                  have hcz22_1 : w12.cell? ⟨gb300, 1, none⟩ = some (.int .i64 0) := (blk_cell BK300.out 1).trans rfl
                  have hcz22_2 : w12.cell? ⟨gb300, 2, none⟩ = some (.int .i64 0) := (blk_cell BK300.out 2).trans rfl
                  have hcz22_3 : w12.cell? ⟨gb300, 3, none⟩ = some (.int .i64 0) := (blk_cell BK300.out 3).trans rfl
                  have hfz22_0 := blk_frozen BK300.out 0
                  have hfz22_1 := blk_frozen BK300.out 1
                  have hfz22_2 := blk_frozen BK300.out 2
                  have hfz22_3 := blk_frozen BK300.out 3
                  go_wp2
                  go_meet
                  case rel => exact ⟨_, (decide (((rd_T47 l0_0 x5_1).f2) > a1)), (by first | rfl | (simp; done) | (simp [*]; done)), H', ⟨by have := HK1.out; first | omega | exact Nat.le_refl _⟩, ⟨by (with_reducible repeat (first | refine blk_drewN ?_ _ | refine blk_drew ?_ | refine blk_alloc ?_ _)); refine blk_far ?_ NB297_300.out _; (with_reducible repeat (first | refine blk_drewN ?_ _ | refine blk_drew ?_ | refine blk_alloc ?_ _)); refine blk_far ?_ NB297_300.out _; (with_reducible repeat (first | refine blk_drewN ?_ _ | refine blk_drew ?_ | refine blk_alloc ?_ _)); refine blk_far ?_ NB297_300.out _; (with_reducible repeat (first | refine blk_drewN ?_ _ | refine blk_drew ?_ | refine blk_alloc ?_ _)); refine blk_far ?_ NB297_300.out _; (with_reducible repeat (first | refine blk_drewN ?_ _ | refine blk_drew ?_ | refine blk_alloc ?_ _)); exact BK297.out⟩, ⟨by (with_reducible repeat (first | refine blk_drewN ?_ _ | refine blk_drew ?_ | refine blk_alloc ?_ _)); refine blk_put (cs := #[.int .u8 ((rd_T47 l0_0 x5_1).f0), .int .i64 ((rd_T47 l0_0 x5_1).f1), .int .i64 ((rd_T47 l0_0 x5_1).f2), .int .i64 0]) ?_ 3 _ rfl; (with_reducible repeat (first | refine blk_drewN ?_ _ | refine blk_drew ?_ | refine blk_alloc ?_ _)); refine blk_put (cs := #[.int .u8 ((rd_T47 l0_0 x5_1).f0), .int .i64 ((rd_T47 l0_0 x5_1).f1), .int .i64 0, .int .i64 0]) ?_ 2 _ rfl; (with_reducible repeat (first | refine blk_drewN ?_ _ | refine blk_drew ?_ | refine blk_alloc ?_ _)); refine blk_put (cs := #[.int .u8 ((rd_T47 l0_0 x5_1).f0), .int .i64 0, .int .i64 0, .int .i64 0]) ?_ 1 _ rfl; (with_reducible repeat (first | refine blk_drewN ?_ _ | refine blk_drew ?_ | refine blk_alloc ?_ _)); refine blk_put (cs := #[.int .u8 0, .int .i64 0, .int .i64 0, .int .i64 0]) ?_ 0 _ rfl; (with_reducible repeat (first | refine blk_drewN ?_ _ | refine blk_drew ?_ | refine blk_alloc ?_ _)); exact BK300.out⟩, ⟨by repeat (first | (with_reducible first | exact HB.out | apply below_alloc | apply pw_below_drewN | apply below_drew1 | refine below_set ?_ GE297.out | refine below_set ?_ GE300.out) | exact HB.out)⟩⟩
            case rest =>
              clear HC10
              try clear c1
              try clear c2
              try clear p2
              try clear q2
              try clear hx2
              try clear c4
              try clear c5
              try clear c8
              try clear c8b0
              try clear c9
              try clear c9b0
              try clear c13
              try clear c15
              try clear c15b0
              try clear c16
              try clear c18
              try clear c18b0
              try clear c19
              try clear c21
              try clear hcz11_0
              try clear hcz14_0
              try clear hcz14_1
              try clear hcz14_2
              try clear hcz14_3
              try clear hcz17_0
              try clear hcz17_1
              try clear hcz17_2
              try clear hcz17_3
              try clear hcz20_0
              try clear hcz20_1
              try clear hcz20_2
              try clear hcz20_3
              try clear hcz22_0
              try clear hcz22_1
              try clear hcz22_2
              try clear hcz22_3
              try clear hcz6_0
              try clear hfz11_0
              try clear hfz14_0
              try clear hfz14_1
              try clear hfz14_2
              try clear hfz14_3
              try clear hfz17_0
              try clear hfz17_1
              try clear hfz17_2
              try clear hfz17_3
              try clear hfz20_0
              try clear hfz20_1
              try clear hfz20_2
              try clear hfz20_3
              try clear hfz22_0
              try clear hfz22_1
              try clear hfz22_2
              try clear hfz22_3
              try clear hfz6_0
              try clear hx299_0
              try clear hx299_1
              try clear hx299_2
              try clear hx299_3
              try clear p2
              try clear p299
              try clear q299
              obtain ⟨kq, x42_9, rfl, HA, HJ9, BK297, BK300, HB⟩ := hcut
              cases kq with
              | zero => exact absurd HA.out (by simp [monikerref4_Valid.j1])
              | succ kj9 =>
                have H := HA.out
                clear HA
                simp only [monikerref4_Valid.j1] at H
                by_cases c23 : x42_9 = true
                · subst c23
                  have H1 : (some false) = some r := by rw [if_pos rfl] at H; exact H
                  clear H
                  have H := H1
                  clear H1
                  obtain rfl := Option.some.inj H
                  go_wp2
                  go_ret
                  exact ⟨by first | rfl | (simp [errW_none, errW_some] <;> rfl) | (simp [*, errW_none, errW_some] <;> rfl), by repeat (first | (with_reducible first | exact HB.out | apply below_alloc | apply pw_below_drewN | apply below_drew1 | refine below_set ?_ GE297.out | refine below_set ?_ GE300.out) | exact HB.out)⟩
                · replace c23 := Bool.eq_false_iff.mpr c23
                  subst c23
                  have H1 : ((monikerref4_Kids.f kj9 l0_0 x5_1).bind fun bt301 => (monikerref4_Valid.l1 kj9 a1 x5_1 bt301.1 ((rd_T47 l0_0 x5_1).f1) 0 l0_0 ((rd_T47 l0_0 x5_1).f0) ((rd_T47 l0_0 x5_1).f1) ((rd_T47 l0_0 x5_1).f2) ((rd_T47 l0_0 x5_1).f3))) = some r := by rw [if_neg (show ¬ (false = true) by decide)] at H; exact H
                  clear H
                  have H := H1
                  clear H1
                  replace H := Option.bind_eq_some_iff.mp H
                  obtain ⟨⟨t301, t304⟩, A240, H⟩ := H
                  replace H : (monikerref4_Valid.l1 kj9 a1 x5_1 t301 ((rd_T47 l0_0 x5_1).f1) 0 l0_0 ((rd_T47 l0_0 x5_1).f0) ((rd_T47 l0_0 x5_1).f1) ((rd_T47 l0_0 x5_1).f2) ((rd_T47 l0_0 x5_1).f3)) = some r := H
                  have A24 := Aside0.mk A240
                  clear A240
                  have H' := Aside0.mk H
                  clear H
                  have hnb25 := NB297_300.out
                  have hnc25 := NB300_297.out
                  have hcz26_0 : wc.cell? ⟨gb297, 0, none⟩ = some (.slice (some ad299) l0_0.length c0_0) := (blk_cell BK297.out 0).trans rfl
                  have hfz26_0 := blk_frozen BK297.out 0
                  go_wp2_with (first | ((with_reducible refine gate_callee (f := 36) rfl ?_); refine goesL_ (some 46) rfl rfl Try.func36 (by kernel_rfl) rfl #[.agg #[.slice (some ad299) l0_0.length c0_0], .int .i64 x5_1] rfl (by (try simp only [List.map_toArray, List.map_cons, List.map_nil]); first | done | rfl | (simp only [List.length_drop, List.length_take]; rfl)) ?_; (with_reducible refine (monikerref4_Kids.calls kj9 _ _ l0_0 x5_1 t301 t304 _ ?side1 ?side2 A24.out).mono ?_); (case side1 => repeat (first | exact (Kd.C_below HR0_0.out HB.out) | (with_reducible refine Kd.C_alloc ?_ _) | (with_reducible refine Kd.C_drewN ?_ _) | (with_reducible refine Kd.C_drew ?_))); (case side2 => exact HC0_0.out); rintro e w27 ⟨v302, rfl, ho0, hb⟩; refine ⟨_, rfl, ?_⟩; have n0_ := Aside0.mk (Kd.R_lower ho0 (below_size (by repeat (first | (with_reducible first | exact HB.out | apply below_alloc | apply pw_below_drewN | apply below_drew1 | refine below_set ?_ GE297.out | refine below_set ?_ GE300.out) | exact HB.out)))); have n1_ := Aside0.mk (blk_below (g := gb297) (o := .cells #[.slice (some ad299) l0_0.length c0_0] 25 (0, 0)) (by (with_reducible repeat (first | refine blk_drewN ?_ _ | refine blk_drew ?_ | refine blk_alloc ?_ _)); exact BK297.out) hb); have n2_ := Aside0.mk (blk_below (g := gb300) (o := .cells #[.int .u8 ((rd_T47 l0_0 x5_1).f0), .int .i64 ((rd_T47 l0_0 x5_1).f1), .int .i64 ((rd_T47 l0_0 x5_1).f2), .int .i64 ((rd_T47 l0_0 x5_1).f3)] 47 (0, 0)) (by (with_reducible repeat (first | refine blk_drewN ?_ _ | refine blk_drew ?_ | refine blk_alloc ?_ _)); exact BK300.out) hb); have n3_ := Aside0.mk (below_step (by repeat (first | (with_reducible first | exact HB.out | apply below_alloc | apply pw_below_drewN | apply below_drew1 | refine below_set ?_ GE297.out | refine below_set ?_ GE300.out) | exact HB.out)) hb); clear BK297; clear BK300; clear HB; have HO303 := n0_; have BK297 := n1_; have BK300 := n2_; have HB := n3_; clear n0_ n1_ n2_ n3_; (try clear hb); (try clear hb2); (try clear hk); (try clear hi); (try clear ho0); have hcz28_0 : w27.cell? ⟨gb300, 0, none⟩ = some (.int .u8 ((rd_T47 l0_0 x5_1).f0)) := (blk_cell BK300.out 0).trans rfl; have hcz28_1 : w27.cell? ⟨gb300, 1, none⟩ = some (.int .i64 ((rd_T47 l0_0 x5_1).f1)) := (blk_cell BK300.out 1).trans rfl; have hcz28_2 : w27.cell? ⟨gb300, 2, none⟩ = some (.int .i64 ((rd_T47 l0_0 x5_1).f2)) := (blk_cell BK300.out 2).trans rfl; have hcz28_3 : w27.cell? ⟨gb300, 3, none⟩ = some (.int .i64 ((rd_T47 l0_0 x5_1).f3)) := (blk_cell BK300.out 3).trans rfl; have hfz28_0 := blk_frozen BK300.out 0; have hfz28_1 := blk_frozen BK300.out 1; have hfz28_2 := blk_frozen BK300.out 2; have hfz28_3 := blk_frozen BK300.out 3))
                  go_loopg [9, 10] kj9 (fun kq v9 v10 w' => ∃ (x9_3 : Int) (x10_3 : Int), v9 = .int .i64 x9_3 ∧ v10 = .int .i64 x10_3 ∧ Aside0 (monikerref4_Valid.l1 kq a1 x5_1 t301 x9_3 x10_3 l0_0 ((rd_T47 l0_0 x5_1).f0) ((rd_T47 l0_0 x5_1).f1) ((rd_T47 l0_0 x5_1).f2) ((rd_T47 l0_0 x5_1).f3) = some r) ∧ Aside0 (kq ≤ kj9) ∧ Aside0 (Kd.R (Kd.int .i64) 3 w' w.heap.size (fun _ => True) v302 t301) ∧ Aside0 (w'.heap[gb297]? = some (.cells #[(.slice (some ad299) l0_0.length c0_0)] 25 (0, 0))) ∧ Aside0 (w'.heap[gb300]? = some (.cells #[.int .u8 ((rd_T47 l0_0 x5_1).f0), .int .i64 ((rd_T47 l0_0 x5_1).f1), .int .i64 ((rd_T47 l0_0 x5_1).f2), .int .i64 ((rd_T47 l0_0 x5_1).f3)] 47 (0, 0))) ∧ Aside0 (Below w.heap.size w w'))
                  case atStart => exact ⟨(((rd_T47 l0_0 x5_1).f1)), (0), (by first | rfl | (simp; done) | (simp [*]; done)), (by first | rfl | (simp; done) | (simp [*]; done)), H', ⟨Nat.le_refl _⟩, ⟨by (with_reducible repeat (first | apply Kd.R_alloc | apply Kd.R_drewN | apply Kd.R_drew)); exact HO303.out⟩, ⟨by (with_reducible repeat (first | refine blk_drewN ?_ _ | refine blk_drew ?_ | refine blk_alloc ?_ _)); exact BK297.out⟩, ⟨by (with_reducible repeat (first | refine blk_drewN ?_ _ | refine blk_drew ?_ | refine blk_alloc ?_ _)); exact BK300.out⟩, ⟨by repeat (first | (with_reducible first | exact HB.out | apply below_alloc | apply pw_below_drewN | apply below_drew1 | refine below_set ?_ GE297.out | refine below_set ?_ GE300.out) | exact HB.out)⟩⟩
                  case round =>
                    clear H'
                    try clear c1
                    try clear c2
                    try clear p2
                    try clear q2
                    try clear hx2
                    try clear c3
                    try clear c4
                    try clear c5
                    try clear c8
                    try clear c8b0
                    try clear c9
                    try clear c9b0
                    try clear c13
                    try clear c15
                    try clear c15b0
                    try clear c16
                    try clear c18
                    try clear c18b0
                    try clear c19
                    try clear c21
                    try clear c23
                    try clear c25
                    try clear hcz11_0
                    try clear hcz14_0
                    try clear hcz14_1
                    try clear hcz14_2
                    try clear hcz14_3
                    try clear hcz17_0
                    try clear hcz17_1
                    try clear hcz17_2
                    try clear hcz17_3
                    try clear hcz20_0
                    try clear hcz20_1
                    try clear hcz20_2
                    try clear hcz20_3
                    try clear hcz22_0
                    try clear hcz22_1
                    try clear hcz22_2
                    try clear hcz22_3
                    try clear hcz26_0
                    try clear hcz28_0
                    try clear hcz28_1
                    try clear hcz28_2
                    try clear hcz28_3
                    try clear hcz6_0
                    try clear hfz11_0
                    try clear hfz14_0
                    try clear hfz14_1
                    try clear hfz14_2
                    try clear hfz14_3
                    try clear hfz17_0
                    try clear hfz17_1
                    try clear hfz17_2
                    try clear hfz17_3
                    try clear hfz20_0
                    try clear hfz20_1
                    try clear hfz20_2
                    try clear hfz20_3
                    try clear hfz22_0
                    try clear hfz22_1
                    try clear hfz22_2
                    try clear hfz22_3
                    try clear hfz26_0
                    try clear hfz28_0
                    try clear hfz28_1
                    try clear hfz28_2
                    try clear hfz28_3
                    try clear hfz6_0
                    try clear hx299_0
                    try clear hx299_1
                    try clear hx299_2
                    try clear hx299_3
                    try clear p2
                    try clear p299
                    try clear q2
                    try clear q299
                    obtain ⟨x9_3, x10_3, rfl, rfl, HA, HK3, HO_7, BK297, BK300, HB⟩ := hrel
                    cases gk with
                    | zero => exact absurd HA.out (by simp [monikerref4_Valid.l1])
                    | succ k3 =>
                      have H := HA.out
                      clear HA
                      simp only [monikerref4_Valid.l1] at H
                      by_cases c29 : x10_3 < (t301.length : Int)
                      · rw [if_pos c29] at H
                        have c29b0 : decide (x10_3 < (t301.length : Int)) = true := decide_eq_true c29
                        clear c29
                        by_cases c30 : 0 ≤ x10_3
                        · rw [if_pos c30] at H
                          have c30b0 : decide (0 ≤ x10_3) = true := decide_eq_true c30
                          clear c30
                          by_cases c31 : 0 ≤ (rd t301 x10_3)
                          · rw [if_pos c31] at H
                            have c31b0 : decide (0 ≤ (rd t301 x10_3)) = true := decide_eq_true c31
                            clear c31
                            by_cases c32 : (rd t301 x10_3) < (l0_0.length : Int)
                            · rw [if_pos c32] at H
                              have c32b0 : decide ((rd t301 x10_3) < (l0_0.length : Int)) = true := decide_eq_true c32
                              clear c32
                              by_cases c33 : ((rd_T47 l0_0 (rd t301 x10_3)).f1) = ((rd_T47 l0_0 (rd t301 x10_3)).f2)
                              · rw [if_pos c33] at H
                                have c33b0 : (((rd_T47 l0_0 (rd t301 x10_3)).f1) == ((rd_T47 l0_0 (rd t301 x10_3)).f2)) = true := beq_iff_eq.mpr c33
                                have c33b1 : (((rd_T47 l0_0 (rd t301 x10_3)).f1) != ((rd_T47 l0_0 (rd t301 x10_3)).f2)) = false := bne_eq_false_iff_eq.mpr c33
                                clear c33
                                by_cases c34 : ((rd_T47 l0_0 (rd t301 x10_3)).f1) < ((rd_T47 l0_0 x5_1).f1)
                                · rw [if_pos c34] at H
                                  have c34b0 : decide (((rd_T47 l0_0 (rd t301 x10_3)).f1) < ((rd_T47 l0_0 x5_1).f1)) = true := decide_eq_true c34
                                  clear c34
                                  obtain rfl := Option.some.inj H
                                  obtain ⟨Ao35, co35, eo35⟩ := Kd.R_slice HO_7.out
                                  subst eo35
                                  try go_wp2
                                  have n0_ := Aside0.mk (Kd.R_drew HO_7.out)
                                  have n1_ := Aside0.mk (blk_drew BK297.out)
                                  have n2_ := Aside0.mk (blk_drew BK300.out)
                                  have n3_ := Aside0.mk (below_drew1 HB.out)
                                  clear HO_7
                                  clear BK297
                                  clear BK300
                                  clear HB
                                  have HO_7 := n0_
                                  have BK297 := n1_
                                  have BK300 := n2_
                                  have HB := n3_
                                  clear n0_ n1_ n2_ n3_
                                  have p305 : 0 ≤ (x10_3 : Int) := of_decide_eq_true (by first | (with_reducible assumption) | assumption)
                                  have q305 : x10_3 < (t301.length : Int) := of_decide_eq_true (by first | (with_reducible assumption) | assumption)
                                  obtain ⟨ad305, e305, hx305_0⟩ := Kd.at_int (Kd.R_reads' HO_7.out).2.2 x10_3 p305 q305
                                  cases e305
                                  replace p305 := eq_true p305
                                  replace q305 := eq_true q305
                                  have p306 : 0 ≤ ((rd t301 x10_3) : Int) := of_decide_eq_true (by first | (with_reducible assumption) | assumption)
                                  have q306 : (rd t301 x10_3) < (l0_0.length : Int) := of_decide_eq_true (by first | (with_reducible assumption) | assumption)
                                  obtain ⟨ad306, e306, hx306_0, hx306_1, hx306_2, hx306_3⟩ := at_T47 HR0_0.out (rd t301 x10_3) p306 q306
                                  have hw306_3 := hx306_3
                                  have hw306_2 := hx306_2
                                  have hw306_1 := hx306_1
                                  have hw306_0 := hx306_0
                                  obtain rfl : ad299 = ad306 := (by injection e306)
                                  replace hx306_0 := (HB.out.cell (World.block_lt_of_cell? w _ hx306_0)).trans hx306_0
                                  replace hx306_1 := (HB.out.cell (World.block_lt_of_cell? w _ hx306_1)).trans hx306_1
                                  replace hx306_2 := (HB.out.cell (World.block_lt_of_cell? w _ hx306_2)).trans hx306_2
                                  replace hx306_3 := (HB.out.cell (World.block_lt_of_cell? w _ hx306_3)).trans hx306_3
                                  replace p306 := eq_true p306
                                  replace q306 := eq_true q306
                                  refine start_ (n := 10) (S := fun w' => w'.cell? ⟨gb297, 0, none⟩ = some (.slice (some ad299) l0_0.length c0_0) ∧ w'.cell? (ad305.add (x10_3).toNat) = some (.int .i64 (rd t301 x10_3)) ∧ w'.cell? (ad299.add (((rd t301 x10_3)).toNat * 4)) = some (.int .u8 ((rd_T47 l0_0 (rd t301 x10_3)).f0)) ∧ w'.cell? ⟨(ad299.add (((rd t301 x10_3)).toNat * 4)).block, (ad299.add (((rd t301 x10_3)).toNat * 4)).off + 1, none⟩ = some (.int .i64 ((rd_T47 l0_0 (rd t301 x10_3)).f1)) ∧ w'.cell? ⟨(ad299.add (((rd t301 x10_3)).toNat * 4)).block, (ad299.add (((rd t301 x10_3)).toNat * 4)).off + 2, none⟩ = some (.int .i64 ((rd_T47 l0_0 (rd t301 x10_3)).f2)) ∧ w'.cell? ⟨(ad299.add (((rd t301 x10_3)).toNat * 4)).block, (ad299.add (((rd t301 x10_3)).toNat * 4)).off + 3, none⟩ = some (.int .i64 ((rd_T47 l0_0 (rd t301 x10_3)).f3))) (ds := []) #[false, false, false, false, false, false, false, false, false, false] (by kernel_rfl) rfl rfl ⟨(blk_cell BK297.out 0).trans rfl, hx305_0, ((HB.out.cell (World.block_lt_of_cell? w _ hw306_0)).trans hw306_0), ((HB.out.cell (World.block_lt_of_cell? w _ hw306_1)).trans hw306_1), ((HB.out.cell (World.block_lt_of_cell? w _ hw306_2)).trans hw306_2), ((HB.out.cell (World.block_lt_of_cell? w _ hw306_3)).trans hw306_3)⟩ (fun hHeld => ?_); refine with_tabW monikerref4_Valid.tab14 monikerref4_Valid.bits14 (fun HT_ HW_ => ?_)
                                  generalize wr.drew = w36 at HO_7 BK297 BK300 HB hx305_0 hx306_0 hx306_1 hx306_2 hx306_3 hHeld ⊢
                                  refine pure_ (i := 0) (N := some 57) (v := ?_) (a' := ?_) #[true, false, false, false, false, false, false, false, false, false] rfl rfl (any_of HT_.out (by kernel_rfl)) (fun _ _ _ h => h) (Or.inl ⟨by rfl, ?_⟩) ?_ ?_
                                  rotate_left
                                  · intro w'
                                    go_simp
                                    with_reducible rfl
                                  rotate_left
                                  · simp only [Act.put, List.setIfInBounds_toArray, List.set_cons_zero, List.set_cons_succ, i64_w, i32_w]
                                    rfl
                                  refine pure_ (i := 2) (N := some 59) (v := ?_) (a' := ?_) #[true, false, true, false, false, false, false, false, false, false] rfl rfl (any_of HT_.out (by kernel_rfl)) (fun _ _ _ h => h) (Or.inl ⟨by rfl, ?_⟩) ?_ ?_
                                  rotate_left
                                  · intro w'
                                    go_simp
                                    with_reducible rfl
                                  rotate_left
                                  · simp only [Act.put, List.setIfInBounds_toArray, List.set_cons_zero, List.set_cons_succ, i64_w, i32_w]
                                    rfl
                                  refine pure_ (i := 3) (N := some 60) (v := ?_) (a' := ?_) #[true, false, true, true, false, false, false, false, false, false] rfl rfl (any_of HT_.out (by kernel_rfl)) (fun _ _ _ h => h) (Or.inl ⟨by rfl, ?_⟩) ?_ ?_
                                  rotate_left
                                  · intro w'
                                    go_simp
                                    with_reducible rfl
                                  rotate_left
                                  · simp only [Act.put, List.setIfInBounds_toArray, List.set_cons_zero, List.set_cons_succ, i64_w, i32_w]
                                    rfl
                                  refine pure_ (i := 4) (N := some 61) (v := ?_) (a' := ?_) #[true, false, true, true, true, false, false, false, false, false] rfl rfl (any_of HT_.out (by kernel_rfl)) (fun _ _ _ h => h) (Or.inl ⟨by rfl, ?_⟩) ?_ ?_
                                  rotate_left
                                  · intro w'
                                    go_simp
                                    with_reducible rfl
                                  rotate_left
                                  · simp only [Act.put, List.setIfInBounds_toArray, List.set_cons_zero, List.set_cons_succ, i64_w, i32_w]
                                    rfl
                                  refine take_ (i := 1) (N := some 58) (v := ?_) (a' := ?_) #[true, true, true, true, true, false, false, false, false, false] rfl rfl (take_ofW HT_.out HW_.out (by kernel_rfl)) (fun _ _ _ h => h) (Or.inl ⟨by rfl, ?_⟩) hHeld ?_ ?_
                                  rotate_left
                                  · rintro w' ⟨s0, s1, s2, s3, s4, s5⟩
                                    go_simp
                                    with_reducible rfl
                                  rotate_left
                                  · simp only [Act.put, List.setIfInBounds_toArray, List.set_cons_zero, List.set_cons_succ, i64_w, i32_w]
                                    rfl
                                  refine take_ (i := 5) (N := some 62) (v := ?_) (a' := ?_) #[true, true, true, true, true, true, false, false, false, false] rfl rfl (take_ofW HT_.out HW_.out (by kernel_rfl)) (fun _ _ _ h => h) (Or.inl ⟨by rfl, ?_⟩) hHeld ?_ ?_
                                  rotate_left
                                  · rintro w' ⟨s0, s1, s2, s3, s4, s5⟩
                                    go_simp
                                    with_reducible rfl
                                  rotate_left
                                  · simp only [Act.put, List.setIfInBounds_toArray, List.set_cons_zero, List.set_cons_succ, i64_w, i32_w]
                                    rfl
                                  refine pure_ (i := 6) (N := some 63) (v := ?_) (a' := ?_) #[true, true, true, true, true, true, true, false, false, false] rfl rfl (any_of HT_.out (by kernel_rfl)) (fun _ _ _ h => h) (Or.inl ⟨by rfl, ?_⟩) ?_ ?_
                                  rotate_left
                                  · intro w'
                                    go_simp
                                    with_reducible rfl
                                  rotate_left
                                  · simp only [Act.put, List.setIfInBounds_toArray, List.set_cons_zero, List.set_cons_succ, i64_w, i32_w]
                                    rfl
                                  refine take_ (i := 7) (N := some 64) (v := ?_) (a' := ?_) #[true, true, true, true, true, true, true, true, false, false] rfl rfl (take_ofW HT_.out HW_.out (by kernel_rfl)) (fun _ _ _ h => h) (Or.inl ⟨by rfl, ?_⟩) hHeld ?_ ?_
                                  rotate_left
                                  · rintro w' ⟨s0, s1, s2, s3, s4, s5⟩
                                    go_simp
                                    with_reducible rfl
                                  rotate_left
                                  · simp only [Act.put, List.setIfInBounds_toArray, List.set_cons_zero, List.set_cons_succ, i64_w, i32_w]
                                    rfl
                                  refine one_ (i := 8) (N := some 11) #[true, true, true, true, true, true, true, true, true, false] rfl rfl (one_of HT_.out (by kernel_rfl)) (by decide) (fun K hK => ?_)
                                  refine box_step ?hg (N := 11) ?hd (cs := #[.int .u8 0, .int .i64 0, .int .i64 0, .int .i64 0]) (t := 47) ?hr ?_; (case hd => rfl); (case hg => rfl); (case hr => first | (go_simp; done) | (go_simp; rfl))
                                  intro gb307 hg w37 hbox hb
                                  have HS1_ := (hb.cell (World.block_lt_of_cell? _ _ (hHeld.2.1))).trans (hHeld.2.1)
                                  have n0_ := Aside0.mk (Kd.R_below (by (with_reducible repeat (first | apply Kd.R_alloc | apply Kd.R_drewN | apply Kd.R_drew)); exact HO_7.out) hb)
                                  have n1_ := Aside0.mk (blk_below (g := gb297) (o := .cells #[.slice (some ad299) l0_0.length c0_0] 25 (0, 0)) (by (with_reducible repeat (first | refine blk_drewN ?_ _ | refine blk_drew ?_ | refine blk_alloc ?_ _)); exact BK297.out) hb)
                                  have n2_ := Aside0.mk (blk_below (g := gb300) (o := .cells #[.int .u8 ((rd_T47 l0_0 x5_1).f0), .int .i64 ((rd_T47 l0_0 x5_1).f1), .int .i64 ((rd_T47 l0_0 x5_1).f2), .int .i64 ((rd_T47 l0_0 x5_1).f3)] 47 (0, 0)) (by (with_reducible repeat (first | refine blk_drewN ?_ _ | refine blk_drew ?_ | refine blk_alloc ?_ _)); exact BK300.out) hb)
                                  have n3_ := Aside0.mk (below_step (by repeat (first | (with_reducible first | exact HB.out | apply below_alloc | apply pw_below_drewN | apply below_drew1 | refine below_set ?_ GE297.out | refine below_set ?_ GE300.out) | exact HB.out)) hb)
                                  have n4_ := Aside0.mk (hbox)
                                  have n5_ := Aside0.mk ((by rw [hg]; exact (below_size (by repeat (first | (with_reducible first | exact HB.out | apply below_alloc | apply pw_below_drewN | apply below_drew1 | refine below_set ?_ GE297.out | refine below_set ?_ GE300.out) | exact HB.out))) : w.heap.size ≤ gb307))
                                  have n6_ := Aside0.mk ((by rw [hg]; exact (below_size (by repeat (first | (with_reducible first | exact HB.out | apply below_alloc | apply pw_below_drewN | apply below_drew1 | refine below_set ?_ GE297.out | refine below_set ?_ GE300.out) | exact HB.out))) : w.heap.size ≤ gb307))
                                  have n7_ := Aside0.mk ((by rw [hg]; exact Nat.ne_of_lt (blk_lt (g := gb297) (o := .cells #[.slice (some ad299) l0_0.length c0_0] 25 (0, 0)) (by (with_reducible repeat (first | refine blk_drewN ?_ _ | refine blk_drew ?_ | refine blk_alloc ?_ _)); exact BK297.out)) : gb297 ≠ gb307))
                                  have n8_ := Aside0.mk ((by rw [hg]; exact Nat.ne_of_gt (blk_lt (g := gb297) (o := .cells #[.slice (some ad299) l0_0.length c0_0] 25 (0, 0)) (by (with_reducible repeat (first | refine blk_drewN ?_ _ | refine blk_drew ?_ | refine blk_alloc ?_ _)); exact BK297.out)) : gb307 ≠ gb297))
                                  have n9_ := Aside0.mk ((by rw [hg]; exact Nat.ne_of_lt (blk_lt (g := gb300) (o := .cells #[.int .u8 ((rd_T47 l0_0 x5_1).f0), .int .i64 ((rd_T47 l0_0 x5_1).f1), .int .i64 ((rd_T47 l0_0 x5_1).f2), .int .i64 ((rd_T47 l0_0 x5_1).f3)] 47 (0, 0)) (by (with_reducible repeat (first | refine blk_drewN ?_ _ | refine blk_drew ?_ | refine blk_alloc ?_ _)); exact BK300.out)) : gb300 ≠ gb307))
                                  have n10_ := Aside0.mk ((by rw [hg]; exact Nat.ne_of_gt (blk_lt (g := gb300) (o := .cells #[.int .u8 ((rd_T47 l0_0 x5_1).f0), .int .i64 ((rd_T47 l0_0 x5_1).f1), .int .i64 ((rd_T47 l0_0 x5_1).f2), .int .i64 ((rd_T47 l0_0 x5_1).f3)] 47 (0, 0)) (by (with_reducible repeat (first | refine blk_drewN ?_ _ | refine blk_drew ?_ | refine blk_alloc ?_ _)); exact BK300.out)) : gb307 ≠ gb300))
                                  clear HO_7
                                  clear BK297
                                  clear BK300
                                  clear HB
                                  have HO_7 := n0_
                                  have BK297 := n1_
                                  have BK300 := n2_
                                  have HB := n3_
                                  have BK307 := n4_
                                  have GW307 := n5_
                                  have GE307 := n6_
                                  have NB297_307 := n7_
                                  have NB307_297 := n8_
                                  have NB300_307 := n9_
                                  have NB307_300 := n10_
                                  clear n0_ n1_ n2_ n3_ n4_ n5_ n6_ n7_ n8_ n9_ n10_
                                  clear hb hbox hg
                                  refine hK.out _ _ ⟨(blk_cell BK297.out 0).trans rfl, HS1_, ((HB.out.cell (World.block_lt_of_cell? w _ hw306_0)).trans hw306_0), ((HB.out.cell (World.block_lt_of_cell? w _ hw306_1)).trans hw306_1), ((HB.out.cell (World.block_lt_of_cell? w _ hw306_2)).trans hw306_2), ((HB.out.cell (World.block_lt_of_cell? w _ hw306_3)).trans hw306_3)⟩ (fun hHeld => ?_)
                                  clear hK K
                                  refine norm_ (a' := ?_) ?_ ?_
                                  rotate_left
                                  · show Act.put _ (some 11) _ = _
                                    simp only [Act.put, List.setIfInBounds_toArray, List.set_cons_zero, List.set_cons_succ, i64_w, i32_w]
                                    rfl
                                  refine one_ (i := 9) (N := none) #[true, true, true, true, true, true, true, true, true, true] rfl rfl (one_of HT_.out (by kernel_rfl)) (by decide) (fun K hK => ?_)
                                  have hs38 : w37.cell? ⟨gb307, 0, none⟩ = some (.int .u8 0) := (blk_cell BK307.out 0).trans rfl
                                  have hfs38 := blk_frozen BK307.out 0
                                  have hns38_0 := NB297_307.out
                                  have hns38_1 := NB300_307.out
                                  have hms38_0 := NB307_297.out
                                  have hms38_1 := NB307_300.out
                                  have hs39 : w37.cell? ⟨gb307, 1, none⟩ = some (.int .i64 0) := (blk_cell BK307.out 1).trans rfl
                                  have hfs39 := blk_frozen BK307.out 1
                                  have hns39_0 := NB297_307.out
                                  have hns39_1 := NB300_307.out
                                  have hms39_0 := NB307_297.out
                                  have hms39_1 := NB307_300.out
                                  have hs40 : w37.cell? ⟨gb307, 2, none⟩ = some (.int .i64 0) := (blk_cell BK307.out 2).trans rfl
                                  have hfs40 := blk_frozen BK307.out 2
                                  have hns40_0 := NB297_307.out
                                  have hns40_1 := NB300_307.out
                                  have hms40_0 := NB307_297.out
                                  have hms40_1 := NB307_300.out
                                  have hs41 : w37.cell? ⟨gb307, 3, none⟩ = some (.int .i64 0) := (blk_cell BK307.out 3).trans rfl
                                  have hfs41 := blk_frozen BK307.out 3
                                  have hns41_0 := NB297_307.out
                                  have hns41_1 := NB300_307.out
                                  have hms41_0 := NB307_297.out
                                  have hms41_1 := NB307_300.out
                                  refine skip_ (w1 := ?_) (by rfl) rfl ?_ ?_
                                  rotate_left
                                  · go_simp
                                    rfl
                                  refine hK.out _ _ ⟨((cell_far (p := ⟨gb307, _, none⟩) NB297_307.out _).trans (((cell_far (p := ⟨gb307, _, none⟩) NB297_307.out _).trans (((cell_far (p := ⟨gb307, _, none⟩) NB297_307.out _).trans (((cell_far (p := ⟨gb307, _, none⟩) NB297_307.out _).trans (hHeld.1)))))))), ((cell_far (p := ⟨gb307, _, none⟩) (by first | exact Kd.own_blk (Kd.R_ne HO_7.out BK307.out (by decide)) | (rw [add_block]; exact Kd.own_blk (Kd.R_ne HO_7.out BK307.out (by decide))) | (show (Addr.add _ _).block ≠ _; rw [add_block]; exact Kd.own_blk (Kd.R_ne HO_7.out BK307.out (by decide))) | (dsimp only; exact Kd.own_blk (Kd.R_ne HO_7.out BK307.out (by decide)))) _).trans (((cell_far (p := ⟨gb307, _, none⟩) (by first | exact Kd.own_blk (Kd.R_ne HO_7.out BK307.out (by decide)) | (rw [add_block]; exact Kd.own_blk (Kd.R_ne HO_7.out BK307.out (by decide))) | (show (Addr.add _ _).block ≠ _; rw [add_block]; exact Kd.own_blk (Kd.R_ne HO_7.out BK307.out (by decide))) | (dsimp only; exact Kd.own_blk (Kd.R_ne HO_7.out BK307.out (by decide)))) _).trans (((cell_far (p := ⟨gb307, _, none⟩) (by first | exact Kd.own_blk (Kd.R_ne HO_7.out BK307.out (by decide)) | (rw [add_block]; exact Kd.own_blk (Kd.R_ne HO_7.out BK307.out (by decide))) | (show (Addr.add _ _).block ≠ _; rw [add_block]; exact Kd.own_blk (Kd.R_ne HO_7.out BK307.out (by decide))) | (dsimp only; exact Kd.own_blk (Kd.R_ne HO_7.out BK307.out (by decide)))) _).trans (((cell_far (p := ⟨gb307, _, none⟩) (by first | exact Kd.own_blk (Kd.R_ne HO_7.out BK307.out (by decide)) | (rw [add_block]; exact Kd.own_blk (Kd.R_ne HO_7.out BK307.out (by decide))) | (show (Addr.add _ _).block ≠ _; rw [add_block]; exact Kd.own_blk (Kd.R_ne HO_7.out BK307.out (by decide))) | (dsimp only; exact Kd.own_blk (Kd.R_ne HO_7.out BK307.out (by decide)))) _).trans (hHeld.2.1)))))))), ((cell_far (p := ⟨gb307, _, none⟩) (by first | exact Nat.ne_of_lt (Nat.lt_of_lt_of_le (by have := World.block_lt_of_cell? _ _ hw306_0; first | rwa [add_block] at this | exact this) GW307.out) | (rw [add_block]; exact Nat.ne_of_lt (Nat.lt_of_lt_of_le (by have := World.block_lt_of_cell? _ _ hw306_0; first | rwa [add_block] at this | exact this) GW307.out)) | (show (Addr.add _ _).block ≠ _; rw [add_block]; exact Nat.ne_of_lt (Nat.lt_of_lt_of_le (by have := World.block_lt_of_cell? _ _ hw306_0; first | rwa [add_block] at this | exact this) GW307.out)) | (dsimp only; exact Nat.ne_of_lt (Nat.lt_of_lt_of_le (by have := World.block_lt_of_cell? _ _ hw306_0; first | rwa [add_block] at this | exact this) GW307.out))) _).trans (((cell_far (p := ⟨gb307, _, none⟩) (by first | exact Nat.ne_of_lt (Nat.lt_of_lt_of_le (by have := World.block_lt_of_cell? _ _ hw306_0; first | rwa [add_block] at this | exact this) GW307.out) | (rw [add_block]; exact Nat.ne_of_lt (Nat.lt_of_lt_of_le (by have := World.block_lt_of_cell? _ _ hw306_0; first | rwa [add_block] at this | exact this) GW307.out)) | (show (Addr.add _ _).block ≠ _; rw [add_block]; exact Nat.ne_of_lt (Nat.lt_of_lt_of_le (by have := World.block_lt_of_cell? _ _ hw306_0; first | rwa [add_block] at this | exact this) GW307.out)) | (dsimp only; exact Nat.ne_of_lt (Nat.lt_of_lt_of_le (by have := World.block_lt_of_cell? _ _ hw306_0; first | rwa [add_block] at this | exact this) GW307.out))) _).trans (((cell_far (p := ⟨gb307, _, none⟩) (by first | exact Nat.ne_of_lt (Nat.lt_of_lt_of_le (by have := World.block_lt_of_cell? _ _ hw306_0; first | rwa [add_block] at this | exact this) GW307.out) | (rw [add_block]; exact Nat.ne_of_lt (Nat.lt_of_lt_of_le (by have := World.block_lt_of_cell? _ _ hw306_0; first | rwa [add_block] at this | exact this) GW307.out)) | (show (Addr.add _ _).block ≠ _; rw [add_block]; exact Nat.ne_of_lt (Nat.lt_of_lt_of_le (by have := World.block_lt_of_cell? _ _ hw306_0; first | rwa [add_block] at this | exact this) GW307.out)) | (dsimp only; exact Nat.ne_of_lt (Nat.lt_of_lt_of_le (by have := World.block_lt_of_cell? _ _ hw306_0; first | rwa [add_block] at this | exact this) GW307.out))) _).trans (((cell_far (p := ⟨gb307, _, none⟩) (by first | exact Nat.ne_of_lt (Nat.lt_of_lt_of_le (by have := World.block_lt_of_cell? _ _ hw306_0; first | rwa [add_block] at this | exact this) GW307.out) | (rw [add_block]; exact Nat.ne_of_lt (Nat.lt_of_lt_of_le (by have := World.block_lt_of_cell? _ _ hw306_0; first | rwa [add_block] at this | exact this) GW307.out)) | (show (Addr.add _ _).block ≠ _; rw [add_block]; exact Nat.ne_of_lt (Nat.lt_of_lt_of_le (by have := World.block_lt_of_cell? _ _ hw306_0; first | rwa [add_block] at this | exact this) GW307.out)) | (dsimp only; exact Nat.ne_of_lt (Nat.lt_of_lt_of_le (by have := World.block_lt_of_cell? _ _ hw306_0; first | rwa [add_block] at this | exact this) GW307.out))) _).trans (hHeld.2.2.1)))))))), ((cell_far (p := ⟨gb307, _, none⟩) (by first | exact Nat.ne_of_lt (Nat.lt_of_lt_of_le (by have := World.block_lt_of_cell? _ _ hw306_1; first | rwa [add_block] at this | exact this) GW307.out) | (rw [add_block]; exact Nat.ne_of_lt (Nat.lt_of_lt_of_le (by have := World.block_lt_of_cell? _ _ hw306_1; first | rwa [add_block] at this | exact this) GW307.out)) | (show (Addr.add _ _).block ≠ _; rw [add_block]; exact Nat.ne_of_lt (Nat.lt_of_lt_of_le (by have := World.block_lt_of_cell? _ _ hw306_1; first | rwa [add_block] at this | exact this) GW307.out)) | (dsimp only; exact Nat.ne_of_lt (Nat.lt_of_lt_of_le (by have := World.block_lt_of_cell? _ _ hw306_1; first | rwa [add_block] at this | exact this) GW307.out))) _).trans (((cell_far (p := ⟨gb307, _, none⟩) (by first | exact Nat.ne_of_lt (Nat.lt_of_lt_of_le (by have := World.block_lt_of_cell? _ _ hw306_1; first | rwa [add_block] at this | exact this) GW307.out) | (rw [add_block]; exact Nat.ne_of_lt (Nat.lt_of_lt_of_le (by have := World.block_lt_of_cell? _ _ hw306_1; first | rwa [add_block] at this | exact this) GW307.out)) | (show (Addr.add _ _).block ≠ _; rw [add_block]; exact Nat.ne_of_lt (Nat.lt_of_lt_of_le (by have := World.block_lt_of_cell? _ _ hw306_1; first | rwa [add_block] at this | exact this) GW307.out)) | (dsimp only; exact Nat.ne_of_lt (Nat.lt_of_lt_of_le (by have := World.block_lt_of_cell? _ _ hw306_1; first | rwa [add_block] at this | exact this) GW307.out))) _).trans (((cell_far (p := ⟨gb307, _, none⟩) (by first | exact Nat.ne_of_lt (Nat.lt_of_lt_of_le (by have := World.block_lt_of_cell? _ _ hw306_1; first | rwa [add_block] at this | exact this) GW307.out) | (rw [add_block]; exact Nat.ne_of_lt (Nat.lt_of_lt_of_le (by have := World.block_lt_of_cell? _ _ hw306_1; first | rwa [add_block] at this | exact this) GW307.out)) | (show (Addr.add _ _).block ≠ _; rw [add_block]; exact Nat.ne_of_lt (Nat.lt_of_lt_of_le (by have := World.block_lt_of_cell? _ _ hw306_1; first | rwa [add_block] at this | exact this) GW307.out)) | (dsimp only; exact Nat.ne_of_lt (Nat.lt_of_lt_of_le (by have := World.block_lt_of_cell? _ _ hw306_1; first | rwa [add_block] at this | exact this) GW307.out))) _).trans (((cell_far (p := ⟨gb307, _, none⟩) (by first | exact Nat.ne_of_lt (Nat.lt_of_lt_of_le (by have := World.block_lt_of_cell? _ _ hw306_1; first | rwa [add_block] at this | exact this) GW307.out) | (rw [add_block]; exact Nat.ne_of_lt (Nat.lt_of_lt_of_le (by have := World.block_lt_of_cell? _ _ hw306_1; first | rwa [add_block] at this | exact this) GW307.out)) | (show (Addr.add _ _).block ≠ _; rw [add_block]; exact Nat.ne_of_lt (Nat.lt_of_lt_of_le (by have := World.block_lt_of_cell? _ _ hw306_1; first | rwa [add_block] at this | exact this) GW307.out)) | (dsimp only; exact Nat.ne_of_lt (Nat.lt_of_lt_of_le (by have := World.block_lt_of_cell? _ _ hw306_1; first | rwa [add_block] at this | exact this) GW307.out))) _).trans (hHeld.2.2.2.1)))))))), ((cell_far (p := ⟨gb307, _, none⟩) (by first | exact Nat.ne_of_lt (Nat.lt_of_lt_of_le (by have := World.block_lt_of_cell? _ _ hw306_2; first | rwa [add_block] at this | exact this) GW307.out) | (rw [add_block]; exact Nat.ne_of_lt (Nat.lt_of_lt_of_le (by have := World.block_lt_of_cell? _ _ hw306_2; first | rwa [add_block] at this | exact this) GW307.out)) | (show (Addr.add _ _).block ≠ _; rw [add_block]; exact Nat.ne_of_lt (Nat.lt_of_lt_of_le (by have := World.block_lt_of_cell? _ _ hw306_2; first | rwa [add_block] at this | exact this) GW307.out)) | (dsimp only; exact Nat.ne_of_lt (Nat.lt_of_lt_of_le (by have := World.block_lt_of_cell? _ _ hw306_2; first | rwa [add_block] at this | exact this) GW307.out))) _).trans (((cell_far (p := ⟨gb307, _, none⟩) (by first | exact Nat.ne_of_lt (Nat.lt_of_lt_of_le (by have := World.block_lt_of_cell? _ _ hw306_2; first | rwa [add_block] at this | exact this) GW307.out) | (rw [add_block]; exact Nat.ne_of_lt (Nat.lt_of_lt_of_le (by have := World.block_lt_of_cell? _ _ hw306_2; first | rwa [add_block] at this | exact this) GW307.out)) | (show (Addr.add _ _).block ≠ _; rw [add_block]; exact Nat.ne_of_lt (Nat.lt_of_lt_of_le (by have := World.block_lt_of_cell? _ _ hw306_2; first | rwa [add_block] at this | exact this) GW307.out)) | (dsimp only; exact Nat.ne_of_lt (Nat.lt_of_lt_of_le (by have := World.block_lt_of_cell? _ _ hw306_2; first | rwa [add_block] at this | exact this) GW307.out))) _).trans (((cell_far (p := ⟨gb307, _, none⟩) (by first | exact Nat.ne_of_lt (Nat.lt_of_lt_of_le (by have := World.block_lt_of_cell? _ _ hw306_2; first | rwa [add_block] at this | exact this) GW307.out) | (rw [add_block]; exact Nat.ne_of_lt (Nat.lt_of_lt_of_le (by have := World.block_lt_of_cell? _ _ hw306_2; first | rwa [add_block] at this | exact this) GW307.out)) | (show (Addr.add _ _).block ≠ _; rw [add_block]; exact Nat.ne_of_lt (Nat.lt_of_lt_of_le (by have := World.block_lt_of_cell? _ _ hw306_2; first | rwa [add_block] at this | exact this) GW307.out)) | (dsimp only; exact Nat.ne_of_lt (Nat.lt_of_lt_of_le (by have := World.block_lt_of_cell? _ _ hw306_2; first | rwa [add_block] at this | exact this) GW307.out))) _).trans (((cell_far (p := ⟨gb307, _, none⟩) (by first | exact Nat.ne_of_lt (Nat.lt_of_lt_of_le (by have := World.block_lt_of_cell? _ _ hw306_2; first | rwa [add_block] at this | exact this) GW307.out) | (rw [add_block]; exact Nat.ne_of_lt (Nat.lt_of_lt_of_le (by have := World.block_lt_of_cell? _ _ hw306_2; first | rwa [add_block] at this | exact this) GW307.out)) | (show (Addr.add _ _).block ≠ _; rw [add_block]; exact Nat.ne_of_lt (Nat.lt_of_lt_of_le (by have := World.block_lt_of_cell? _ _ hw306_2; first | rwa [add_block] at this | exact this) GW307.out)) | (dsimp only; exact Nat.ne_of_lt (Nat.lt_of_lt_of_le (by have := World.block_lt_of_cell? _ _ hw306_2; first | rwa [add_block] at this | exact this) GW307.out))) _).trans (hHeld.2.2.2.2.1)))))))), ((cell_far (p := ⟨gb307, _, none⟩) (by first | exact Nat.ne_of_lt (Nat.lt_of_lt_of_le (by have := World.block_lt_of_cell? _ _ hw306_3; first | rwa [add_block] at this | exact this) GW307.out) | (rw [add_block]; exact Nat.ne_of_lt (Nat.lt_of_lt_of_le (by have := World.block_lt_of_cell? _ _ hw306_3; first | rwa [add_block] at this | exact this) GW307.out)) | (show (Addr.add _ _).block ≠ _; rw [add_block]; exact Nat.ne_of_lt (Nat.lt_of_lt_of_le (by have := World.block_lt_of_cell? _ _ hw306_3; first | rwa [add_block] at this | exact this) GW307.out)) | (dsimp only; exact Nat.ne_of_lt (Nat.lt_of_lt_of_le (by have := World.block_lt_of_cell? _ _ hw306_3; first | rwa [add_block] at this | exact this) GW307.out))) _).trans (((cell_far (p := ⟨gb307, _, none⟩) (by first | exact Nat.ne_of_lt (Nat.lt_of_lt_of_le (by have := World.block_lt_of_cell? _ _ hw306_3; first | rwa [add_block] at this | exact this) GW307.out) | (rw [add_block]; exact Nat.ne_of_lt (Nat.lt_of_lt_of_le (by have := World.block_lt_of_cell? _ _ hw306_3; first | rwa [add_block] at this | exact this) GW307.out)) | (show (Addr.add _ _).block ≠ _; rw [add_block]; exact Nat.ne_of_lt (Nat.lt_of_lt_of_le (by have := World.block_lt_of_cell? _ _ hw306_3; first | rwa [add_block] at this | exact this) GW307.out)) | (dsimp only; exact Nat.ne_of_lt (Nat.lt_of_lt_of_le (by have := World.block_lt_of_cell? _ _ hw306_3; first | rwa [add_block] at this | exact this) GW307.out))) _).trans (((cell_far (p := ⟨gb307, _, none⟩) (by first | exact Nat.ne_of_lt (Nat.lt_of_lt_of_le (by have := World.block_lt_of_cell? _ _ hw306_3; first | rwa [add_block] at this | exact this) GW307.out) | (rw [add_block]; exact Nat.ne_of_lt (Nat.lt_of_lt_of_le (by have := World.block_lt_of_cell? _ _ hw306_3; first | rwa [add_block] at this | exact this) GW307.out)) | (show (Addr.add _ _).block ≠ _; rw [add_block]; exact Nat.ne_of_lt (Nat.lt_of_lt_of_le (by have := World.block_lt_of_cell? _ _ hw306_3; first | rwa [add_block] at this | exact this) GW307.out)) | (dsimp only; exact Nat.ne_of_lt (Nat.lt_of_lt_of_le (by have := World.block_lt_of_cell? _ _ hw306_3; first | rwa [add_block] at this | exact this) GW307.out))) _).trans (((cell_far (p := ⟨gb307, _, none⟩) (by first | exact Nat.ne_of_lt (Nat.lt_of_lt_of_le (by have := World.block_lt_of_cell? _ _ hw306_3; first | rwa [add_block] at this | exact this) GW307.out) | (rw [add_block]; exact Nat.ne_of_lt (Nat.lt_of_lt_of_le (by have := World.block_lt_of_cell? _ _ hw306_3; first | rwa [add_block] at this | exact this) GW307.out)) | (show (Addr.add _ _).block ≠ _; rw [add_block]; exact Nat.ne_of_lt (Nat.lt_of_lt_of_le (by have := World.block_lt_of_cell? _ _ hw306_3; first | rwa [add_block] at this | exact this) GW307.out)) | (dsimp only; exact Nat.ne_of_lt (Nat.lt_of_lt_of_le (by have := World.block_lt_of_cell? _ _ hw306_3; first | rwa [add_block] at this | exact this) GW307.out))) _).trans (hHeld.2.2.2.2.2))))))))⟩ (fun hHeld => ?_)
                                  clear hK K
                                  refine done_ (done_of HT_.out (by kernel_rfl)) ?_
                                  have hnb42 := NB307_297.out
                                  have hnc42 := NB297_307.out
                                  have hnb43 := NB307_300.out
                                  have hnc43 := NB300_307.out
                                  have hcz44_0 : w37.cell? ⟨gb307, 0, none⟩ = some (.int .u8 0) := (blk_cell BK307.out 0).trans rfl
                                  have hcz44_1 : w37.cell? ⟨gb307, 1, none⟩ = some (.int .i64 0) := (blk_cell BK307.out 1).trans rfl
                                  have hcz44_2 : w37.cell? ⟨gb307, 2, none⟩ = some (.int .i64 0) := (blk_cell BK307.out 2).trans rfl
                                  have hcz44_3 : w37.cell? ⟨gb307, 3, none⟩ = some (.int .i64 0) := (blk_cell BK307.out 3).trans rfl
                                  have hfz44_0 := blk_frozen BK307.out 0
                                  have hfz44_1 := blk_frozen BK307.out 1
                                  have hfz44_2 := blk_frozen BK307.out 2
                                  have hfz44_3 := blk_frozen BK307.out 3
                                  have hnb45 := NB300_297.out
                                  have hnc45 := NB297_300.out
                                  have hcz46_0 : w37.cell? ⟨gb300, 0, none⟩ = some (.int .u8 ((rd_T47 l0_0 x5_1).f0)) := (blk_cell BK300.out 0).trans rfl
                                  have hcz46_1 : w37.cell? ⟨gb300, 1, none⟩ = some (.int .i64 ((rd_T47 l0_0 x5_1).f1)) := (blk_cell BK300.out 1).trans rfl
                                  have hcz46_2 : w37.cell? ⟨gb300, 2, none⟩ = some (.int .i64 ((rd_T47 l0_0 x5_1).f2)) := (blk_cell BK300.out 2).trans rfl
                                  have hcz46_3 : w37.cell? ⟨gb300, 3, none⟩ = some (.int .i64 ((rd_T47 l0_0 x5_1).f3)) := (blk_cell BK300.out 3).trans rfl
                                  have hfz46_0 := blk_frozen BK300.out 0
                                  have hfz46_1 := blk_frozen BK300.out 1
                                  have hfz46_2 := blk_frozen BK300.out 2
                                  have hfz46_3 := blk_frozen BK300.out 3
                                  try go_wp2
                                  go_ret
                                  exact ⟨by first | rfl | (simp [errW_none, errW_some] <;> rfl) | (simp [*, errW_none, errW_some] <;> rfl), by repeat (first | (with_reducible first | exact HB.out | apply below_alloc | apply pw_below_drewN | apply below_drew1 | refine below_set ?_ GE297.out | refine below_set ?_ GE300.out | refine below_set ?_ GE307.out) | exact HB.out)⟩
                                · rw [if_neg c34] at H
                                  have c34b0 : decide (((rd_T47 l0_0 (rd t301 x10_3)).f1) < ((rd_T47 l0_0 x5_1).f1)) = false := decide_eq_false c34
                                  clear c34
                                  have H' := Aside0.mk H
                                  clear H
                                  obtain ⟨Ao47, co47, eo47⟩ := Kd.R_slice HO_7.out
                                  subst eo47
                                  try go_wp2
                                  have n0_ := Aside0.mk (Kd.R_drew HO_7.out)
                                  have n1_ := Aside0.mk (blk_drew BK297.out)
                                  have n2_ := Aside0.mk (blk_drew BK300.out)
                                  have n3_ := Aside0.mk (below_drew1 HB.out)
                                  clear HO_7
                                  clear BK297
                                  clear BK300
                                  clear HB
                                  have HO_7 := n0_
                                  have BK297 := n1_
                                  have BK300 := n2_
                                  have HB := n3_
                                  clear n0_ n1_ n2_ n3_
                                  have p305 : 0 ≤ (x10_3 : Int) := of_decide_eq_true (by first | (with_reducible assumption) | assumption)
                                  have q305 : x10_3 < (t301.length : Int) := of_decide_eq_true (by first | (with_reducible assumption) | assumption)
                                  obtain ⟨ad305, e305, hx305_0⟩ := Kd.at_int (Kd.R_reads' HO_7.out).2.2 x10_3 p305 q305
                                  cases e305
                                  replace p305 := eq_true p305
                                  replace q305 := eq_true q305
                                  have p306 : 0 ≤ ((rd t301 x10_3) : Int) := of_decide_eq_true (by first | (with_reducible assumption) | assumption)
                                  have q306 : (rd t301 x10_3) < (l0_0.length : Int) := of_decide_eq_true (by first | (with_reducible assumption) | assumption)
                                  obtain ⟨ad306, e306, hx306_0, hx306_1, hx306_2, hx306_3⟩ := at_T47 HR0_0.out (rd t301 x10_3) p306 q306
                                  have hw306_3 := hx306_3
                                  have hw306_2 := hx306_2
                                  have hw306_1 := hx306_1
                                  have hw306_0 := hx306_0
                                  obtain rfl : ad299 = ad306 := (by injection e306)
                                  replace hx306_0 := (HB.out.cell (World.block_lt_of_cell? w _ hx306_0)).trans hx306_0
                                  replace hx306_1 := (HB.out.cell (World.block_lt_of_cell? w _ hx306_1)).trans hx306_1
                                  replace hx306_2 := (HB.out.cell (World.block_lt_of_cell? w _ hx306_2)).trans hx306_2
                                  replace hx306_3 := (HB.out.cell (World.block_lt_of_cell? w _ hx306_3)).trans hx306_3
                                  replace p306 := eq_true p306
                                  replace q306 := eq_true q306
                                  refine start_ (n := 10) (S := fun w' => w'.cell? ⟨gb297, 0, none⟩ = some (.slice (some ad299) l0_0.length c0_0) ∧ w'.cell? (ad305.add (x10_3).toNat) = some (.int .i64 (rd t301 x10_3)) ∧ w'.cell? (ad299.add (((rd t301 x10_3)).toNat * 4)) = some (.int .u8 ((rd_T47 l0_0 (rd t301 x10_3)).f0)) ∧ w'.cell? ⟨(ad299.add (((rd t301 x10_3)).toNat * 4)).block, (ad299.add (((rd t301 x10_3)).toNat * 4)).off + 1, none⟩ = some (.int .i64 ((rd_T47 l0_0 (rd t301 x10_3)).f1)) ∧ w'.cell? ⟨(ad299.add (((rd t301 x10_3)).toNat * 4)).block, (ad299.add (((rd t301 x10_3)).toNat * 4)).off + 2, none⟩ = some (.int .i64 ((rd_T47 l0_0 (rd t301 x10_3)).f2)) ∧ w'.cell? ⟨(ad299.add (((rd t301 x10_3)).toNat * 4)).block, (ad299.add (((rd t301 x10_3)).toNat * 4)).off + 3, none⟩ = some (.int .i64 ((rd_T47 l0_0 (rd t301 x10_3)).f3))) (ds := []) #[false, false, false, false, false, false, false, false, false, false] (by kernel_rfl) rfl rfl ⟨(blk_cell BK297.out 0).trans rfl, hx305_0, ((HB.out.cell (World.block_lt_of_cell? w _ hw306_0)).trans hw306_0), ((HB.out.cell (World.block_lt_of_cell? w _ hw306_1)).trans hw306_1), ((HB.out.cell (World.block_lt_of_cell? w _ hw306_2)).trans hw306_2), ((HB.out.cell (World.block_lt_of_cell? w _ hw306_3)).trans hw306_3)⟩ (fun hHeld => ?_); refine with_tabW monikerref4_Valid.tab14 monikerref4_Valid.bits14 (fun HT_ HW_ => ?_)
                                  generalize wr.drew = w48 at HO_7 BK297 BK300 HB hx305_0 hx306_0 hx306_1 hx306_2 hx306_3 hHeld ⊢
                                  refine pure_ (i := 0) (N := some 57) (v := ?_) (a' := ?_) #[true, false, false, false, false, false, false, false, false, false] rfl rfl (any_of HT_.out (by kernel_rfl)) (fun _ _ _ h => h) (Or.inl ⟨by rfl, ?_⟩) ?_ ?_
                                  rotate_left
                                  · intro w'
                                    go_simp
                                    with_reducible rfl
                                  rotate_left
                                  · simp only [Act.put, List.setIfInBounds_toArray, List.set_cons_zero, List.set_cons_succ, i64_w, i32_w]
                                    rfl
                                  refine pure_ (i := 2) (N := some 59) (v := ?_) (a' := ?_) #[true, false, true, false, false, false, false, false, false, false] rfl rfl (any_of HT_.out (by kernel_rfl)) (fun _ _ _ h => h) (Or.inl ⟨by rfl, ?_⟩) ?_ ?_
                                  rotate_left
                                  · intro w'
                                    go_simp
                                    with_reducible rfl
                                  rotate_left
                                  · simp only [Act.put, List.setIfInBounds_toArray, List.set_cons_zero, List.set_cons_succ, i64_w, i32_w]
                                    rfl
                                  refine pure_ (i := 3) (N := some 60) (v := ?_) (a' := ?_) #[true, false, true, true, false, false, false, false, false, false] rfl rfl (any_of HT_.out (by kernel_rfl)) (fun _ _ _ h => h) (Or.inl ⟨by rfl, ?_⟩) ?_ ?_
                                  rotate_left
                                  · intro w'
                                    go_simp
                                    with_reducible rfl
                                  rotate_left
                                  · simp only [Act.put, List.setIfInBounds_toArray, List.set_cons_zero, List.set_cons_succ, i64_w, i32_w]
                                    rfl
                                  refine pure_ (i := 4) (N := some 61) (v := ?_) (a' := ?_) #[true, false, true, true, true, false, false, false, false, false] rfl rfl (any_of HT_.out (by kernel_rfl)) (fun _ _ _ h => h) (Or.inl ⟨by rfl, ?_⟩) ?_ ?_
                                  rotate_left
                                  · intro w'
                                    go_simp
                                    with_reducible rfl
                                  rotate_left
                                  · simp only [Act.put, List.setIfInBounds_toArray, List.set_cons_zero, List.set_cons_succ, i64_w, i32_w]
                                    rfl
                                  refine take_ (i := 1) (N := some 58) (v := ?_) (a' := ?_) #[true, true, true, true, true, false, false, false, false, false] rfl rfl (take_ofW HT_.out HW_.out (by kernel_rfl)) (fun _ _ _ h => h) (Or.inl ⟨by rfl, ?_⟩) hHeld ?_ ?_
                                  rotate_left
                                  · rintro w' ⟨s0, s1, s2, s3, s4, s5⟩
                                    go_simp
                                    with_reducible rfl
                                  rotate_left
                                  · simp only [Act.put, List.setIfInBounds_toArray, List.set_cons_zero, List.set_cons_succ, i64_w, i32_w]
                                    rfl
                                  refine take_ (i := 5) (N := some 62) (v := ?_) (a' := ?_) #[true, true, true, true, true, true, false, false, false, false] rfl rfl (take_ofW HT_.out HW_.out (by kernel_rfl)) (fun _ _ _ h => h) (Or.inl ⟨by rfl, ?_⟩) hHeld ?_ ?_
                                  rotate_left
                                  · rintro w' ⟨s0, s1, s2, s3, s4, s5⟩
                                    go_simp
                                    with_reducible rfl
                                  rotate_left
                                  · simp only [Act.put, List.setIfInBounds_toArray, List.set_cons_zero, List.set_cons_succ, i64_w, i32_w]
                                    rfl
                                  refine pure_ (i := 6) (N := some 63) (v := ?_) (a' := ?_) #[true, true, true, true, true, true, true, false, false, false] rfl rfl (any_of HT_.out (by kernel_rfl)) (fun _ _ _ h => h) (Or.inl ⟨by rfl, ?_⟩) ?_ ?_
                                  rotate_left
                                  · intro w'
                                    go_simp
                                    with_reducible rfl
                                  rotate_left
                                  · simp only [Act.put, List.setIfInBounds_toArray, List.set_cons_zero, List.set_cons_succ, i64_w, i32_w]
                                    rfl
                                  refine take_ (i := 7) (N := some 64) (v := ?_) (a' := ?_) #[true, true, true, true, true, true, true, true, false, false] rfl rfl (take_ofW HT_.out HW_.out (by kernel_rfl)) (fun _ _ _ h => h) (Or.inl ⟨by rfl, ?_⟩) hHeld ?_ ?_
                                  rotate_left
                                  · rintro w' ⟨s0, s1, s2, s3, s4, s5⟩
                                    go_simp
                                    with_reducible rfl
                                  rotate_left
                                  · simp only [Act.put, List.setIfInBounds_toArray, List.set_cons_zero, List.set_cons_succ, i64_w, i32_w]
                                    rfl
                                  refine one_ (i := 8) (N := some 11) #[true, true, true, true, true, true, true, true, true, false] rfl rfl (one_of HT_.out (by kernel_rfl)) (by decide) (fun K hK => ?_)
                                  refine box_step ?hg (N := 11) ?hd (cs := #[.int .u8 0, .int .i64 0, .int .i64 0, .int .i64 0]) (t := 47) ?hr ?_; (case hd => rfl); (case hg => rfl); (case hr => first | (go_simp; done) | (go_simp; rfl))
                                  intro gb307 hg w49 hbox hb
                                  have HS1_ := (hb.cell (World.block_lt_of_cell? _ _ (hHeld.2.1))).trans (hHeld.2.1)
                                  have n0_ := Aside0.mk (Kd.R_below (by (with_reducible repeat (first | apply Kd.R_alloc | apply Kd.R_drewN | apply Kd.R_drew)); exact HO_7.out) hb)
                                  have n1_ := Aside0.mk (blk_below (g := gb297) (o := .cells #[.slice (some ad299) l0_0.length c0_0] 25 (0, 0)) (by (with_reducible repeat (first | refine blk_drewN ?_ _ | refine blk_drew ?_ | refine blk_alloc ?_ _)); exact BK297.out) hb)
                                  have n2_ := Aside0.mk (blk_below (g := gb300) (o := .cells #[.int .u8 ((rd_T47 l0_0 x5_1).f0), .int .i64 ((rd_T47 l0_0 x5_1).f1), .int .i64 ((rd_T47 l0_0 x5_1).f2), .int .i64 ((rd_T47 l0_0 x5_1).f3)] 47 (0, 0)) (by (with_reducible repeat (first | refine blk_drewN ?_ _ | refine blk_drew ?_ | refine blk_alloc ?_ _)); exact BK300.out) hb)
                                  have n3_ := Aside0.mk (below_step (by repeat (first | (with_reducible first | exact HB.out | apply below_alloc | apply pw_below_drewN | apply below_drew1 | refine below_set ?_ GE297.out | refine below_set ?_ GE300.out) | exact HB.out)) hb)
                                  have n4_ := Aside0.mk (hbox)
                                  have n5_ := Aside0.mk ((by rw [hg]; exact (below_size (by repeat (first | (with_reducible first | exact HB.out | apply below_alloc | apply pw_below_drewN | apply below_drew1 | refine below_set ?_ GE297.out | refine below_set ?_ GE300.out) | exact HB.out))) : w.heap.size ≤ gb307))
                                  have n6_ := Aside0.mk ((by rw [hg]; exact (below_size (by repeat (first | (with_reducible first | exact HB.out | apply below_alloc | apply pw_below_drewN | apply below_drew1 | refine below_set ?_ GE297.out | refine below_set ?_ GE300.out) | exact HB.out))) : w.heap.size ≤ gb307))
                                  have n7_ := Aside0.mk ((by rw [hg]; exact Nat.ne_of_lt (blk_lt (g := gb297) (o := .cells #[.slice (some ad299) l0_0.length c0_0] 25 (0, 0)) (by (with_reducible repeat (first | refine blk_drewN ?_ _ | refine blk_drew ?_ | refine blk_alloc ?_ _)); exact BK297.out)) : gb297 ≠ gb307))
                                  have n8_ := Aside0.mk ((by rw [hg]; exact Nat.ne_of_gt (blk_lt (g := gb297) (o := .cells #[.slice (some ad299) l0_0.length c0_0] 25 (0, 0)) (by (with_reducible repeat (first | refine blk_drewN ?_ _ | refine blk_drew ?_ | refine blk_alloc ?_ _)); exact BK297.out)) : gb307 ≠ gb297))
                                  have n9_ := Aside0.mk ((by rw [hg]; exact Nat.ne_of_lt (blk_lt (g := gb300) (o := .cells #[.int .u8 ((rd_T47 l0_0 x5_1).f0), .int .i64 ((rd_T47 l0_0 x5_1).f1), .int .i64 ((rd_T47 l0_0 x5_1).f2), .int .i64 ((rd_T47 l0_0 x5_1).f3)] 47 (0, 0)) (by (with_reducible repeat (first | refine blk_drewN ?_ _ | refine blk_drew ?_ | refine blk_alloc ?_ _)); exact BK300.out)) : gb300 ≠ gb307))
                                  have n10_ := Aside0.mk ((by rw [hg]; exact Nat.ne_of_gt (blk_lt (g := gb300) (o := .cells #[.int .u8 ((rd_T47 l0_0 x5_1).f0), .int .i64 ((rd_T47 l0_0 x5_1).f1), .int .i64 ((rd_T47 l0_0 x5_1).f2), .int .i64 ((rd_T47 l0_0 x5_1).f3)] 47 (0, 0)) (by (with_reducible repeat (first | refine blk_drewN ?_ _ | refine blk_drew ?_ | refine blk_alloc ?_ _)); exact BK300.out)) : gb307 ≠ gb300))
                                  clear HO_7
                                  clear BK297
                                  clear BK300
                                  clear HB
                                  have HO_7 := n0_
                                  have BK297 := n1_
                                  have BK300 := n2_
                                  have HB := n3_
                                  have BK307 := n4_
                                  have GW307 := n5_
                                  have GE307 := n6_
                                  have NB297_307 := n7_
                                  have NB307_297 := n8_
                                  have NB300_307 := n9_
                                  have NB307_300 := n10_
                                  clear n0_ n1_ n2_ n3_ n4_ n5_ n6_ n7_ n8_ n9_ n10_
                                  clear hb hbox hg
                                  refine hK.out _ _ ⟨(blk_cell BK297.out 0).trans rfl, HS1_, ((HB.out.cell (World.block_lt_of_cell? w _ hw306_0)).trans hw306_0), ((HB.out.cell (World.block_lt_of_cell? w _ hw306_1)).trans hw306_1), ((HB.out.cell (World.block_lt_of_cell? w _ hw306_2)).trans hw306_2), ((HB.out.cell (World.block_lt_of_cell? w _ hw306_3)).trans hw306_3)⟩ (fun hHeld => ?_)
                                  clear hK K
                                  refine norm_ (a' := ?_) ?_ ?_
                                  rotate_left
                                  · show Act.put _ (some 11) _ = _
                                    simp only [Act.put, List.setIfInBounds_toArray, List.set_cons_zero, List.set_cons_succ, i64_w, i32_w]
                                    rfl
                                  refine one_ (i := 9) (N := none) #[true, true, true, true, true, true, true, true, true, true] rfl rfl (one_of HT_.out (by kernel_rfl)) (by decide) (fun K hK => ?_)
                                  have hs50 : w49.cell? ⟨gb307, 0, none⟩ = some (.int .u8 0) := (blk_cell BK307.out 0).trans rfl
                                  have hfs50 := blk_frozen BK307.out 0
                                  have hns50_0 := NB297_307.out
                                  have hns50_1 := NB300_307.out
                                  have hms50_0 := NB307_297.out
                                  have hms50_1 := NB307_300.out
                                  have hs51 : w49.cell? ⟨gb307, 1, none⟩ = some (.int .i64 0) := (blk_cell BK307.out 1).trans rfl
                                  have hfs51 := blk_frozen BK307.out 1
                                  have hns51_0 := NB297_307.out
                                  have hns51_1 := NB300_307.out
                                  have hms51_0 := NB307_297.out
                                  have hms51_1 := NB307_300.out
                                  have hs52 : w49.cell? ⟨gb307, 2, none⟩ = some (.int .i64 0) := (blk_cell BK307.out 2).trans rfl
                                  have hfs52 := blk_frozen BK307.out 2
                                  have hns52_0 := NB297_307.out
                                  have hns52_1 := NB300_307.out
                                  have hms52_0 := NB307_297.out
                                  have hms52_1 := NB307_300.out
                                  have hs53 : w49.cell? ⟨gb307, 3, none⟩ = some (.int .i64 0) := (blk_cell BK307.out 3).trans rfl
                                  have hfs53 := blk_frozen BK307.out 3
                                  have hns53_0 := NB297_307.out
                                  have hns53_1 := NB300_307.out
                                  have hms53_0 := NB307_297.out
                                  have hms53_1 := NB307_300.out
                                  refine skip_ (w1 := ?_) (by rfl) rfl ?_ ?_
                                  rotate_left
                                  · go_simp
                                    rfl
                                  refine hK.out _ _ ⟨((cell_far (p := ⟨gb307, _, none⟩) NB297_307.out _).trans (((cell_far (p := ⟨gb307, _, none⟩) NB297_307.out _).trans (((cell_far (p := ⟨gb307, _, none⟩) NB297_307.out _).trans (((cell_far (p := ⟨gb307, _, none⟩) NB297_307.out _).trans (hHeld.1)))))))), ((cell_far (p := ⟨gb307, _, none⟩) (by first | exact Kd.own_blk (Kd.R_ne HO_7.out BK307.out (by decide)) | (rw [add_block]; exact Kd.own_blk (Kd.R_ne HO_7.out BK307.out (by decide))) | (show (Addr.add _ _).block ≠ _; rw [add_block]; exact Kd.own_blk (Kd.R_ne HO_7.out BK307.out (by decide))) | (dsimp only; exact Kd.own_blk (Kd.R_ne HO_7.out BK307.out (by decide)))) _).trans (((cell_far (p := ⟨gb307, _, none⟩) (by first | exact Kd.own_blk (Kd.R_ne HO_7.out BK307.out (by decide)) | (rw [add_block]; exact Kd.own_blk (Kd.R_ne HO_7.out BK307.out (by decide))) | (show (Addr.add _ _).block ≠ _; rw [add_block]; exact Kd.own_blk (Kd.R_ne HO_7.out BK307.out (by decide))) | (dsimp only; exact Kd.own_blk (Kd.R_ne HO_7.out BK307.out (by decide)))) _).trans (((cell_far (p := ⟨gb307, _, none⟩) (by first | exact Kd.own_blk (Kd.R_ne HO_7.out BK307.out (by decide)) | (rw [add_block]; exact Kd.own_blk (Kd.R_ne HO_7.out BK307.out (by decide))) | (show (Addr.add _ _).block ≠ _; rw [add_block]; exact Kd.own_blk (Kd.R_ne HO_7.out BK307.out (by decide))) | (dsimp only; exact Kd.own_blk (Kd.R_ne HO_7.out BK307.out (by decide)))) _).trans (((cell_far (p := ⟨gb307, _, none⟩) (by first | exact Kd.own_blk (Kd.R_ne HO_7.out BK307.out (by decide)) | (rw [add_block]; exact Kd.own_blk (Kd.R_ne HO_7.out BK307.out (by decide))) | (show (Addr.add _ _).block ≠ _; rw [add_block]; exact Kd.own_blk (Kd.R_ne HO_7.out BK307.out (by decide))) | (dsimp only; exact Kd.own_blk (Kd.R_ne HO_7.out BK307.out (by decide)))) _).trans (hHeld.2.1)))))))), ((cell_far (p := ⟨gb307, _, none⟩) (by first | exact Nat.ne_of_lt (Nat.lt_of_lt_of_le (by have := World.block_lt_of_cell? _ _ hw306_0; first | rwa [add_block] at this | exact this) GW307.out) | (rw [add_block]; exact Nat.ne_of_lt (Nat.lt_of_lt_of_le (by have := World.block_lt_of_cell? _ _ hw306_0; first | rwa [add_block] at this | exact this) GW307.out)) | (show (Addr.add _ _).block ≠ _; rw [add_block]; exact Nat.ne_of_lt (Nat.lt_of_lt_of_le (by have := World.block_lt_of_cell? _ _ hw306_0; first | rwa [add_block] at this | exact this) GW307.out)) | (dsimp only; exact Nat.ne_of_lt (Nat.lt_of_lt_of_le (by have := World.block_lt_of_cell? _ _ hw306_0; first | rwa [add_block] at this | exact this) GW307.out))) _).trans (((cell_far (p := ⟨gb307, _, none⟩) (by first | exact Nat.ne_of_lt (Nat.lt_of_lt_of_le (by have := World.block_lt_of_cell? _ _ hw306_0; first | rwa [add_block] at this | exact this) GW307.out) | (rw [add_block]; exact Nat.ne_of_lt (Nat.lt_of_lt_of_le (by have := World.block_lt_of_cell? _ _ hw306_0; first | rwa [add_block] at this | exact this) GW307.out)) | (show (Addr.add _ _).block ≠ _; rw [add_block]; exact Nat.ne_of_lt (Nat.lt_of_lt_of_le (by have := World.block_lt_of_cell? _ _ hw306_0; first | rwa [add_block] at this | exact this) GW307.out)) | (dsimp only; exact Nat.ne_of_lt (Nat.lt_of_lt_of_le (by have := World.block_lt_of_cell? _ _ hw306_0; first | rwa [add_block] at this | exact this) GW307.out))) _).trans (((cell_far (p := ⟨gb307, _, none⟩) (by first | exact Nat.ne_of_lt (Nat.lt_of_lt_of_le (by have := World.block_lt_of_cell? _ _ hw306_0; first | rwa [add_block] at this | exact this) GW307.out) | (rw [add_block]; exact Nat.ne_of_lt (Nat.lt_of_lt_of_le (by have := World.block_lt_of_cell? _ _ hw306_0; first | rwa [add_block] at this | exact this) GW307.out)) | (show (Addr.add _ _).block ≠ _; rw [add_block]; exact Nat.ne_of_lt (Nat.lt_of_lt_of_le (by have := World.block_lt_of_cell? _ _ hw306_0; first | rwa [add_block] at this | exact this) GW307.out)) | (dsimp only; exact Nat.ne_of_lt (Nat.lt_of_lt_of_le (by have := World.block_lt_of_cell? _ _ hw306_0; first | rwa [add_block] at this | exact this) GW307.out))) _).trans (((cell_far (p := ⟨gb307, _, none⟩) (by first | exact Nat.ne_of_lt (Nat.lt_of_lt_of_le (by have := World.block_lt_of_cell? _ _ hw306_0; first | rwa [add_block] at this | exact this) GW307.out) | (rw [add_block]; exact Nat.ne_of_lt (Nat.lt_of_lt_of_le (by have := World.block_lt_of_cell? _ _ hw306_0; first | rwa [add_block] at this | exact this) GW307.out)) | (show (Addr.add _ _).block ≠ _; rw [add_block]; exact Nat.ne_of_lt (Nat.lt_of_lt_of_le (by have := World.block_lt_of_cell? _ _ hw306_0; first | rwa [add_block] at this | exact this) GW307.out)) | (dsimp only; exact Nat.ne_of_lt (Nat.lt_of_lt_of_le (by have := World.block_lt_of_cell? _ _ hw306_0; first | rwa [add_block] at this | exact this) GW307.out))) _).trans (hHeld.2.2.1)))))))), ((cell_far (p := ⟨gb307, _, none⟩) (by first | exact Nat.ne_of_lt (Nat.lt_of_lt_of_le (by have := World.block_lt_of_cell? _ _ hw306_1; first | rwa [add_block] at this | exact this) GW307.out) | (rw [add_block]; exact Nat.ne_of_lt (Nat.lt_of_lt_of_le (by have := World.block_lt_of_cell? _ _ hw306_1; first | rwa [add_block] at this | exact this) GW307.out)) | (show (Addr.add _ _).block ≠ _; rw [add_block]; exact Nat.ne_of_lt (Nat.lt_of_lt_of_le (by have := World.block_lt_of_cell? _ _ hw306_1; first | rwa [add_block] at this | exact this) GW307.out)) | (dsimp only; exact Nat.ne_of_lt (Nat.lt_of_lt_of_le (by have := World.block_lt_of_cell? _ _ hw306_1; first | rwa [add_block] at this | exact this) GW307.out))) _).trans (((cell_far (p := ⟨gb307, _, none⟩) (by first | exact Nat.ne_of_lt (Nat.lt_of_lt_of_le (by have := World.block_lt_of_cell? _ _ hw306_1; first | rwa [add_block] at this | exact this) GW307.out) | (rw [add_block]; exact Nat.ne_of_lt (Nat.lt_of_lt_of_le (by have := World.block_lt_of_cell? _ _ hw306_1; first | rwa [add_block] at this | exact this) GW307.out)) | (show (Addr.add _ _).block ≠ _; rw [add_block]; exact Nat.ne_of_lt (Nat.lt_of_lt_of_le (by have := World.block_lt_of_cell? _ _ hw306_1; first | rwa [add_block] at this | exact this) GW307.out)) | (dsimp only; exact Nat.ne_of_lt (Nat.lt_of_lt_of_le (by have := World.block_lt_of_cell? _ _ hw306_1; first | rwa [add_block] at this | exact this) GW307.out))) _).trans (((cell_far (p := ⟨gb307, _, none⟩) (by first | exact Nat.ne_of_lt (Nat.lt_of_lt_of_le (by have := World.block_lt_of_cell? _ _ hw306_1; first | rwa [add_block] at this | exact this) GW307.out) | (rw [add_block]; exact Nat.ne_of_lt (Nat.lt_of_lt_of_le (by have := World.block_lt_of_cell? _ _ hw306_1; first | rwa [add_block] at this | exact this) GW307.out)) | (show (Addr.add _ _).block ≠ _; rw [add_block]; exact Nat.ne_of_lt (Nat.lt_of_lt_of_le (by have := World.block_lt_of_cell? _ _ hw306_1; first | rwa [add_block] at this | exact this) GW307.out)) | (dsimp only; exact Nat.ne_of_lt (Nat.lt_of_lt_of_le (by have := World.block_lt_of_cell? _ _ hw306_1; first | rwa [add_block] at this | exact this) GW307.out))) _).trans (((cell_far (p := ⟨gb307, _, none⟩) (by first | exact Nat.ne_of_lt (Nat.lt_of_lt_of_le (by have := World.block_lt_of_cell? _ _ hw306_1; first | rwa [add_block] at this | exact this) GW307.out) | (rw [add_block]; exact Nat.ne_of_lt (Nat.lt_of_lt_of_le (by have := World.block_lt_of_cell? _ _ hw306_1; first | rwa [add_block] at this | exact this) GW307.out)) | (show (Addr.add _ _).block ≠ _; rw [add_block]; exact Nat.ne_of_lt (Nat.lt_of_lt_of_le (by have := World.block_lt_of_cell? _ _ hw306_1; first | rwa [add_block] at this | exact this) GW307.out)) | (dsimp only; exact Nat.ne_of_lt (Nat.lt_of_lt_of_le (by have := World.block_lt_of_cell? _ _ hw306_1; first | rwa [add_block] at this | exact this) GW307.out))) _).trans (hHeld.2.2.2.1)))))))), ((cell_far (p := ⟨gb307, _, none⟩) (by first | exact Nat.ne_of_lt (Nat.lt_of_lt_of_le (by have := World.block_lt_of_cell? _ _ hw306_2; first | rwa [add_block] at this | exact this) GW307.out) | (rw [add_block]; exact Nat.ne_of_lt (Nat.lt_of_lt_of_le (by have := World.block_lt_of_cell? _ _ hw306_2; first | rwa [add_block] at this | exact this) GW307.out)) | (show (Addr.add _ _).block ≠ _; rw [add_block]; exact Nat.ne_of_lt (Nat.lt_of_lt_of_le (by have := World.block_lt_of_cell? _ _ hw306_2; first | rwa [add_block] at this | exact this) GW307.out)) | (dsimp only; exact Nat.ne_of_lt (Nat.lt_of_lt_of_le (by have := World.block_lt_of_cell? _ _ hw306_2; first | rwa [add_block] at this | exact this) GW307.out))) _).trans (((cell_far (p := ⟨gb307, _, none⟩) (by first | exact Nat.ne_of_lt (Nat.lt_of_lt_of_le (by have := World.block_lt_of_cell? _ _ hw306_2; first | rwa [add_block] at this | exact this) GW307.out) | (rw [add_block]; exact Nat.ne_of_lt (Nat.lt_of_lt_of_le (by have := World.block_lt_of_cell? _ _ hw306_2; first | rwa [add_block] at this | exact this) GW307.out)) | (show (Addr.add _ _).block ≠ _; rw [add_block]; exact Nat.ne_of_lt (Nat.lt_of_lt_of_le (by have := World.block_lt_of_cell? _ _ hw306_2; first | rwa [add_block] at this | exact this) GW307.out)) | (dsimp only; exact Nat.ne_of_lt (Nat.lt_of_lt_of_le (by have := World.block_lt_of_cell? _ _ hw306_2; first | rwa [add_block] at this | exact this) GW307.out))) _).trans (((cell_far (p := ⟨gb307, _, none⟩) (by first | exact Nat.ne_of_lt (Nat.lt_of_lt_of_le (by have := World.block_lt_of_cell? _ _ hw306_2; first | rwa [add_block] at this | exact this) GW307.out) | (rw [add_block]; exact Nat.ne_of_lt (Nat.lt_of_lt_of_le (by have := World.block_lt_of_cell? _ _ hw306_2; first | rwa [add_block] at this | exact this) GW307.out)) | (show (Addr.add _ _).block ≠ _; rw [add_block]; exact Nat.ne_of_lt (Nat.lt_of_lt_of_le (by have := World.block_lt_of_cell? _ _ hw306_2; first | rwa [add_block] at this | exact this) GW307.out)) | (dsimp only; exact Nat.ne_of_lt (Nat.lt_of_lt_of_le (by have := World.block_lt_of_cell? _ _ hw306_2; first | rwa [add_block] at this | exact this) GW307.out))) _).trans (((cell_far (p := ⟨gb307, _, none⟩) (by first | exact Nat.ne_of_lt (Nat.lt_of_lt_of_le (by have := World.block_lt_of_cell? _ _ hw306_2; first | rwa [add_block] at this | exact this) GW307.out) | (rw [add_block]; exact Nat.ne_of_lt (Nat.lt_of_lt_of_le (by have := World.block_lt_of_cell? _ _ hw306_2; first | rwa [add_block] at this | exact this) GW307.out)) | (show (Addr.add _ _).block ≠ _; rw [add_block]; exact Nat.ne_of_lt (Nat.lt_of_lt_of_le (by have := World.block_lt_of_cell? _ _ hw306_2; first | rwa [add_block] at this | exact this) GW307.out)) | (dsimp only; exact Nat.ne_of_lt (Nat.lt_of_lt_of_le (by have := World.block_lt_of_cell? _ _ hw306_2; first | rwa [add_block] at this | exact this) GW307.out))) _).trans (hHeld.2.2.2.2.1)))))))), ((cell_far (p := ⟨gb307, _, none⟩) (by first | exact Nat.ne_of_lt (Nat.lt_of_lt_of_le (by have := World.block_lt_of_cell? _ _ hw306_3; first | rwa [add_block] at this | exact this) GW307.out) | (rw [add_block]; exact Nat.ne_of_lt (Nat.lt_of_lt_of_le (by have := World.block_lt_of_cell? _ _ hw306_3; first | rwa [add_block] at this | exact this) GW307.out)) | (show (Addr.add _ _).block ≠ _; rw [add_block]; exact Nat.ne_of_lt (Nat.lt_of_lt_of_le (by have := World.block_lt_of_cell? _ _ hw306_3; first | rwa [add_block] at this | exact this) GW307.out)) | (dsimp only; exact Nat.ne_of_lt (Nat.lt_of_lt_of_le (by have := World.block_lt_of_cell? _ _ hw306_3; first | rwa [add_block] at this | exact this) GW307.out))) _).trans (((cell_far (p := ⟨gb307, _, none⟩) (by first | exact Nat.ne_of_lt (Nat.lt_of_lt_of_le (by have := World.block_lt_of_cell? _ _ hw306_3; first | rwa [add_block] at this | exact this) GW307.out) | (rw [add_block]; exact Nat.ne_of_lt (Nat.lt_of_lt_of_le (by have := World.block_lt_of_cell? _ _ hw306_3; first | rwa [add_block] at this | exact this) GW307.out)) | (show (Addr.add _ _).block ≠ _; rw [add_block]; exact Nat.ne_of_lt (Nat.lt_of_lt_of_le (by have := World.block_lt_of_cell? _ _ hw306_3; first | rwa [add_block] at this | exact this) GW307.out)) | (dsimp only; exact Nat.ne_of_lt (Nat.lt_of_lt_of_le (by have := World.block_lt_of_cell? _ _ hw306_3; first | rwa [add_block] at this | exact this) GW307.out))) _).trans (((cell_far (p := ⟨gb307, _, none⟩) (by first | exact Nat.ne_of_lt (Nat.lt_of_lt_of_le (by have := World.block_lt_of_cell? _ _ hw306_3; first | rwa [add_block] at this | exact this) GW307.out) | (rw [add_block]; exact Nat.ne_of_lt (Nat.lt_of_lt_of_le (by have := World.block_lt_of_cell? _ _ hw306_3; first | rwa [add_block] at this | exact this) GW307.out)) | (show (Addr.add _ _).block ≠ _; rw [add_block]; exact Nat.ne_of_lt (Nat.lt_of_lt_of_le (by have := World.block_lt_of_cell? _ _ hw306_3; first | rwa [add_block] at this | exact this) GW307.out)) | (dsimp only; exact Nat.ne_of_lt (Nat.lt_of_lt_of_le (by have := World.block_lt_of_cell? _ _ hw306_3; first | rwa [add_block] at this | exact this) GW307.out))) _).trans (((cell_far (p := ⟨gb307, _, none⟩) (by first | exact Nat.ne_of_lt (Nat.lt_of_lt_of_le (by have := World.block_lt_of_cell? _ _ hw306_3; first | rwa [add_block] at this | exact this) GW307.out) | (rw [add_block]; exact Nat.ne_of_lt (Nat.lt_of_lt_of_le (by have := World.block_lt_of_cell? _ _ hw306_3; first | rwa [add_block] at this | exact this) GW307.out)) | (show (Addr.add _ _).block ≠ _; rw [add_block]; exact Nat.ne_of_lt (Nat.lt_of_lt_of_le (by have := World.block_lt_of_cell? _ _ hw306_3; first | rwa [add_block] at this | exact this) GW307.out)) | (dsimp only; exact Nat.ne_of_lt (Nat.lt_of_lt_of_le (by have := World.block_lt_of_cell? _ _ hw306_3; first | rwa [add_block] at this | exact this) GW307.out))) _).trans (hHeld.2.2.2.2.2))))))))⟩ (fun hHeld => ?_)
                                  clear hK K
                                  refine done_ (done_of HT_.out (by kernel_rfl)) ?_
                                  have hnb54 := NB307_297.out
                                  have hnc54 := NB297_307.out
                                  have hnb55 := NB307_300.out
                                  have hnc55 := NB300_307.out
                                  have hcz56_0 : w49.cell? ⟨gb307, 0, none⟩ = some (.int .u8 0) := (blk_cell BK307.out 0).trans rfl
                                  have hcz56_1 : w49.cell? ⟨gb307, 1, none⟩ = some (.int .i64 0) := (blk_cell BK307.out 1).trans rfl
                                  have hcz56_2 : w49.cell? ⟨gb307, 2, none⟩ = some (.int .i64 0) := (blk_cell BK307.out 2).trans rfl
                                  have hcz56_3 : w49.cell? ⟨gb307, 3, none⟩ = some (.int .i64 0) := (blk_cell BK307.out 3).trans rfl
                                  have hfz56_0 := blk_frozen BK307.out 0
                                  have hfz56_1 := blk_frozen BK307.out 1
                                  have hfz56_2 := blk_frozen BK307.out 2
                                  have hfz56_3 := blk_frozen BK307.out 3
                                  have hnb57 := NB300_297.out
                                  have hnc57 := NB297_300.out
                                  have hcz58_0 : w49.cell? ⟨gb300, 0, none⟩ = some (.int .u8 ((rd_T47 l0_0 x5_1).f0)) := (blk_cell BK300.out 0).trans rfl
                                  have hcz58_1 : w49.cell? ⟨gb300, 1, none⟩ = some (.int .i64 ((rd_T47 l0_0 x5_1).f1)) := (blk_cell BK300.out 1).trans rfl
                                  have hcz58_2 : w49.cell? ⟨gb300, 2, none⟩ = some (.int .i64 ((rd_T47 l0_0 x5_1).f2)) := (blk_cell BK300.out 2).trans rfl
                                  have hcz58_3 : w49.cell? ⟨gb300, 3, none⟩ = some (.int .i64 ((rd_T47 l0_0 x5_1).f3)) := (blk_cell BK300.out 3).trans rfl
                                  have hfz58_0 := blk_frozen BK300.out 0
                                  have hfz58_1 := blk_frozen BK300.out 1
                                  have hfz58_2 := blk_frozen BK300.out 2
                                  have hfz58_3 := blk_frozen BK300.out 3
                                  try go_wp2
                                  go_roundg k3
                                  case measure => have := HK1.out; have := HJ9.out; have := HK3.out; omega
                                  case rel => exact ⟨(x9_3), (wrap64 (x10_3 + 1)), (by first | rfl | (simp; done) | (simp [*]; done)), (by first | rfl | (simp; done) | (simp [*]; done)), H', ⟨by have := HK1.out; have := HJ9.out; have := HK3.out; omega⟩, ⟨by (with_reducible repeat (first | apply Kd.R_alloc | apply Kd.R_drewN | apply Kd.R_drew)); exact Kd.R_mono (Kd.R_far (p := ⟨gb307, 3, none⟩) (Kd.R_far (p := ⟨gb307, 2, none⟩) (Kd.R_far (p := ⟨gb307, 1, none⟩) (Kd.R_far (p := ⟨gb307, 0, none⟩) (Kd.R_types HO_7.out BK307.out (by decide)) (fun _ hk => hk.2) (.int .u8 ((rd_T47 l0_0 (rd t301 x10_3)).f0))) (fun _ hk => hk.2) (.int .i64 ((rd_T47 l0_0 (rd t301 x10_3)).f1))) (fun _ hk => hk.2) (.int .i64 ((rd_T47 l0_0 (rd t301 x10_3)).f2))) (fun _ hk => hk.2) (.int .i64 ((rd_T47 l0_0 (rd t301 x10_3)).f3))) (fun _ hk => trivial)⟩, ⟨by (with_reducible repeat (first | refine blk_drewN ?_ _ | refine blk_drew ?_ | refine blk_alloc ?_ _)); refine blk_far ?_ NB297_307.out _; (with_reducible repeat (first | refine blk_drewN ?_ _ | refine blk_drew ?_ | refine blk_alloc ?_ _)); refine blk_far ?_ NB297_307.out _; (with_reducible repeat (first | refine blk_drewN ?_ _ | refine blk_drew ?_ | refine blk_alloc ?_ _)); refine blk_far ?_ NB297_307.out _; (with_reducible repeat (first | refine blk_drewN ?_ _ | refine blk_drew ?_ | refine blk_alloc ?_ _)); refine blk_far ?_ NB297_307.out _; (with_reducible repeat (first | refine blk_drewN ?_ _ | refine blk_drew ?_ | refine blk_alloc ?_ _)); exact BK297.out⟩, ⟨by (with_reducible repeat (first | refine blk_drewN ?_ _ | refine blk_drew ?_ | refine blk_alloc ?_ _)); refine blk_far ?_ NB300_307.out _; (with_reducible repeat (first | refine blk_drewN ?_ _ | refine blk_drew ?_ | refine blk_alloc ?_ _)); refine blk_far ?_ NB300_307.out _; (with_reducible repeat (first | refine blk_drewN ?_ _ | refine blk_drew ?_ | refine blk_alloc ?_ _)); refine blk_far ?_ NB300_307.out _; (with_reducible repeat (first | refine blk_drewN ?_ _ | refine blk_drew ?_ | refine blk_alloc ?_ _)); refine blk_far ?_ NB300_307.out _; (with_reducible repeat (first | refine blk_drewN ?_ _ | refine blk_drew ?_ | refine blk_alloc ?_ _)); exact BK300.out⟩, ⟨by repeat (first | (with_reducible first | exact HB.out | apply below_alloc | apply pw_below_drewN | apply below_drew1 | refine below_set ?_ GE297.out | refine below_set ?_ GE300.out | refine below_set ?_ GE307.out) | exact HB.out)⟩⟩
                              · rw [if_neg c33] at H
                                have c33b0 : (((rd_T47 l0_0 (rd t301 x10_3)).f1) == ((rd_T47 l0_0 (rd t301 x10_3)).f2)) = false := beq_eq_false_iff_ne.mpr c33
                                have c33b1 : (((rd_T47 l0_0 (rd t301 x10_3)).f1) != ((rd_T47 l0_0 (rd t301 x10_3)).f2)) = true := bne_iff_ne.mpr c33
                                by_cases c59 : ((rd_T47 l0_0 (rd t301 x10_3)).f1) < x9_3
                                · rw [if_pos c59] at H
                                  have c59b0 : decide (((rd_T47 l0_0 (rd t301 x10_3)).f1) < x9_3) = true := decide_eq_true c59
                                  clear c59
                                  obtain rfl := Option.some.inj H
                                  obtain ⟨Ao60, co60, eo60⟩ := Kd.R_slice HO_7.out
                                  subst eo60
                                  try go_wp2
                                  have n0_ := Aside0.mk (Kd.R_drew HO_7.out)
                                  have n1_ := Aside0.mk (blk_drew BK297.out)
                                  have n2_ := Aside0.mk (blk_drew BK300.out)
                                  have n3_ := Aside0.mk (below_drew1 HB.out)
                                  clear HO_7
                                  clear BK297
                                  clear BK300
                                  clear HB
                                  have HO_7 := n0_
                                  have BK297 := n1_
                                  have BK300 := n2_
                                  have HB := n3_
                                  clear n0_ n1_ n2_ n3_
                                  have p305 : 0 ≤ (x10_3 : Int) := of_decide_eq_true (by first | (with_reducible assumption) | assumption)
                                  have q305 : x10_3 < (t301.length : Int) := of_decide_eq_true (by first | (with_reducible assumption) | assumption)
                                  obtain ⟨ad305, e305, hx305_0⟩ := Kd.at_int (Kd.R_reads' HO_7.out).2.2 x10_3 p305 q305
                                  cases e305
                                  replace p305 := eq_true p305
                                  replace q305 := eq_true q305
                                  have p306 : 0 ≤ ((rd t301 x10_3) : Int) := of_decide_eq_true (by first | (with_reducible assumption) | assumption)
                                  have q306 : (rd t301 x10_3) < (l0_0.length : Int) := of_decide_eq_true (by first | (with_reducible assumption) | assumption)
                                  obtain ⟨ad306, e306, hx306_0, hx306_1, hx306_2, hx306_3⟩ := at_T47 HR0_0.out (rd t301 x10_3) p306 q306
                                  have hw306_3 := hx306_3
                                  have hw306_2 := hx306_2
                                  have hw306_1 := hx306_1
                                  have hw306_0 := hx306_0
                                  obtain rfl : ad299 = ad306 := (by injection e306)
                                  replace hx306_0 := (HB.out.cell (World.block_lt_of_cell? w _ hx306_0)).trans hx306_0
                                  replace hx306_1 := (HB.out.cell (World.block_lt_of_cell? w _ hx306_1)).trans hx306_1
                                  replace hx306_2 := (HB.out.cell (World.block_lt_of_cell? w _ hx306_2)).trans hx306_2
                                  replace hx306_3 := (HB.out.cell (World.block_lt_of_cell? w _ hx306_3)).trans hx306_3
                                  replace p306 := eq_true p306
                                  replace q306 := eq_true q306
                                  refine start_ (n := 10) (S := fun w' => w'.cell? ⟨gb297, 0, none⟩ = some (.slice (some ad299) l0_0.length c0_0) ∧ w'.cell? (ad305.add (x10_3).toNat) = some (.int .i64 (rd t301 x10_3)) ∧ w'.cell? (ad299.add (((rd t301 x10_3)).toNat * 4)) = some (.int .u8 ((rd_T47 l0_0 (rd t301 x10_3)).f0)) ∧ w'.cell? ⟨(ad299.add (((rd t301 x10_3)).toNat * 4)).block, (ad299.add (((rd t301 x10_3)).toNat * 4)).off + 1, none⟩ = some (.int .i64 ((rd_T47 l0_0 (rd t301 x10_3)).f1)) ∧ w'.cell? ⟨(ad299.add (((rd t301 x10_3)).toNat * 4)).block, (ad299.add (((rd t301 x10_3)).toNat * 4)).off + 2, none⟩ = some (.int .i64 ((rd_T47 l0_0 (rd t301 x10_3)).f2)) ∧ w'.cell? ⟨(ad299.add (((rd t301 x10_3)).toNat * 4)).block, (ad299.add (((rd t301 x10_3)).toNat * 4)).off + 3, none⟩ = some (.int .i64 ((rd_T47 l0_0 (rd t301 x10_3)).f3))) (ds := []) #[false, false, false, false, false, false, false, false, false, false] (by kernel_rfl) rfl rfl ⟨(blk_cell BK297.out 0).trans rfl, hx305_0, ((HB.out.cell (World.block_lt_of_cell? w _ hw306_0)).trans hw306_0), ((HB.out.cell (World.block_lt_of_cell? w _ hw306_1)).trans hw306_1), ((HB.out.cell (World.block_lt_of_cell? w _ hw306_2)).trans hw306_2), ((HB.out.cell (World.block_lt_of_cell? w _ hw306_3)).trans hw306_3)⟩ (fun hHeld => ?_); refine with_tabW monikerref4_Valid.tab14 monikerref4_Valid.bits14 (fun HT_ HW_ => ?_)
                                  generalize wr.drew = w61 at HO_7 BK297 BK300 HB hx305_0 hx306_0 hx306_1 hx306_2 hx306_3 hHeld ⊢
                                  refine pure_ (i := 0) (N := some 57) (v := ?_) (a' := ?_) #[true, false, false, false, false, false, false, false, false, false] rfl rfl (any_of HT_.out (by kernel_rfl)) (fun _ _ _ h => h) (Or.inl ⟨by rfl, ?_⟩) ?_ ?_
                                  rotate_left
                                  · intro w'
                                    go_simp
                                    with_reducible rfl
                                  rotate_left
                                  · simp only [Act.put, List.setIfInBounds_toArray, List.set_cons_zero, List.set_cons_succ, i64_w, i32_w]
                                    rfl
                                  refine pure_ (i := 2) (N := some 59) (v := ?_) (a' := ?_) #[true, false, true, false, false, false, false, false, false, false] rfl rfl (any_of HT_.out (by kernel_rfl)) (fun _ _ _ h => h) (Or.inl ⟨by rfl, ?_⟩) ?_ ?_
                                  rotate_left
                                  · intro w'
                                    go_simp
                                    with_reducible rfl
                                  rotate_left
                                  · simp only [Act.put, List.setIfInBounds_toArray, List.set_cons_zero, List.set_cons_succ, i64_w, i32_w]
                                    rfl
                                  refine pure_ (i := 3) (N := some 60) (v := ?_) (a' := ?_) #[true, false, true, true, false, false, false, false, false, false] rfl rfl (any_of HT_.out (by kernel_rfl)) (fun _ _ _ h => h) (Or.inl ⟨by rfl, ?_⟩) ?_ ?_
                                  rotate_left
                                  · intro w'
                                    go_simp
                                    with_reducible rfl
                                  rotate_left
                                  · simp only [Act.put, List.setIfInBounds_toArray, List.set_cons_zero, List.set_cons_succ, i64_w, i32_w]
                                    rfl
                                  refine pure_ (i := 4) (N := some 61) (v := ?_) (a' := ?_) #[true, false, true, true, true, false, false, false, false, false] rfl rfl (any_of HT_.out (by kernel_rfl)) (fun _ _ _ h => h) (Or.inl ⟨by rfl, ?_⟩) ?_ ?_
                                  rotate_left
                                  · intro w'
                                    go_simp
                                    with_reducible rfl
                                  rotate_left
                                  · simp only [Act.put, List.setIfInBounds_toArray, List.set_cons_zero, List.set_cons_succ, i64_w, i32_w]
                                    rfl
                                  refine take_ (i := 1) (N := some 58) (v := ?_) (a' := ?_) #[true, true, true, true, true, false, false, false, false, false] rfl rfl (take_ofW HT_.out HW_.out (by kernel_rfl)) (fun _ _ _ h => h) (Or.inl ⟨by rfl, ?_⟩) hHeld ?_ ?_
                                  rotate_left
                                  · rintro w' ⟨s0, s1, s2, s3, s4, s5⟩
                                    go_simp
                                    with_reducible rfl
                                  rotate_left
                                  · simp only [Act.put, List.setIfInBounds_toArray, List.set_cons_zero, List.set_cons_succ, i64_w, i32_w]
                                    rfl
                                  refine take_ (i := 5) (N := some 62) (v := ?_) (a' := ?_) #[true, true, true, true, true, true, false, false, false, false] rfl rfl (take_ofW HT_.out HW_.out (by kernel_rfl)) (fun _ _ _ h => h) (Or.inl ⟨by rfl, ?_⟩) hHeld ?_ ?_
                                  rotate_left
                                  · rintro w' ⟨s0, s1, s2, s3, s4, s5⟩
                                    go_simp
                                    with_reducible rfl
                                  rotate_left
                                  · simp only [Act.put, List.setIfInBounds_toArray, List.set_cons_zero, List.set_cons_succ, i64_w, i32_w]
                                    rfl
                                  refine pure_ (i := 6) (N := some 63) (v := ?_) (a' := ?_) #[true, true, true, true, true, true, true, false, false, false] rfl rfl (any_of HT_.out (by kernel_rfl)) (fun _ _ _ h => h) (Or.inl ⟨by rfl, ?_⟩) ?_ ?_
                                  rotate_left
                                  · intro w'
                                    go_simp
                                    with_reducible rfl
                                  rotate_left
                                  · simp only [Act.put, List.setIfInBounds_toArray, List.set_cons_zero, List.set_cons_succ, i64_w, i32_w]
                                    rfl
                                  refine take_ (i := 7) (N := some 64) (v := ?_) (a' := ?_) #[true, true, true, true, true, true, true, true, false, false] rfl rfl (take_ofW HT_.out HW_.out (by kernel_rfl)) (fun _ _ _ h => h) (Or.inl ⟨by rfl, ?_⟩) hHeld ?_ ?_
                                  rotate_left
                                  · rintro w' ⟨s0, s1, s2, s3, s4, s5⟩
                                    go_simp
                                    with_reducible rfl
                                  rotate_left
                                  · simp only [Act.put, List.setIfInBounds_toArray, List.set_cons_zero, List.set_cons_succ, i64_w, i32_w]
                                    rfl
                                  refine one_ (i := 8) (N := some 11) #[true, true, true, true, true, true, true, true, true, false] rfl rfl (one_of HT_.out (by kernel_rfl)) (by decide) (fun K hK => ?_)
                                  refine box_step ?hg (N := 11) ?hd (cs := #[.int .u8 0, .int .i64 0, .int .i64 0, .int .i64 0]) (t := 47) ?hr ?_; (case hd => rfl); (case hg => rfl); (case hr => first | (go_simp; done) | (go_simp; rfl))
                                  intro gb307 hg w62 hbox hb
                                  have HS1_ := (hb.cell (World.block_lt_of_cell? _ _ (hHeld.2.1))).trans (hHeld.2.1)
                                  have n0_ := Aside0.mk (Kd.R_below (by (with_reducible repeat (first | apply Kd.R_alloc | apply Kd.R_drewN | apply Kd.R_drew)); exact HO_7.out) hb)
                                  have n1_ := Aside0.mk (blk_below (g := gb297) (o := .cells #[.slice (some ad299) l0_0.length c0_0] 25 (0, 0)) (by (with_reducible repeat (first | refine blk_drewN ?_ _ | refine blk_drew ?_ | refine blk_alloc ?_ _)); exact BK297.out) hb)
                                  have n2_ := Aside0.mk (blk_below (g := gb300) (o := .cells #[.int .u8 ((rd_T47 l0_0 x5_1).f0), .int .i64 ((rd_T47 l0_0 x5_1).f1), .int .i64 ((rd_T47 l0_0 x5_1).f2), .int .i64 ((rd_T47 l0_0 x5_1).f3)] 47 (0, 0)) (by (with_reducible repeat (first | refine blk_drewN ?_ _ | refine blk_drew ?_ | refine blk_alloc ?_ _)); exact BK300.out) hb)
                                  have n3_ := Aside0.mk (below_step (by repeat (first | (with_reducible first | exact HB.out | apply below_alloc | apply pw_below_drewN | apply below_drew1 | refine below_set ?_ GE297.out | refine below_set ?_ GE300.out) | exact HB.out)) hb)
                                  have n4_ := Aside0.mk (hbox)
                                  have n5_ := Aside0.mk ((by rw [hg]; exact (below_size (by repeat (first | (with_reducible first | exact HB.out | apply below_alloc | apply pw_below_drewN | apply below_drew1 | refine below_set ?_ GE297.out | refine below_set ?_ GE300.out) | exact HB.out))) : w.heap.size ≤ gb307))
                                  have n6_ := Aside0.mk ((by rw [hg]; exact (below_size (by repeat (first | (with_reducible first | exact HB.out | apply below_alloc | apply pw_below_drewN | apply below_drew1 | refine below_set ?_ GE297.out | refine below_set ?_ GE300.out) | exact HB.out))) : w.heap.size ≤ gb307))
                                  have n7_ := Aside0.mk ((by rw [hg]; exact Nat.ne_of_lt (blk_lt (g := gb297) (o := .cells #[.slice (some ad299) l0_0.length c0_0] 25 (0, 0)) (by (with_reducible repeat (first | refine blk_drewN ?_ _ | refine blk_drew ?_ | refine blk_alloc ?_ _)); exact BK297.out)) : gb297 ≠ gb307))
                                  have n8_ := Aside0.mk ((by rw [hg]; exact Nat.ne_of_gt (blk_lt (g := gb297) (o := .cells #[.slice (some ad299) l0_0.length c0_0] 25 (0, 0)) (by (with_reducible repeat (first | refine blk_drewN ?_ _ | refine blk_drew ?_ | refine blk_alloc ?_ _)); exact BK297.out)) : gb307 ≠ gb297))
                                  have n9_ := Aside0.mk ((by rw [hg]; exact Nat.ne_of_lt (blk_lt (g := gb300) (o := .cells #[.int .u8 ((rd_T47 l0_0 x5_1).f0), .int .i64 ((rd_T47 l0_0 x5_1).f1), .int .i64 ((rd_T47 l0_0 x5_1).f2), .int .i64 ((rd_T47 l0_0 x5_1).f3)] 47 (0, 0)) (by (with_reducible repeat (first | refine blk_drewN ?_ _ | refine blk_drew ?_ | refine blk_alloc ?_ _)); exact BK300.out)) : gb300 ≠ gb307))
                                  have n10_ := Aside0.mk ((by rw [hg]; exact Nat.ne_of_gt (blk_lt (g := gb300) (o := .cells #[.int .u8 ((rd_T47 l0_0 x5_1).f0), .int .i64 ((rd_T47 l0_0 x5_1).f1), .int .i64 ((rd_T47 l0_0 x5_1).f2), .int .i64 ((rd_T47 l0_0 x5_1).f3)] 47 (0, 0)) (by (with_reducible repeat (first | refine blk_drewN ?_ _ | refine blk_drew ?_ | refine blk_alloc ?_ _)); exact BK300.out)) : gb307 ≠ gb300))
                                  clear HO_7
                                  clear BK297
                                  clear BK300
                                  clear HB
                                  have HO_7 := n0_
                                  have BK297 := n1_
                                  have BK300 := n2_
                                  have HB := n3_
                                  have BK307 := n4_
                                  have GW307 := n5_
                                  have GE307 := n6_
                                  have NB297_307 := n7_
                                  have NB307_297 := n8_
                                  have NB300_307 := n9_
                                  have NB307_300 := n10_
                                  clear n0_ n1_ n2_ n3_ n4_ n5_ n6_ n7_ n8_ n9_ n10_
                                  clear hb hbox hg
                                  refine hK.out _ _ ⟨(blk_cell BK297.out 0).trans rfl, HS1_, ((HB.out.cell (World.block_lt_of_cell? w _ hw306_0)).trans hw306_0), ((HB.out.cell (World.block_lt_of_cell? w _ hw306_1)).trans hw306_1), ((HB.out.cell (World.block_lt_of_cell? w _ hw306_2)).trans hw306_2), ((HB.out.cell (World.block_lt_of_cell? w _ hw306_3)).trans hw306_3)⟩ (fun hHeld => ?_)
                                  clear hK K
                                  refine norm_ (a' := ?_) ?_ ?_
                                  rotate_left
                                  · show Act.put _ (some 11) _ = _
                                    simp only [Act.put, List.setIfInBounds_toArray, List.set_cons_zero, List.set_cons_succ, i64_w, i32_w]
                                    rfl
                                  refine one_ (i := 9) (N := none) #[true, true, true, true, true, true, true, true, true, true] rfl rfl (one_of HT_.out (by kernel_rfl)) (by decide) (fun K hK => ?_)
                                  have hs63 : w62.cell? ⟨gb307, 0, none⟩ = some (.int .u8 0) := (blk_cell BK307.out 0).trans rfl
                                  have hfs63 := blk_frozen BK307.out 0
                                  have hns63_0 := NB297_307.out
                                  have hns63_1 := NB300_307.out
                                  have hms63_0 := NB307_297.out
                                  have hms63_1 := NB307_300.out
                                  have hs64 : w62.cell? ⟨gb307, 1, none⟩ = some (.int .i64 0) := (blk_cell BK307.out 1).trans rfl
                                  have hfs64 := blk_frozen BK307.out 1
                                  have hns64_0 := NB297_307.out
                                  have hns64_1 := NB300_307.out
                                  have hms64_0 := NB307_297.out
                                  have hms64_1 := NB307_300.out
                                  have hs65 : w62.cell? ⟨gb307, 2, none⟩ = some (.int .i64 0) := (blk_cell BK307.out 2).trans rfl
                                  have hfs65 := blk_frozen BK307.out 2
                                  have hns65_0 := NB297_307.out
                                  have hns65_1 := NB300_307.out
                                  have hms65_0 := NB307_297.out
                                  have hms65_1 := NB307_300.out
                                  have hs66 : w62.cell? ⟨gb307, 3, none⟩ = some (.int .i64 0) := (blk_cell BK307.out 3).trans rfl
                                  have hfs66 := blk_frozen BK307.out 3
                                  have hns66_0 := NB297_307.out
                                  have hns66_1 := NB300_307.out
                                  have hms66_0 := NB307_297.out
                                  have hms66_1 := NB307_300.out
                                  refine skip_ (w1 := ?_) (by rfl) rfl ?_ ?_
                                  rotate_left
                                  · go_simp
                                    rfl
                                  refine hK.out _ _ ⟨((cell_far (p := ⟨gb307, _, none⟩) NB297_307.out _).trans (((cell_far (p := ⟨gb307, _, none⟩) NB297_307.out _).trans (((cell_far (p := ⟨gb307, _, none⟩) NB297_307.out _).trans (((cell_far (p := ⟨gb307, _, none⟩) NB297_307.out _).trans (hHeld.1)))))))), ((cell_far (p := ⟨gb307, _, none⟩) (by first | exact Kd.own_blk (Kd.R_ne HO_7.out BK307.out (by decide)) | (rw [add_block]; exact Kd.own_blk (Kd.R_ne HO_7.out BK307.out (by decide))) | (show (Addr.add _ _).block ≠ _; rw [add_block]; exact Kd.own_blk (Kd.R_ne HO_7.out BK307.out (by decide))) | (dsimp only; exact Kd.own_blk (Kd.R_ne HO_7.out BK307.out (by decide)))) _).trans (((cell_far (p := ⟨gb307, _, none⟩) (by first | exact Kd.own_blk (Kd.R_ne HO_7.out BK307.out (by decide)) | (rw [add_block]; exact Kd.own_blk (Kd.R_ne HO_7.out BK307.out (by decide))) | (show (Addr.add _ _).block ≠ _; rw [add_block]; exact Kd.own_blk (Kd.R_ne HO_7.out BK307.out (by decide))) | (dsimp only; exact Kd.own_blk (Kd.R_ne HO_7.out BK307.out (by decide)))) _).trans (((cell_far (p := ⟨gb307, _, none⟩) (by first | exact Kd.own_blk (Kd.R_ne HO_7.out BK307.out (by decide)) | (rw [add_block]; exact Kd.own_blk (Kd.R_ne HO_7.out BK307.out (by decide))) | (show (Addr.add _ _).block ≠ _; rw [add_block]; exact Kd.own_blk (Kd.R_ne HO_7.out BK307.out (by decide))) | (dsimp only; exact Kd.own_blk (Kd.R_ne HO_7.out BK307.out (by decide)))) _).trans (((cell_far (p := ⟨gb307, _, none⟩) (by first | exact Kd.own_blk (Kd.R_ne HO_7.out BK307.out (by decide)) | (rw [add_block]; exact Kd.own_blk (Kd.R_ne HO_7.out BK307.out (by decide))) | (show (Addr.add _ _).block ≠ _; rw [add_block]; exact Kd.own_blk (Kd.R_ne HO_7.out BK307.out (by decide))) | (dsimp only; exact Kd.own_blk (Kd.R_ne HO_7.out BK307.out (by decide)))) _).trans (hHeld.2.1)))))))), ((cell_far (p := ⟨gb307, _, none⟩) (by first | exact Nat.ne_of_lt (Nat.lt_of_lt_of_le (by have := World.block_lt_of_cell? _ _ hw306_0; first | rwa [add_block] at this | exact this) GW307.out) | (rw [add_block]; exact Nat.ne_of_lt (Nat.lt_of_lt_of_le (by have := World.block_lt_of_cell? _ _ hw306_0; first | rwa [add_block] at this | exact this) GW307.out)) | (show (Addr.add _ _).block ≠ _; rw [add_block]; exact Nat.ne_of_lt (Nat.lt_of_lt_of_le (by have := World.block_lt_of_cell? _ _ hw306_0; first | rwa [add_block] at this | exact this) GW307.out)) | (dsimp only; exact Nat.ne_of_lt (Nat.lt_of_lt_of_le (by have := World.block_lt_of_cell? _ _ hw306_0; first | rwa [add_block] at this | exact this) GW307.out))) _).trans (((cell_far (p := ⟨gb307, _, none⟩) (by first | exact Nat.ne_of_lt (Nat.lt_of_lt_of_le (by have := World.block_lt_of_cell? _ _ hw306_0; first | rwa [add_block] at this | exact this) GW307.out) | (rw [add_block]; exact Nat.ne_of_lt (Nat.lt_of_lt_of_le (by have := World.block_lt_of_cell? _ _ hw306_0; first | rwa [add_block] at this | exact this) GW307.out)) | (show (Addr.add _ _).block ≠ _; rw [add_block]; exact Nat.ne_of_lt (Nat.lt_of_lt_of_le (by have := World.block_lt_of_cell? _ _ hw306_0; first | rwa [add_block] at this | exact this) GW307.out)) | (dsimp only; exact Nat.ne_of_lt (Nat.lt_of_lt_of_le (by have := World.block_lt_of_cell? _ _ hw306_0; first | rwa [add_block] at this | exact this) GW307.out))) _).trans (((cell_far (p := ⟨gb307, _, none⟩) (by first | exact Nat.ne_of_lt (Nat.lt_of_lt_of_le (by have := World.block_lt_of_cell? _ _ hw306_0; first | rwa [add_block] at this | exact this) GW307.out) | (rw [add_block]; exact Nat.ne_of_lt (Nat.lt_of_lt_of_le (by have := World.block_lt_of_cell? _ _ hw306_0; first | rwa [add_block] at this | exact this) GW307.out)) | (show (Addr.add _ _).block ≠ _; rw [add_block]; exact Nat.ne_of_lt (Nat.lt_of_lt_of_le (by have := World.block_lt_of_cell? _ _ hw306_0; first | rwa [add_block] at this | exact this) GW307.out)) | (dsimp only; exact Nat.ne_of_lt (Nat.lt_of_lt_of_le (by have := World.block_lt_of_cell? _ _ hw306_0; first | rwa [add_block] at this | exact this) GW307.out))) _).trans (((cell_far (p := ⟨gb307, _, none⟩) (by first | exact Nat.ne_of_lt (Nat.lt_of_lt_of_le (by have := World.block_lt_of_cell? _ _ hw306_0; first | rwa [add_block] at this | exact this) GW307.out) | (rw [add_block]; exact Nat.ne_of_lt (Nat.lt_of_lt_of_le (by have := World.block_lt_of_cell? _ _ hw306_0; first | rwa [add_block] at this | exact this) GW307.out)) | (show (Addr.add _ _).block ≠ _; rw [add_block]; exact Nat.ne_of_lt (Nat.lt_of_lt_of_le (by have := World.block_lt_of_cell? _ _ hw306_0; first | rwa [add_block] at this | exact this) GW307.out)) | (dsimp only; exact Nat.ne_of_lt (Nat.lt_of_lt_of_le (by have := World.block_lt_of_cell? _ _ hw306_0; first | rwa [add_block] at this | exact this) GW307.out))) _).trans (hHeld.2.2.1)))))))), ((cell_far (p := ⟨gb307, _, none⟩) (by first | exact Nat.ne_of_lt (Nat.lt_of_lt_of_le (by have := World.block_lt_of_cell? _ _ hw306_1; first | rwa [add_block] at this | exact this) GW307.out) | (rw [add_block]; exact Nat.ne_of_lt (Nat.lt_of_lt_of_le (by have := World.block_lt_of_cell? _ _ hw306_1; first | rwa [add_block] at this | exact this) GW307.out)) | (show (Addr.add _ _).block ≠ _; rw [add_block]; exact Nat.ne_of_lt (Nat.lt_of_lt_of_le (by have := World.block_lt_of_cell? _ _ hw306_1; first | rwa [add_block] at this | exact this) GW307.out)) | (dsimp only; exact Nat.ne_of_lt (Nat.lt_of_lt_of_le (by have := World.block_lt_of_cell? _ _ hw306_1; first | rwa [add_block] at this | exact this) GW307.out))) _).trans (((cell_far (p := ⟨gb307, _, none⟩) (by first | exact Nat.ne_of_lt (Nat.lt_of_lt_of_le (by have := World.block_lt_of_cell? _ _ hw306_1; first | rwa [add_block] at this | exact this) GW307.out) | (rw [add_block]; exact Nat.ne_of_lt (Nat.lt_of_lt_of_le (by have := World.block_lt_of_cell? _ _ hw306_1; first | rwa [add_block] at this | exact this) GW307.out)) | (show (Addr.add _ _).block ≠ _; rw [add_block]; exact Nat.ne_of_lt (Nat.lt_of_lt_of_le (by have := World.block_lt_of_cell? _ _ hw306_1; first | rwa [add_block] at this | exact this) GW307.out)) | (dsimp only; exact Nat.ne_of_lt (Nat.lt_of_lt_of_le (by have := World.block_lt_of_cell? _ _ hw306_1; first | rwa [add_block] at this | exact this) GW307.out))) _).trans (((cell_far (p := ⟨gb307, _, none⟩) (by first | exact Nat.ne_of_lt (Nat.lt_of_lt_of_le (by have := World.block_lt_of_cell? _ _ hw306_1; first | rwa [add_block] at this | exact this) GW307.out) | (rw [add_block]; exact Nat.ne_of_lt (Nat.lt_of_lt_of_le (by have := World.block_lt_of_cell? _ _ hw306_1; first | rwa [add_block] at this | exact this) GW307.out)) | (show (Addr.add _ _).block ≠ _; rw [add_block]; exact Nat.ne_of_lt (Nat.lt_of_lt_of_le (by have := World.block_lt_of_cell? _ _ hw306_1; first | rwa [add_block] at this | exact this) GW307.out)) | (dsimp only; exact Nat.ne_of_lt (Nat.lt_of_lt_of_le (by have := World.block_lt_of_cell? _ _ hw306_1; first | rwa [add_block] at this | exact this) GW307.out))) _).trans (((cell_far (p := ⟨gb307, _, none⟩) (by first | exact Nat.ne_of_lt (Nat.lt_of_lt_of_le (by have := World.block_lt_of_cell? _ _ hw306_1; first | rwa [add_block] at this | exact this) GW307.out) | (rw [add_block]; exact Nat.ne_of_lt (Nat.lt_of_lt_of_le (by have := World.block_lt_of_cell? _ _ hw306_1; first | rwa [add_block] at this | exact this) GW307.out)) | (show (Addr.add _ _).block ≠ _; rw [add_block]; exact Nat.ne_of_lt (Nat.lt_of_lt_of_le (by have := World.block_lt_of_cell? _ _ hw306_1; first | rwa [add_block] at this | exact this) GW307.out)) | (dsimp only; exact Nat.ne_of_lt (Nat.lt_of_lt_of_le (by have := World.block_lt_of_cell? _ _ hw306_1; first | rwa [add_block] at this | exact this) GW307.out))) _).trans (hHeld.2.2.2.1)))))))), ((cell_far (p := ⟨gb307, _, none⟩) (by first | exact Nat.ne_of_lt (Nat.lt_of_lt_of_le (by have := World.block_lt_of_cell? _ _ hw306_2; first | rwa [add_block] at this | exact this) GW307.out) | (rw [add_block]; exact Nat.ne_of_lt (Nat.lt_of_lt_of_le (by have := World.block_lt_of_cell? _ _ hw306_2; first | rwa [add_block] at this | exact this) GW307.out)) | (show (Addr.add _ _).block ≠ _; rw [add_block]; exact Nat.ne_of_lt (Nat.lt_of_lt_of_le (by have := World.block_lt_of_cell? _ _ hw306_2; first | rwa [add_block] at this | exact this) GW307.out)) | (dsimp only; exact Nat.ne_of_lt (Nat.lt_of_lt_of_le (by have := World.block_lt_of_cell? _ _ hw306_2; first | rwa [add_block] at this | exact this) GW307.out))) _).trans (((cell_far (p := ⟨gb307, _, none⟩) (by first | exact Nat.ne_of_lt (Nat.lt_of_lt_of_le (by have := World.block_lt_of_cell? _ _ hw306_2; first | rwa [add_block] at this | exact this) GW307.out) | (rw [add_block]; exact Nat.ne_of_lt (Nat.lt_of_lt_of_le (by have := World.block_lt_of_cell? _ _ hw306_2; first | rwa [add_block] at this | exact this) GW307.out)) | (show (Addr.add _ _).block ≠ _; rw [add_block]; exact Nat.ne_of_lt (Nat.lt_of_lt_of_le (by have := World.block_lt_of_cell? _ _ hw306_2; first | rwa [add_block] at this | exact this) GW307.out)) | (dsimp only; exact Nat.ne_of_lt (Nat.lt_of_lt_of_le (by have := World.block_lt_of_cell? _ _ hw306_2; first | rwa [add_block] at this | exact this) GW307.out))) _).trans (((cell_far (p := ⟨gb307, _, none⟩) (by first | exact Nat.ne_of_lt (Nat.lt_of_lt_of_le (by have := World.block_lt_of_cell? _ _ hw306_2; first | rwa [add_block] at this | exact this) GW307.out) | (rw [add_block]; exact Nat.ne_of_lt (Nat.lt_of_lt_of_le (by have := World.block_lt_of_cell? _ _ hw306_2; first | rwa [add_block] at this | exact this) GW307.out)) | (show (Addr.add _ _).block ≠ _; rw [add_block]; exact Nat.ne_of_lt (Nat.lt_of_lt_of_le (by have := World.block_lt_of_cell? _ _ hw306_2; first | rwa [add_block] at this | exact this) GW307.out)) | (dsimp only; exact Nat.ne_of_lt (Nat.lt_of_lt_of_le (by have := World.block_lt_of_cell? _ _ hw306_2; first | rwa [add_block] at this | exact this) GW307.out))) _).trans (((cell_far (p := ⟨gb307, _, none⟩) (by first | exact Nat.ne_of_lt (Nat.lt_of_lt_of_le (by have := World.block_lt_of_cell? _ _ hw306_2; first | rwa [add_block] at this | exact this) GW307.out) | (rw [add_block]; exact Nat.ne_of_lt (Nat.lt_of_lt_of_le (by have := World.block_lt_of_cell? _ _ hw306_2; first | rwa [add_block] at this | exact this) GW307.out)) | (show (Addr.add _ _).block ≠ _; rw [add_block]; exact Nat.ne_of_lt (Nat.lt_of_lt_of_le (by have := World.block_lt_of_cell? _ _ hw306_2; first | rwa [add_block] at this | exact this) GW307.out)) | (dsimp only; exact Nat.ne_of_lt (Nat.lt_of_lt_of_le (by have := World.block_lt_of_cell? _ _ hw306_2; first | rwa [add_block] at this | exact this) GW307.out))) _).trans (hHeld.2.2.2.2.1)))))))), ((cell_far (p := ⟨gb307, _, none⟩) (by first | exact Nat.ne_of_lt (Nat.lt_of_lt_of_le (by have := World.block_lt_of_cell? _ _ hw306_3; first | rwa [add_block] at this | exact this) GW307.out) | (rw [add_block]; exact Nat.ne_of_lt (Nat.lt_of_lt_of_le (by have := World.block_lt_of_cell? _ _ hw306_3; first | rwa [add_block] at this | exact this) GW307.out)) | (show (Addr.add _ _).block ≠ _; rw [add_block]; exact Nat.ne_of_lt (Nat.lt_of_lt_of_le (by have := World.block_lt_of_cell? _ _ hw306_3; first | rwa [add_block] at this | exact this) GW307.out)) | (dsimp only; exact Nat.ne_of_lt (Nat.lt_of_lt_of_le (by have := World.block_lt_of_cell? _ _ hw306_3; first | rwa [add_block] at this | exact this) GW307.out))) _).trans (((cell_far (p := ⟨gb307, _, none⟩) (by first | exact Nat.ne_of_lt (Nat.lt_of_lt_of_le (by have := World.block_lt_of_cell? _ _ hw306_3; first | rwa [add_block] at this | exact this) GW307.out) | (rw [add_block]; exact Nat.ne_of_lt (Nat.lt_of_lt_of_le (by have := World.block_lt_of_cell? _ _ hw306_3; first | rwa [add_block] at this | exact this) GW307.out)) | (show (Addr.add _ _).block ≠ _; rw [add_block]; exact Nat.ne_of_lt (Nat.lt_of_lt_of_le (by have := World.block_lt_of_cell? _ _ hw306_3; first | rwa [add_block] at this | exact this) GW307.out)) | (dsimp only; exact Nat.ne_of_lt (Nat.lt_of_lt_of_le (by have := World.block_lt_of_cell? _ _ hw306_3; first | rwa [add_block] at this | exact this) GW307.out))) _).trans (((cell_far (p := ⟨gb307, _, none⟩) (by first | exact Nat.ne_of_lt (Nat.lt_of_lt_of_le (by have := World.block_lt_of_cell? _ _ hw306_3; first | rwa [add_block] at this | exact this) GW307.out) | (rw [add_block]; exact Nat.ne_of_lt (Nat.lt_of_lt_of_le (by have := World.block_lt_of_cell? _ _ hw306_3; first | rwa [add_block] at this | exact this) GW307.out)) | (show (Addr.add _ _).block ≠ _; rw [add_block]; exact Nat.ne_of_lt (Nat.lt_of_lt_of_le (by have := World.block_lt_of_cell? _ _ hw306_3; first | rwa [add_block] at this | exact this) GW307.out)) | (dsimp only; exact Nat.ne_of_lt (Nat.lt_of_lt_of_le (by have := World.block_lt_of_cell? _ _ hw306_3; first | rwa [add_block] at this | exact this) GW307.out))) _).trans (((cell_far (p := ⟨gb307, _, none⟩) (by first | exact Nat.ne_of_lt (Nat.lt_of_lt_of_le (by have := World.block_lt_of_cell? _ _ hw306_3; first | rwa [add_block] at this | exact this) GW307.out) | (rw [add_block]; exact Nat.ne_of_lt (Nat.lt_of_lt_of_le (by have := World.block_lt_of_cell? _ _ hw306_3; first | rwa [add_block] at this | exact this) GW307.out)) | (show (Addr.add _ _).block ≠ _; rw [add_block]; exact Nat.ne_of_lt (Nat.lt_of_lt_of_le (by have := World.block_lt_of_cell? _ _ hw306_3; first | rwa [add_block] at this | exact this) GW307.out)) | (dsimp only; exact Nat.ne_of_lt (Nat.lt_of_lt_of_le (by have := World.block_lt_of_cell? _ _ hw306_3; first | rwa [add_block] at this | exact this) GW307.out))) _).trans (hHeld.2.2.2.2.2))))))))⟩ (fun hHeld => ?_)
                                  clear hK K
                                  refine done_ (done_of HT_.out (by kernel_rfl)) ?_
                                  have hnb67 := NB307_297.out
                                  have hnc67 := NB297_307.out
                                  have hnb68 := NB307_300.out
                                  have hnc68 := NB300_307.out
                                  have hcz69_0 : w62.cell? ⟨gb307, 0, none⟩ = some (.int .u8 0) := (blk_cell BK307.out 0).trans rfl
                                  have hcz69_1 : w62.cell? ⟨gb307, 1, none⟩ = some (.int .i64 0) := (blk_cell BK307.out 1).trans rfl
                                  have hcz69_2 : w62.cell? ⟨gb307, 2, none⟩ = some (.int .i64 0) := (blk_cell BK307.out 2).trans rfl
                                  have hcz69_3 : w62.cell? ⟨gb307, 3, none⟩ = some (.int .i64 0) := (blk_cell BK307.out 3).trans rfl
                                  have hfz69_0 := blk_frozen BK307.out 0
                                  have hfz69_1 := blk_frozen BK307.out 1
                                  have hfz69_2 := blk_frozen BK307.out 2
                                  have hfz69_3 := blk_frozen BK307.out 3
                                  try go_wp2
                                  go_ret
                                  exact ⟨by first | rfl | (simp [errW_none, errW_some] <;> rfl) | (simp [*, errW_none, errW_some] <;> rfl), by repeat (first | (with_reducible first | exact HB.out | apply below_alloc | apply pw_below_drewN | apply below_drew1 | refine below_set ?_ GE297.out | refine below_set ?_ GE300.out | refine below_set ?_ GE307.out) | exact HB.out)⟩
                                · rw [if_neg c59] at H
                                  have c59b0 : decide (((rd_T47 l0_0 (rd t301 x10_3)).f1) < x9_3) = false := decide_eq_false c59
                                  clear c59
                                  by_cases c70 : ((rd_T47 l0_0 (rd t301 x10_3)).f2) > ((rd_T47 l0_0 x5_1).f2)
                                  · rw [if_pos c70] at H
                                    have c70b0 : decide (((rd_T47 l0_0 x5_1).f2) < ((rd_T47 l0_0 (rd t301 x10_3)).f2)) = true := decide_eq_true c70
                                    clear c70
                                    obtain rfl := Option.some.inj H
                                    obtain ⟨Ao71, co71, eo71⟩ := Kd.R_slice HO_7.out
                                    subst eo71
                                    try go_wp2
                                    have n0_ := Aside0.mk (Kd.R_drew HO_7.out)
                                    have n1_ := Aside0.mk (blk_drew BK297.out)
                                    have n2_ := Aside0.mk (blk_drew BK300.out)
                                    have n3_ := Aside0.mk (below_drew1 HB.out)
                                    clear HO_7
                                    clear BK297
                                    clear BK300
                                    clear HB
                                    have HO_7 := n0_
                                    have BK297 := n1_
                                    have BK300 := n2_
                                    have HB := n3_
                                    clear n0_ n1_ n2_ n3_
                                    have p305 : 0 ≤ (x10_3 : Int) := of_decide_eq_true (by first | (with_reducible assumption) | assumption)
                                    have q305 : x10_3 < (t301.length : Int) := of_decide_eq_true (by first | (with_reducible assumption) | assumption)
                                    obtain ⟨ad305, e305, hx305_0⟩ := Kd.at_int (Kd.R_reads' HO_7.out).2.2 x10_3 p305 q305
                                    cases e305
                                    replace p305 := eq_true p305
                                    replace q305 := eq_true q305
                                    have p306 : 0 ≤ ((rd t301 x10_3) : Int) := of_decide_eq_true (by first | (with_reducible assumption) | assumption)
                                    have q306 : (rd t301 x10_3) < (l0_0.length : Int) := of_decide_eq_true (by first | (with_reducible assumption) | assumption)
                                    obtain ⟨ad306, e306, hx306_0, hx306_1, hx306_2, hx306_3⟩ := at_T47 HR0_0.out (rd t301 x10_3) p306 q306
                                    have hw306_3 := hx306_3
                                    have hw306_2 := hx306_2
                                    have hw306_1 := hx306_1
                                    have hw306_0 := hx306_0
                                    obtain rfl : ad299 = ad306 := (by injection e306)
                                    replace hx306_0 := (HB.out.cell (World.block_lt_of_cell? w _ hx306_0)).trans hx306_0
                                    replace hx306_1 := (HB.out.cell (World.block_lt_of_cell? w _ hx306_1)).trans hx306_1
                                    replace hx306_2 := (HB.out.cell (World.block_lt_of_cell? w _ hx306_2)).trans hx306_2
                                    replace hx306_3 := (HB.out.cell (World.block_lt_of_cell? w _ hx306_3)).trans hx306_3
                                    replace p306 := eq_true p306
                                    replace q306 := eq_true q306
                                    refine start_ (n := 10) (S := fun w' => w'.cell? ⟨gb297, 0, none⟩ = some (.slice (some ad299) l0_0.length c0_0) ∧ w'.cell? (ad305.add (x10_3).toNat) = some (.int .i64 (rd t301 x10_3)) ∧ w'.cell? (ad299.add (((rd t301 x10_3)).toNat * 4)) = some (.int .u8 ((rd_T47 l0_0 (rd t301 x10_3)).f0)) ∧ w'.cell? ⟨(ad299.add (((rd t301 x10_3)).toNat * 4)).block, (ad299.add (((rd t301 x10_3)).toNat * 4)).off + 1, none⟩ = some (.int .i64 ((rd_T47 l0_0 (rd t301 x10_3)).f1)) ∧ w'.cell? ⟨(ad299.add (((rd t301 x10_3)).toNat * 4)).block, (ad299.add (((rd t301 x10_3)).toNat * 4)).off + 2, none⟩ = some (.int .i64 ((rd_T47 l0_0 (rd t301 x10_3)).f2)) ∧ w'.cell? ⟨(ad299.add (((rd t301 x10_3)).toNat * 4)).block, (ad299.add (((rd t301 x10_3)).toNat * 4)).off + 3, none⟩ = some (.int .i64 ((rd_T47 l0_0 (rd t301 x10_3)).f3))) (ds := []) #[false, false, false, false, false, false, false, false, false, false] (by kernel_rfl) rfl rfl ⟨(blk_cell BK297.out 0).trans rfl, hx305_0, ((HB.out.cell (World.block_lt_of_cell? w _ hw306_0)).trans hw306_0), ((HB.out.cell (World.block_lt_of_cell? w _ hw306_1)).trans hw306_1), ((HB.out.cell (World.block_lt_of_cell? w _ hw306_2)).trans hw306_2), ((HB.out.cell (World.block_lt_of_cell? w _ hw306_3)).trans hw306_3)⟩ (fun hHeld => ?_); refine with_tabW monikerref4_Valid.tab14 monikerref4_Valid.bits14 (fun HT_ HW_ => ?_)
                                    generalize wr.drew = w72 at HO_7 BK297 BK300 HB hx305_0 hx306_0 hx306_1 hx306_2 hx306_3 hHeld ⊢
                                    refine pure_ (i := 0) (N := some 57) (v := ?_) (a' := ?_) #[true, false, false, false, false, false, false, false, false, false] rfl rfl (any_of HT_.out (by kernel_rfl)) (fun _ _ _ h => h) (Or.inl ⟨by rfl, ?_⟩) ?_ ?_
                                    rotate_left
                                    · intro w'
                                      go_simp
                                      with_reducible rfl
                                    rotate_left
                                    · simp only [Act.put, List.setIfInBounds_toArray, List.set_cons_zero, List.set_cons_succ, i64_w, i32_w]
                                      rfl
                                    refine pure_ (i := 2) (N := some 59) (v := ?_) (a' := ?_) #[true, false, true, false, false, false, false, false, false, false] rfl rfl (any_of HT_.out (by kernel_rfl)) (fun _ _ _ h => h) (Or.inl ⟨by rfl, ?_⟩) ?_ ?_
                                    rotate_left
                                    · intro w'
                                      go_simp
                                      with_reducible rfl
                                    rotate_left
                                    · simp only [Act.put, List.setIfInBounds_toArray, List.set_cons_zero, List.set_cons_succ, i64_w, i32_w]
                                      rfl
                                    refine pure_ (i := 3) (N := some 60) (v := ?_) (a' := ?_) #[true, false, true, true, false, false, false, false, false, false] rfl rfl (any_of HT_.out (by kernel_rfl)) (fun _ _ _ h => h) (Or.inl ⟨by rfl, ?_⟩) ?_ ?_
                                    rotate_left
                                    · intro w'
                                      go_simp
                                      with_reducible rfl
                                    rotate_left
                                    · simp only [Act.put, List.setIfInBounds_toArray, List.set_cons_zero, List.set_cons_succ, i64_w, i32_w]
                                      rfl
                                    refine pure_ (i := 4) (N := some 61) (v := ?_) (a' := ?_) #[true, false, true, true, true, false, false, false, false, false] rfl rfl (any_of HT_.out (by kernel_rfl)) (fun _ _ _ h => h) (Or.inl ⟨by rfl, ?_⟩) ?_ ?_
                                    rotate_left
                                    · intro w'
                                      go_simp
                                      with_reducible rfl
                                    rotate_left
                                    · simp only [Act.put, List.setIfInBounds_toArray, List.set_cons_zero, List.set_cons_succ, i64_w, i32_w]
                                      rfl
                                    refine take_ (i := 1) (N := some 58) (v := ?_) (a' := ?_) #[true, true, true, true, true, false, false, false, false, false] rfl rfl (take_ofW HT_.out HW_.out (by kernel_rfl)) (fun _ _ _ h => h) (Or.inl ⟨by rfl, ?_⟩) hHeld ?_ ?_
                                    rotate_left
                                    · rintro w' ⟨s0, s1, s2, s3, s4, s5⟩
                                      go_simp
                                      with_reducible rfl
                                    rotate_left
                                    · simp only [Act.put, List.setIfInBounds_toArray, List.set_cons_zero, List.set_cons_succ, i64_w, i32_w]
                                      rfl
                                    refine take_ (i := 5) (N := some 62) (v := ?_) (a' := ?_) #[true, true, true, true, true, true, false, false, false, false] rfl rfl (take_ofW HT_.out HW_.out (by kernel_rfl)) (fun _ _ _ h => h) (Or.inl ⟨by rfl, ?_⟩) hHeld ?_ ?_
                                    rotate_left
                                    · rintro w' ⟨s0, s1, s2, s3, s4, s5⟩
                                      go_simp
                                      with_reducible rfl
                                    rotate_left
                                    · simp only [Act.put, List.setIfInBounds_toArray, List.set_cons_zero, List.set_cons_succ, i64_w, i32_w]
                                      rfl
                                    refine pure_ (i := 6) (N := some 63) (v := ?_) (a' := ?_) #[true, true, true, true, true, true, true, false, false, false] rfl rfl (any_of HT_.out (by kernel_rfl)) (fun _ _ _ h => h) (Or.inl ⟨by rfl, ?_⟩) ?_ ?_
                                    rotate_left
                                    · intro w'
                                      go_simp
                                      with_reducible rfl
                                    rotate_left
                                    · simp only [Act.put, List.setIfInBounds_toArray, List.set_cons_zero, List.set_cons_succ, i64_w, i32_w]
                                      rfl
                                    refine take_ (i := 7) (N := some 64) (v := ?_) (a' := ?_) #[true, true, true, true, true, true, true, true, false, false] rfl rfl (take_ofW HT_.out HW_.out (by kernel_rfl)) (fun _ _ _ h => h) (Or.inl ⟨by rfl, ?_⟩) hHeld ?_ ?_
                                    rotate_left
                                    · rintro w' ⟨s0, s1, s2, s3, s4, s5⟩
                                      go_simp
                                      with_reducible rfl
                                    rotate_left
                                    · simp only [Act.put, List.setIfInBounds_toArray, List.set_cons_zero, List.set_cons_succ, i64_w, i32_w]
                                      rfl
                                    refine one_ (i := 8) (N := some 11) #[true, true, true, true, true, true, true, true, true, false] rfl rfl (one_of HT_.out (by kernel_rfl)) (by decide) (fun K hK => ?_)
                                    refine box_step ?hg (N := 11) ?hd (cs := #[.int .u8 0, .int .i64 0, .int .i64 0, .int .i64 0]) (t := 47) ?hr ?_; (case hd => rfl); (case hg => rfl); (case hr => first | (go_simp; done) | (go_simp; rfl))
                                    intro gb307 hg w73 hbox hb
                                    have HS1_ := (hb.cell (World.block_lt_of_cell? _ _ (hHeld.2.1))).trans (hHeld.2.1)
                                    have n0_ := Aside0.mk (Kd.R_below (by (with_reducible repeat (first | apply Kd.R_alloc | apply Kd.R_drewN | apply Kd.R_drew)); exact HO_7.out) hb)
                                    have n1_ := Aside0.mk (blk_below (g := gb297) (o := .cells #[.slice (some ad299) l0_0.length c0_0] 25 (0, 0)) (by (with_reducible repeat (first | refine blk_drewN ?_ _ | refine blk_drew ?_ | refine blk_alloc ?_ _)); exact BK297.out) hb)
                                    have n2_ := Aside0.mk (blk_below (g := gb300) (o := .cells #[.int .u8 ((rd_T47 l0_0 x5_1).f0), .int .i64 ((rd_T47 l0_0 x5_1).f1), .int .i64 ((rd_T47 l0_0 x5_1).f2), .int .i64 ((rd_T47 l0_0 x5_1).f3)] 47 (0, 0)) (by (with_reducible repeat (first | refine blk_drewN ?_ _ | refine blk_drew ?_ | refine blk_alloc ?_ _)); exact BK300.out) hb)
                                    have n3_ := Aside0.mk (below_step (by repeat (first | (with_reducible first | exact HB.out | apply below_alloc | apply pw_below_drewN | apply below_drew1 | refine below_set ?_ GE297.out | refine below_set ?_ GE300.out) | exact HB.out)) hb)
                                    have n4_ := Aside0.mk (hbox)
                                    have n5_ := Aside0.mk ((by rw [hg]; exact (below_size (by repeat (first | (with_reducible first | exact HB.out | apply below_alloc | apply pw_below_drewN | apply below_drew1 | refine below_set ?_ GE297.out | refine below_set ?_ GE300.out) | exact HB.out))) : w.heap.size ≤ gb307))
                                    have n6_ := Aside0.mk ((by rw [hg]; exact (below_size (by repeat (first | (with_reducible first | exact HB.out | apply below_alloc | apply pw_below_drewN | apply below_drew1 | refine below_set ?_ GE297.out | refine below_set ?_ GE300.out) | exact HB.out))) : w.heap.size ≤ gb307))
                                    have n7_ := Aside0.mk ((by rw [hg]; exact Nat.ne_of_lt (blk_lt (g := gb297) (o := .cells #[.slice (some ad299) l0_0.length c0_0] 25 (0, 0)) (by (with_reducible repeat (first | refine blk_drewN ?_ _ | refine blk_drew ?_ | refine blk_alloc ?_ _)); exact BK297.out)) : gb297 ≠ gb307))
                                    have n8_ := Aside0.mk ((by rw [hg]; exact Nat.ne_of_gt (blk_lt (g := gb297) (o := .cells #[.slice (some ad299) l0_0.length c0_0] 25 (0, 0)) (by (with_reducible repeat (first | refine blk_drewN ?_ _ | refine blk_drew ?_ | refine blk_alloc ?_ _)); exact BK297.out)) : gb307 ≠ gb297))
                                    have n9_ := Aside0.mk ((by rw [hg]; exact Nat.ne_of_lt (blk_lt (g := gb300) (o := .cells #[.int .u8 ((rd_T47 l0_0 x5_1).f0), .int .i64 ((rd_T47 l0_0 x5_1).f1), .int .i64 ((rd_T47 l0_0 x5_1).f2), .int .i64 ((rd_T47 l0_0 x5_1).f3)] 47 (0, 0)) (by (with_reducible repeat (first | refine blk_drewN ?_ _ | refine blk_drew ?_ | refine blk_alloc ?_ _)); exact BK300.out)) : gb300 ≠ gb307))
                                    have n10_ := Aside0.mk ((by rw [hg]; exact Nat.ne_of_gt (blk_lt (g := gb300) (o := .cells #[.int .u8 ((rd_T47 l0_0 x5_1).f0), .int .i64 ((rd_T47 l0_0 x5_1).f1), .int .i64 ((rd_T47 l0_0 x5_1).f2), .int .i64 ((rd_T47 l0_0 x5_1).f3)] 47 (0, 0)) (by (with_reducible repeat (first | refine blk_drewN ?_ _ | refine blk_drew ?_ | refine blk_alloc ?_ _)); exact BK300.out)) : gb307 ≠ gb300))
                                    clear HO_7
                                    clear BK297
                                    clear BK300
                                    clear HB
                                    have HO_7 := n0_
                                    have BK297 := n1_
                                    have BK300 := n2_
                                    have HB := n3_
                                    have BK307 := n4_
                                    have GW307 := n5_
                                    have GE307 := n6_
                                    have NB297_307 := n7_
                                    have NB307_297 := n8_
                                    have NB300_307 := n9_
                                    have NB307_300 := n10_
                                    clear n0_ n1_ n2_ n3_ n4_ n5_ n6_ n7_ n8_ n9_ n10_
                                    clear hb hbox hg
                                    refine hK.out _ _ ⟨(blk_cell BK297.out 0).trans rfl, HS1_, ((HB.out.cell (World.block_lt_of_cell? w _ hw306_0)).trans hw306_0), ((HB.out.cell (World.block_lt_of_cell? w _ hw306_1)).trans hw306_1), ((HB.out.cell (World.block_lt_of_cell? w _ hw306_2)).trans hw306_2), ((HB.out.cell (World.block_lt_of_cell? w _ hw306_3)).trans hw306_3)⟩ (fun hHeld => ?_)
                                    clear hK K
                                    refine norm_ (a' := ?_) ?_ ?_
                                    rotate_left
                                    · show Act.put _ (some 11) _ = _
                                      simp only [Act.put, List.setIfInBounds_toArray, List.set_cons_zero, List.set_cons_succ, i64_w, i32_w]
                                      rfl
                                    refine one_ (i := 9) (N := none) #[true, true, true, true, true, true, true, true, true, true] rfl rfl (one_of HT_.out (by kernel_rfl)) (by decide) (fun K hK => ?_)
                                    have hs74 : w73.cell? ⟨gb307, 0, none⟩ = some (.int .u8 0) := (blk_cell BK307.out 0).trans rfl
                                    have hfs74 := blk_frozen BK307.out 0
                                    have hns74_0 := NB297_307.out
                                    have hns74_1 := NB300_307.out
                                    have hms74_0 := NB307_297.out
                                    have hms74_1 := NB307_300.out
                                    have hs75 : w73.cell? ⟨gb307, 1, none⟩ = some (.int .i64 0) := (blk_cell BK307.out 1).trans rfl
                                    have hfs75 := blk_frozen BK307.out 1
                                    have hns75_0 := NB297_307.out
                                    have hns75_1 := NB300_307.out
                                    have hms75_0 := NB307_297.out
                                    have hms75_1 := NB307_300.out
                                    have hs76 : w73.cell? ⟨gb307, 2, none⟩ = some (.int .i64 0) := (blk_cell BK307.out 2).trans rfl
                                    have hfs76 := blk_frozen BK307.out 2
                                    have hns76_0 := NB297_307.out
                                    have hns76_1 := NB300_307.out
                                    have hms76_0 := NB307_297.out
                                    have hms76_1 := NB307_300.out
                                    have hs77 : w73.cell? ⟨gb307, 3, none⟩ = some (.int .i64 0) := (blk_cell BK307.out 3).trans rfl
                                    have hfs77 := blk_frozen BK307.out 3
                                    have hns77_0 := NB297_307.out
                                    have hns77_1 := NB300_307.out
                                    have hms77_0 := NB307_297.out
                                    have hms77_1 := NB307_300.out
                                    refine skip_ (w1 := ?_) (by rfl) rfl ?_ ?_
                                    rotate_left
                                    · go_simp
                                      rfl
                                    refine hK.out _ _ ⟨((cell_far (p := ⟨gb307, _, none⟩) NB297_307.out _).trans (((cell_far (p := ⟨gb307, _, none⟩) NB297_307.out _).trans (((cell_far (p := ⟨gb307, _, none⟩) NB297_307.out _).trans (((cell_far (p := ⟨gb307, _, none⟩) NB297_307.out _).trans (hHeld.1)))))))), ((cell_far (p := ⟨gb307, _, none⟩) (by first | exact Kd.own_blk (Kd.R_ne HO_7.out BK307.out (by decide)) | (rw [add_block]; exact Kd.own_blk (Kd.R_ne HO_7.out BK307.out (by decide))) | (show (Addr.add _ _).block ≠ _; rw [add_block]; exact Kd.own_blk (Kd.R_ne HO_7.out BK307.out (by decide))) | (dsimp only; exact Kd.own_blk (Kd.R_ne HO_7.out BK307.out (by decide)))) _).trans (((cell_far (p := ⟨gb307, _, none⟩) (by first | exact Kd.own_blk (Kd.R_ne HO_7.out BK307.out (by decide)) | (rw [add_block]; exact Kd.own_blk (Kd.R_ne HO_7.out BK307.out (by decide))) | (show (Addr.add _ _).block ≠ _; rw [add_block]; exact Kd.own_blk (Kd.R_ne HO_7.out BK307.out (by decide))) | (dsimp only; exact Kd.own_blk (Kd.R_ne HO_7.out BK307.out (by decide)))) _).trans (((cell_far (p := ⟨gb307, _, none⟩) (by first | exact Kd.own_blk (Kd.R_ne HO_7.out BK307.out (by decide)) | (rw [add_block]; exact Kd.own_blk (Kd.R_ne HO_7.out BK307.out (by decide))) | (show (Addr.add _ _).block ≠ _; rw [add_block]; exact Kd.own_blk (Kd.R_ne HO_7.out BK307.out (by decide))) | (dsimp only; exact Kd.own_blk (Kd.R_ne HO_7.out BK307.out (by decide)))) _).trans (((cell_far (p := ⟨gb307, _, none⟩) (by first | exact Kd.own_blk (Kd.R_ne HO_7.out BK307.out (by decide)) | (rw [add_block]; exact Kd.own_blk (Kd.R_ne HO_7.out BK307.out (by decide))) | (show (Addr.add _ _).block ≠ _; rw [add_block]; exact Kd.own_blk (Kd.R_ne HO_7.out BK307.out (by decide))) | (dsimp only; exact Kd.own_blk (Kd.R_ne HO_7.out BK307.out (by decide)))) _).trans (hHeld.2.1)))))))), ((cell_far (p := ⟨gb307, _, none⟩) (by first | exact Nat.ne_of_lt (Nat.lt_of_lt_of_le (by have := World.block_lt_of_cell? _ _ hw306_0; first | rwa [add_block] at this | exact this) GW307.out) | (rw [add_block]; exact Nat.ne_of_lt (Nat.lt_of_lt_of_le (by have := World.block_lt_of_cell? _ _ hw306_0; first | rwa [add_block] at this | exact this) GW307.out)) | (show (Addr.add _ _).block ≠ _; rw [add_block]; exact Nat.ne_of_lt (Nat.lt_of_lt_of_le (by have := World.block_lt_of_cell? _ _ hw306_0; first | rwa [add_block] at this | exact this) GW307.out)) | (dsimp only; exact Nat.ne_of_lt (Nat.lt_of_lt_of_le (by have := World.block_lt_of_cell? _ _ hw306_0; first | rwa [add_block] at this | exact this) GW307.out))) _).trans (((cell_far (p := ⟨gb307, _, none⟩) (by first | exact Nat.ne_of_lt (Nat.lt_of_lt_of_le (by have := World.block_lt_of_cell? _ _ hw306_0; first | rwa [add_block] at this | exact this) GW307.out) | (rw [add_block]; exact Nat.ne_of_lt (Nat.lt_of_lt_of_le (by have := World.block_lt_of_cell? _ _ hw306_0; first | rwa [add_block] at this | exact this) GW307.out)) | (show (Addr.add _ _).block ≠ _; rw [add_block]; exact Nat.ne_of_lt (Nat.lt_of_lt_of_le (by have := World.block_lt_of_cell? _ _ hw306_0; first | rwa [add_block] at this | exact this) GW307.out)) | (dsimp only; exact Nat.ne_of_lt (Nat.lt_of_lt_of_le (by have := World.block_lt_of_cell? _ _ hw306_0; first | rwa [add_block] at this | exact this) GW307.out))) _).trans (((cell_far (p := ⟨gb307, _, none⟩) (by first | exact Nat.ne_of_lt (Nat.lt_of_lt_of_le (by have := World.block_lt_of_cell? _ _ hw306_0; first | rwa [add_block] at this | exact this) GW307.out) | (rw [add_block]; exact Nat.ne_of_lt (Nat.lt_of_lt_of_le (by have := World.block_lt_of_cell? _ _ hw306_0; first | rwa [add_block] at this | exact this) GW307.out)) | (show (Addr.add _ _).block ≠ _; rw [add_block]; exact Nat.ne_of_lt (Nat.lt_of_lt_of_le (by have := World.block_lt_of_cell? _ _ hw306_0; first | rwa [add_block] at this | exact this) GW307.out)) | (dsimp only; exact Nat.ne_of_lt (Nat.lt_of_lt_of_le (by have := World.block_lt_of_cell? _ _ hw306_0; first | rwa [add_block] at this | exact this) GW307.out))) _).trans (((cell_far (p := ⟨gb307, _, none⟩) (by first | exact Nat.ne_of_lt (Nat.lt_of_lt_of_le (by have := World.block_lt_of_cell? _ _ hw306_0; first | rwa [add_block] at this | exact this) GW307.out) | (rw [add_block]; exact Nat.ne_of_lt (Nat.lt_of_lt_of_le (by have := World.block_lt_of_cell? _ _ hw306_0; first | rwa [add_block] at this | exact this) GW307.out)) | (show (Addr.add _ _).block ≠ _; rw [add_block]; exact Nat.ne_of_lt (Nat.lt_of_lt_of_le (by have := World.block_lt_of_cell? _ _ hw306_0; first | rwa [add_block] at this | exact this) GW307.out)) | (dsimp only; exact Nat.ne_of_lt (Nat.lt_of_lt_of_le (by have := World.block_lt_of_cell? _ _ hw306_0; first | rwa [add_block] at this | exact this) GW307.out))) _).trans (hHeld.2.2.1)))))))), ((cell_far (p := ⟨gb307, _, none⟩) (by first | exact Nat.ne_of_lt (Nat.lt_of_lt_of_le (by have := World.block_lt_of_cell? _ _ hw306_1; first | rwa [add_block] at this | exact this) GW307.out) | (rw [add_block]; exact Nat.ne_of_lt (Nat.lt_of_lt_of_le (by have := World.block_lt_of_cell? _ _ hw306_1; first | rwa [add_block] at this | exact this) GW307.out)) | (show (Addr.add _ _).block ≠ _; rw [add_block]; exact Nat.ne_of_lt (Nat.lt_of_lt_of_le (by have := World.block_lt_of_cell? _ _ hw306_1; first | rwa [add_block] at this | exact this) GW307.out)) | (dsimp only; exact Nat.ne_of_lt (Nat.lt_of_lt_of_le (by have := World.block_lt_of_cell? _ _ hw306_1; first | rwa [add_block] at this | exact this) GW307.out))) _).trans (((cell_far (p := ⟨gb307, _, none⟩) (by first | exact Nat.ne_of_lt (Nat.lt_of_lt_of_le (by have := World.block_lt_of_cell? _ _ hw306_1; first | rwa [add_block] at this | exact this) GW307.out) | (rw [add_block]; exact Nat.ne_of_lt (Nat.lt_of_lt_of_le (by have := World.block_lt_of_cell? _ _ hw306_1; first | rwa [add_block] at this | exact this) GW307.out)) | (show (Addr.add _ _).block ≠ _; rw [add_block]; exact Nat.ne_of_lt (Nat.lt_of_lt_of_le (by have := World.block_lt_of_cell? _ _ hw306_1; first | rwa [add_block] at this | exact this) GW307.out)) | (dsimp only; exact Nat.ne_of_lt (Nat.lt_of_lt_of_le (by have := World.block_lt_of_cell? _ _ hw306_1; first | rwa [add_block] at this | exact this) GW307.out))) _).trans (((cell_far (p := ⟨gb307, _, none⟩) (by first | exact Nat.ne_of_lt (Nat.lt_of_lt_of_le (by have := World.block_lt_of_cell? _ _ hw306_1; first | rwa [add_block] at this | exact this) GW307.out) | (rw [add_block]; exact Nat.ne_of_lt (Nat.lt_of_lt_of_le (by have := World.block_lt_of_cell? _ _ hw306_1; first | rwa [add_block] at this | exact this) GW307.out)) | (show (Addr.add _ _).block ≠ _; rw [add_block]; exact Nat.ne_of_lt (Nat.lt_of_lt_of_le (by have := World.block_lt_of_cell? _ _ hw306_1; first | rwa [add_block] at this | exact this) GW307.out)) | (dsimp only; exact Nat.ne_of_lt (Nat.lt_of_lt_of_le (by have := World.block_lt_of_cell? _ _ hw306_1; first | rwa [add_block] at this | exact this) GW307.out))) _).trans (((cell_far (p := ⟨gb307, _, none⟩) (by first | exact Nat.ne_of_lt (Nat.lt_of_lt_of_le (by have := World.block_lt_of_cell? _ _ hw306_1; first | rwa [add_block] at this | exact this) GW307.out) | (rw [add_block]; exact Nat.ne_of_lt (Nat.lt_of_lt_of_le (by have := World.block_lt_of_cell? _ _ hw306_1; first | rwa [add_block] at this | exact this) GW307.out)) | (show (Addr.add _ _).block ≠ _; rw [add_block]; exact Nat.ne_of_lt (Nat.lt_of_lt_of_le (by have := World.block_lt_of_cell? _ _ hw306_1; first | rwa [add_block] at this | exact this) GW307.out)) | (dsimp only; exact Nat.ne_of_lt (Nat.lt_of_lt_of_le (by have := World.block_lt_of_cell? _ _ hw306_1; first | rwa [add_block] at this | exact this) GW307.out))) _).trans (hHeld.2.2.2.1)))))))), ((cell_far (p := ⟨gb307, _, none⟩) (by first | exact Nat.ne_of_lt (Nat.lt_of_lt_of_le (by have := World.block_lt_of_cell? _ _ hw306_2; first | rwa [add_block] at this | exact this) GW307.out) | (rw [add_block]; exact Nat.ne_of_lt (Nat.lt_of_lt_of_le (by have := World.block_lt_of_cell? _ _ hw306_2; first | rwa [add_block] at this | exact this) GW307.out)) | (show (Addr.add _ _).block ≠ _; rw [add_block]; exact Nat.ne_of_lt (Nat.lt_of_lt_of_le (by have := World.block_lt_of_cell? _ _ hw306_2; first | rwa [add_block] at this | exact this) GW307.out)) | (dsimp only; exact Nat.ne_of_lt (Nat.lt_of_lt_of_le (by have := World.block_lt_of_cell? _ _ hw306_2; first | rwa [add_block] at this | exact this) GW307.out))) _).trans (((cell_far (p := ⟨gb307, _, none⟩) (by first | exact Nat.ne_of_lt (Nat.lt_of_lt_of_le (by have := World.block_lt_of_cell? _ _ hw306_2; first | rwa [add_block] at this | exact this) GW307.out) | (rw [add_block]; exact Nat.ne_of_lt (Nat.lt_of_lt_of_le (by have := World.block_lt_of_cell? _ _ hw306_2; first | rwa [add_block] at this | exact this) GW307.out)) | (show (Addr.add _ _).block ≠ _; rw [add_block]; exact Nat.ne_of_lt (Nat.lt_of_lt_of_le (by have := World.block_lt_of_cell? _ _ hw306_2; first | rwa [add_block] at this | exact this) GW307.out)) | (dsimp only; exact Nat.ne_of_lt (Nat.lt_of_lt_of_le (by have := World.block_lt_of_cell? _ _ hw306_2; first | rwa [add_block] at this | exact this) GW307.out))) _).trans (((cell_far (p := ⟨gb307, _, none⟩) (by first | exact Nat.ne_of_lt (Nat.lt_of_lt_of_le (by have := World.block_lt_of_cell? _ _ hw306_2; first | rwa [add_block] at this | exact this) GW307.out) | (rw [add_block]; exact Nat.ne_of_lt (Nat.lt_of_lt_of_le (by have := World.block_lt_of_cell? _ _ hw306_2; first | rwa [add_block] at this | exact this) GW307.out)) | (show (Addr.add _ _).block ≠ _; rw [add_block]; exact Nat.ne_of_lt (Nat.lt_of_lt_of_le (by have := World.block_lt_of_cell? _ _ hw306_2; first | rwa [add_block] at this | exact this) GW307.out)) | (dsimp only; exact Nat.ne_of_lt (Nat.lt_of_lt_of_le (by have := World.block_lt_of_cell? _ _ hw306_2; first | rwa [add_block] at this | exact this) GW307.out))) _).trans (((cell_far (p := ⟨gb307, _, none⟩) (by first | exact Nat.ne_of_lt (Nat.lt_of_lt_of_le (by have := World.block_lt_of_cell? _ _ hw306_2; first | rwa [add_block] at this | exact this) GW307.out) | (rw [add_block]; exact Nat.ne_of_lt (Nat.lt_of_lt_of_le (by have := World.block_lt_of_cell? _ _ hw306_2; first | rwa [add_block] at this | exact this) GW307.out)) | (show (Addr.add _ _).block ≠ _; rw [add_block]; exact Nat.ne_of_lt (Nat.lt_of_lt_of_le (by have := World.block_lt_of_cell? _ _ hw306_2; first | rwa [add_block] at this | exact this) GW307.out)) | (dsimp only; exact Nat.ne_of_lt (Nat.lt_of_lt_of_le (by have := World.block_lt_of_cell? _ _ hw306_2; first | rwa [add_block] at this | exact this) GW307.out))) _).trans (hHeld.2.2.2.2.1)))))))), ((cell_far (p := ⟨gb307, _, none⟩) (by first | exact Nat.ne_of_lt (Nat.lt_of_lt_of_le (by have := World.block_lt_of_cell? _ _ hw306_3; first | rwa [add_block] at this | exact this) GW307.out) | (rw [add_block]; exact Nat.ne_of_lt (Nat.lt_of_lt_of_le (by have := World.block_lt_of_cell? _ _ hw306_3; first | rwa [add_block] at this | exact this) GW307.out)) | (show (Addr.add _ _).block ≠ _; rw [add_block]; exact Nat.ne_of_lt (Nat.lt_of_lt_of_le (by have := World.block_lt_of_cell? _ _ hw306_3; first | rwa [add_block] at this | exact this) GW307.out)) | (dsimp only; exact Nat.ne_of_lt (Nat.lt_of_lt_of_le (by have := World.block_lt_of_cell? _ _ hw306_3; first | rwa [add_block] at this | exact this) GW307.out))) _).trans (((cell_far (p := ⟨gb307, _, none⟩) (by first | exact Nat.ne_of_lt (Nat.lt_of_lt_of_le (by have := World.block_lt_of_cell? _ _ hw306_3; first | rwa [add_block] at this | exact this) GW307.out) | (rw [add_block]; exact Nat.ne_of_lt (Nat.lt_of_lt_of_le (by have := World.block_lt_of_cell? _ _ hw306_3; first | rwa [add_block] at this | exact this) GW307.out)) | (show (Addr.add _ _).block ≠ _; rw [add_block]; exact Nat.ne_of_lt (Nat.lt_of_lt_of_le (by have := World.block_lt_of_cell? _ _ hw306_3; first | rwa [add_block] at this | exact this) GW307.out)) | (dsimp only; exact Nat.ne_of_lt (Nat.lt_of_lt_of_le (by have := World.block_lt_of_cell? _ _ hw306_3; first | rwa [add_block] at this | exact this) GW307.out))) _).trans (((cell_far (p := ⟨gb307, _, none⟩) (by first | exact Nat.ne_of_lt (Nat.lt_of_lt_of_le (by have := World.block_lt_of_cell? _ _ hw306_3; first | rwa [add_block] at this | exact this) GW307.out) | (rw [add_block]; exact Nat.ne_of_lt (Nat.lt_of_lt_of_le (by have := World.block_lt_of_cell? _ _ hw306_3; first | rwa [add_block] at this | exact this) GW307.out)) | (show (Addr.add _ _).block ≠ _; rw [add_block]; exact Nat.ne_of_lt (Nat.lt_of_lt_of_le (by have := World.block_lt_of_cell? _ _ hw306_3; first | rwa [add_block] at this | exact this) GW307.out)) | (dsimp only; exact Nat.ne_of_lt (Nat.lt_of_lt_of_le (by have := World.block_lt_of_cell? _ _ hw306_3; first | rwa [add_block] at this | exact this) GW307.out))) _).trans (((cell_far (p := ⟨gb307, _, none⟩) (by first | exact Nat.ne_of_lt (Nat.lt_of_lt_of_le (by have := World.block_lt_of_cell? _ _ hw306_3; first | rwa [add_block] at this | exact this) GW307.out) | (rw [add_block]; exact Nat.ne_of_lt (Nat.lt_of_lt_of_le (by have := World.block_lt_of_cell? _ _ hw306_3; first | rwa [add_block] at this | exact this) GW307.out)) | (show (Addr.add _ _).block ≠ _; rw [add_block]; exact Nat.ne_of_lt (Nat.lt_of_lt_of_le (by have := World.block_lt_of_cell? _ _ hw306_3; first | rwa [add_block] at this | exact this) GW307.out)) | (dsimp only; exact Nat.ne_of_lt (Nat.lt_of_lt_of_le (by have := World.block_lt_of_cell? _ _ hw306_3; first | rwa [add_block] at this | exact this) GW307.out))) _).trans (hHeld.2.2.2.2.2))))))))⟩ (fun hHeld => ?_)
                                    clear hK K
                                    refine done_ (done_of HT_.out (by kernel_rfl)) ?_
                                    have hnb78 := NB307_297.out
                                    have hnc78 := NB297_307.out
                                    have hnb79 := NB307_300.out
                                    have hnc79 := NB300_307.out
                                    have hcz80_0 : w73.cell? ⟨gb307, 0, none⟩ = some (.int .u8 0) := (blk_cell BK307.out 0).trans rfl
                                    have hcz80_1 : w73.cell? ⟨gb307, 1, none⟩ = some (.int .i64 0) := (blk_cell BK307.out 1).trans rfl
                                    have hcz80_2 : w73.cell? ⟨gb307, 2, none⟩ = some (.int .i64 0) := (blk_cell BK307.out 2).trans rfl
                                    have hcz80_3 : w73.cell? ⟨gb307, 3, none⟩ = some (.int .i64 0) := (blk_cell BK307.out 3).trans rfl
                                    have hfz80_0 := blk_frozen BK307.out 0
                                    have hfz80_1 := blk_frozen BK307.out 1
                                    have hfz80_2 := blk_frozen BK307.out 2
                                    have hfz80_3 := blk_frozen BK307.out 3
                                    have hnb81 := NB300_297.out
                                    have hnc81 := NB297_300.out
                                    have hcz82_0 : w73.cell? ⟨gb300, 0, none⟩ = some (.int .u8 ((rd_T47 l0_0 x5_1).f0)) := (blk_cell BK300.out 0).trans rfl
                                    have hcz82_1 : w73.cell? ⟨gb300, 1, none⟩ = some (.int .i64 ((rd_T47 l0_0 x5_1).f1)) := (blk_cell BK300.out 1).trans rfl
                                    have hcz82_2 : w73.cell? ⟨gb300, 2, none⟩ = some (.int .i64 ((rd_T47 l0_0 x5_1).f2)) := (blk_cell BK300.out 2).trans rfl
                                    have hcz82_3 : w73.cell? ⟨gb300, 3, none⟩ = some (.int .i64 ((rd_T47 l0_0 x5_1).f3)) := (blk_cell BK300.out 3).trans rfl
                                    have hfz82_0 := blk_frozen BK300.out 0
                                    have hfz82_1 := blk_frozen BK300.out 1
                                    have hfz82_2 := blk_frozen BK300.out 2
                                    have hfz82_3 := blk_frozen BK300.out 3
                                    try go_wp2
                                    go_ret
                                    exact ⟨by first | rfl | (simp [errW_none, errW_some] <;> rfl) | (simp [*, errW_none, errW_some] <;> rfl), by repeat (first | (with_reducible first | exact HB.out | apply below_alloc | apply pw_below_drewN | apply below_drew1 | refine below_set ?_ GE297.out | refine below_set ?_ GE300.out | refine below_set ?_ GE307.out) | exact HB.out)⟩
                                  · rw [if_neg c70] at H
                                    have c70b0 : decide (((rd_T47 l0_0 x5_1).f2) < ((rd_T47 l0_0 (rd t301 x10_3)).f2)) = false := decide_eq_false c70
                                    clear c70
                                    have H' := Aside0.mk H
                                    clear H
                                    obtain ⟨Ao83, co83, eo83⟩ := Kd.R_slice HO_7.out
                                    subst eo83
                                    try go_wp2
                                    have n0_ := Aside0.mk (Kd.R_drew HO_7.out)
                                    have n1_ := Aside0.mk (blk_drew BK297.out)
                                    have n2_ := Aside0.mk (blk_drew BK300.out)
                                    have n3_ := Aside0.mk (below_drew1 HB.out)
                                    clear HO_7
                                    clear BK297
                                    clear BK300
                                    clear HB
                                    have HO_7 := n0_
                                    have BK297 := n1_
                                    have BK300 := n2_
                                    have HB := n3_
                                    clear n0_ n1_ n2_ n3_
                                    have p305 : 0 ≤ (x10_3 : Int) := of_decide_eq_true (by first | (with_reducible assumption) | assumption)
                                    have q305 : x10_3 < (t301.length : Int) := of_decide_eq_true (by first | (with_reducible assumption) | assumption)
                                    obtain ⟨ad305, e305, hx305_0⟩ := Kd.at_int (Kd.R_reads' HO_7.out).2.2 x10_3 p305 q305
                                    cases e305
                                    replace p305 := eq_true p305
                                    replace q305 := eq_true q305
                                    have p306 : 0 ≤ ((rd t301 x10_3) : Int) := of_decide_eq_true (by first | (with_reducible assumption) | assumption)
                                    have q306 : (rd t301 x10_3) < (l0_0.length : Int) := of_decide_eq_true (by first | (with_reducible assumption) | assumption)
                                    obtain ⟨ad306, e306, hx306_0, hx306_1, hx306_2, hx306_3⟩ := at_T47 HR0_0.out (rd t301 x10_3) p306 q306
                                    have hw306_3 := hx306_3
                                    have hw306_2 := hx306_2
                                    have hw306_1 := hx306_1
                                    have hw306_0 := hx306_0
                                    obtain rfl : ad299 = ad306 := (by injection e306)
                                    replace hx306_0 := (HB.out.cell (World.block_lt_of_cell? w _ hx306_0)).trans hx306_0
                                    replace hx306_1 := (HB.out.cell (World.block_lt_of_cell? w _ hx306_1)).trans hx306_1
                                    replace hx306_2 := (HB.out.cell (World.block_lt_of_cell? w _ hx306_2)).trans hx306_2
                                    replace hx306_3 := (HB.out.cell (World.block_lt_of_cell? w _ hx306_3)).trans hx306_3
                                    replace p306 := eq_true p306
                                    replace q306 := eq_true q306
                                    refine start_ (n := 10) (S := fun w' => w'.cell? ⟨gb297, 0, none⟩ = some (.slice (some ad299) l0_0.length c0_0) ∧ w'.cell? (ad305.add (x10_3).toNat) = some (.int .i64 (rd t301 x10_3)) ∧ w'.cell? (ad299.add (((rd t301 x10_3)).toNat * 4)) = some (.int .u8 ((rd_T47 l0_0 (rd t301 x10_3)).f0)) ∧ w'.cell? ⟨(ad299.add (((rd t301 x10_3)).toNat * 4)).block, (ad299.add (((rd t301 x10_3)).toNat * 4)).off + 1, none⟩ = some (.int .i64 ((rd_T47 l0_0 (rd t301 x10_3)).f1)) ∧ w'.cell? ⟨(ad299.add (((rd t301 x10_3)).toNat * 4)).block, (ad299.add (((rd t301 x10_3)).toNat * 4)).off + 2, none⟩ = some (.int .i64 ((rd_T47 l0_0 (rd t301 x10_3)).f2)) ∧ w'.cell? ⟨(ad299.add (((rd t301 x10_3)).toNat * 4)).block, (ad299.add (((rd t301 x10_3)).toNat * 4)).off + 3, none⟩ = some (.int .i64 ((rd_T47 l0_0 (rd t301 x10_3)).f3))) (ds := []) #[false, false, false, false, false, false, false, false, false, false] (by kernel_rfl) rfl rfl ⟨(blk_cell BK297.out 0).trans rfl, hx305_0, ((HB.out.cell (World.block_lt_of_cell? w _ hw306_0)).trans hw306_0), ((HB.out.cell (World.block_lt_of_cell? w _ hw306_1)).trans hw306_1), ((HB.out.cell (World.block_lt_of_cell? w _ hw306_2)).trans hw306_2), ((HB.out.cell (World.block_lt_of_cell? w _ hw306_3)).trans hw306_3)⟩ (fun hHeld => ?_); refine with_tabW monikerref4_Valid.tab14 monikerref4_Valid.bits14 (fun HT_ HW_ => ?_)
                                    generalize wr.drew = w84 at HO_7 BK297 BK300 HB hx305_0 hx306_0 hx306_1 hx306_2 hx306_3 hHeld ⊢
                                    refine pure_ (i := 0) (N := some 57) (v := ?_) (a' := ?_) #[true, false, false, false, false, false, false, false, false, false] rfl rfl (any_of HT_.out (by kernel_rfl)) (fun _ _ _ h => h) (Or.inl ⟨by rfl, ?_⟩) ?_ ?_
                                    rotate_left
                                    · intro w'
                                      go_simp
                                      with_reducible rfl
                                    rotate_left
                                    · simp only [Act.put, List.setIfInBounds_toArray, List.set_cons_zero, List.set_cons_succ, i64_w, i32_w]
                                      rfl
                                    refine pure_ (i := 2) (N := some 59) (v := ?_) (a' := ?_) #[true, false, true, false, false, false, false, false, false, false] rfl rfl (any_of HT_.out (by kernel_rfl)) (fun _ _ _ h => h) (Or.inl ⟨by rfl, ?_⟩) ?_ ?_
                                    rotate_left
                                    · intro w'
                                      go_simp
                                      with_reducible rfl
                                    rotate_left
                                    · simp only [Act.put, List.setIfInBounds_toArray, List.set_cons_zero, List.set_cons_succ, i64_w, i32_w]
                                      rfl
                                    refine pure_ (i := 3) (N := some 60) (v := ?_) (a' := ?_) #[true, false, true, true, false, false, false, false, false, false] rfl rfl (any_of HT_.out (by kernel_rfl)) (fun _ _ _ h => h) (Or.inl ⟨by rfl, ?_⟩) ?_ ?_
                                    rotate_left
                                    · intro w'
                                      go_simp
                                      with_reducible rfl
                                    rotate_left
                                    · simp only [Act.put, List.setIfInBounds_toArray, List.set_cons_zero, List.set_cons_succ, i64_w, i32_w]
                                      rfl
                                    refine pure_ (i := 4) (N := some 61) (v := ?_) (a' := ?_) #[true, false, true, true, true, false, false, false, false, false] rfl rfl (any_of HT_.out (by kernel_rfl)) (fun _ _ _ h => h) (Or.inl ⟨by rfl, ?_⟩) ?_ ?_
                                    rotate_left
                                    · intro w'
                                      go_simp
                                      with_reducible rfl
                                    rotate_left
                                    · simp only [Act.put, List.setIfInBounds_toArray, List.set_cons_zero, List.set_cons_succ, i64_w, i32_w]
                                      rfl
                                    refine take_ (i := 1) (N := some 58) (v := ?_) (a' := ?_) #[true, true, true, true, true, false, false, false, false, false] rfl rfl (take_ofW HT_.out HW_.out (by kernel_rfl)) (fun _ _ _ h => h) (Or.inl ⟨by rfl, ?_⟩) hHeld ?_ ?_
                                    rotate_left
                                    · rintro w' ⟨s0, s1, s2, s3, s4, s5⟩
                                      go_simp
                                      with_reducible rfl
                                    rotate_left
                                    · simp only [Act.put, List.setIfInBounds_toArray, List.set_cons_zero, List.set_cons_succ, i64_w, i32_w]
                                      rfl
                                    refine take_ (i := 5) (N := some 62) (v := ?_) (a' := ?_) #[true, true, true, true, true, true, false, false, false, false] rfl rfl (take_ofW HT_.out HW_.out (by kernel_rfl)) (fun _ _ _ h => h) (Or.inl ⟨by rfl, ?_⟩) hHeld ?_ ?_
                                    rotate_left
                                    · rintro w' ⟨s0, s1, s2, s3, s4, s5⟩
                                      go_simp
                                      with_reducible rfl
                                    rotate_left
                                    · simp only [Act.put, List.setIfInBounds_toArray, List.set_cons_zero, List.set_cons_succ, i64_w, i32_w]
                                      rfl
                                    refine pure_ (i := 6) (N := some 63) (v := ?_) (a' := ?_) #[true, true, true, true, true, true, true, false, false, false] rfl rfl (any_of HT_.out (by kernel_rfl)) (fun _ _ _ h => h) (Or.inl ⟨by rfl, ?_⟩) ?_ ?_
                                    rotate_left
                                    · intro w'
                                      go_simp
                                      with_reducible rfl
                                    rotate_left
                                    · simp only [Act.put, List.setIfInBounds_toArray, List.set_cons_zero, List.set_cons_succ, i64_w, i32_w]
                                      rfl
                                    refine take_ (i := 7) (N := some 64) (v := ?_) (a' := ?_) #[true, true, true, true, true, true, true, true, false, false] rfl rfl (take_ofW HT_.out HW_.out (by kernel_rfl)) (fun _ _ _ h => h) (Or.inl ⟨by rfl, ?_⟩) hHeld ?_ ?_
                                    rotate_left
                                    · rintro w' ⟨s0, s1, s2, s3, s4, s5⟩
                                      go_simp
                                      with_reducible rfl
                                    rotate_left
                                    · simp only [Act.put, List.setIfInBounds_toArray, List.set_cons_zero, List.set_cons_succ, i64_w, i32_w]
                                      rfl
                                    refine one_ (i := 8) (N := some 11) #[true, true, true, true, true, true, true, true, true, false] rfl rfl (one_of HT_.out (by kernel_rfl)) (by decide) (fun K hK => ?_)
                                    refine box_step ?hg (N := 11) ?hd (cs := #[.int .u8 0, .int .i64 0, .int .i64 0, .int .i64 0]) (t := 47) ?hr ?_; (case hd => rfl); (case hg => rfl); (case hr => first | (go_simp; done) | (go_simp; rfl))
                                    intro gb307 hg w85 hbox hb
                                    have HS1_ := (hb.cell (World.block_lt_of_cell? _ _ (hHeld.2.1))).trans (hHeld.2.1)
                                    have n0_ := Aside0.mk (Kd.R_below (by (with_reducible repeat (first | apply Kd.R_alloc | apply Kd.R_drewN | apply Kd.R_drew)); exact HO_7.out) hb)
                                    have n1_ := Aside0.mk (blk_below (g := gb297) (o := .cells #[.slice (some ad299) l0_0.length c0_0] 25 (0, 0)) (by (with_reducible repeat (first | refine blk_drewN ?_ _ | refine blk_drew ?_ | refine blk_alloc ?_ _)); exact BK297.out) hb)
                                    have n2_ := Aside0.mk (blk_below (g := gb300) (o := .cells #[.int .u8 ((rd_T47 l0_0 x5_1).f0), .int .i64 ((rd_T47 l0_0 x5_1).f1), .int .i64 ((rd_T47 l0_0 x5_1).f2), .int .i64 ((rd_T47 l0_0 x5_1).f3)] 47 (0, 0)) (by (with_reducible repeat (first | refine blk_drewN ?_ _ | refine blk_drew ?_ | refine blk_alloc ?_ _)); exact BK300.out) hb)
                                    have n3_ := Aside0.mk (below_step (by repeat (first | (with_reducible first | exact HB.out | apply below_alloc | apply pw_below_drewN | apply below_drew1 | refine below_set ?_ GE297.out | refine below_set ?_ GE300.out) | exact HB.out)) hb)
                                    have n4_ := Aside0.mk (hbox)
                                    have n5_ := Aside0.mk ((by rw [hg]; exact (below_size (by repeat (first | (with_reducible first | exact HB.out | apply below_alloc | apply pw_below_drewN | apply below_drew1 | refine below_set ?_ GE297.out | refine below_set ?_ GE300.out) | exact HB.out))) : w.heap.size ≤ gb307))
                                    have n6_ := Aside0.mk ((by rw [hg]; exact (below_size (by repeat (first | (with_reducible first | exact HB.out | apply below_alloc | apply pw_below_drewN | apply below_drew1 | refine below_set ?_ GE297.out | refine below_set ?_ GE300.out) | exact HB.out))) : w.heap.size ≤ gb307))
                                    have n7_ := Aside0.mk ((by rw [hg]; exact Nat.ne_of_lt (blk_lt (g := gb297) (o := .cells #[.slice (some ad299) l0_0.length c0_0] 25 (0, 0)) (by (with_reducible repeat (first | refine blk_drewN ?_ _ | refine blk_drew ?_ | refine blk_alloc ?_ _)); exact BK297.out)) : gb297 ≠ gb307))
                                    have n8_ := Aside0.mk ((by rw [hg]; exact Nat.ne_of_gt (blk_lt (g := gb297) (o := .cells #[.slice (some ad299) l0_0.length c0_0] 25 (0, 0)) (by (with_reducible repeat (first | refine blk_drewN ?_ _ | refine blk_drew ?_ | refine blk_alloc ?_ _)); exact BK297.out)) : gb307 ≠ gb297))
                                    have n9_ := Aside0.mk ((by rw [hg]; exact Nat.ne_of_lt (blk_lt (g := gb300) (o := .cells #[.int .u8 ((rd_T47 l0_0 x5_1).f0), .int .i64 ((rd_T47 l0_0 x5_1).f1), .int .i64 ((rd_T47 l0_0 x5_1).f2), .int .i64 ((rd_T47 l0_0 x5_1).f3)] 47 (0, 0)) (by (with_reducible repeat (first | refine blk_drewN ?_ _ | refine blk_drew ?_ | refine blk_alloc ?_ _)); exact BK300.out)) : gb300 ≠ gb307))
                                    have n10_ := Aside0.mk ((by rw [hg]; exact Nat.ne_of_gt (blk_lt (g := gb300) (o := .cells #[.int .u8 ((rd_T47 l0_0 x5_1).f0), .int .i64 ((rd_T47 l0_0 x5_1).f1), .int .i64 ((rd_T47 l0_0 x5_1).f2), .int .i64 ((rd_T47 l0_0 x5_1).f3)] 47 (0, 0)) (by (with_reducible repeat (first | refine blk_drewN ?_ _ | refine blk_drew ?_ | refine blk_alloc ?_ _)); exact BK300.out)) : gb307 ≠ gb300))
                                    clear HO_7
                                    clear BK297
                                    clear BK300
                                    clear HB
                                    have HO_7 := n0_
                                    have BK297 := n1_
                                    have BK300 := n2_
                                    have HB := n3_
                                    have BK307 := n4_
                                    have GW307 := n5_
                                    have GE307 := n6_
                                    have NB297_307 := n7_
                                    have NB307_297 := n8_
                                    have NB300_307 := n9_
                                    have NB307_300 := n10_
                                    clear n0_ n1_ n2_ n3_ n4_ n5_ n6_ n7_ n8_ n9_ n10_
                                    clear hb hbox hg
                                    refine hK.out _ _ ⟨(blk_cell BK297.out 0).trans rfl, HS1_, ((HB.out.cell (World.block_lt_of_cell? w _ hw306_0)).trans hw306_0), ((HB.out.cell (World.block_lt_of_cell? w _ hw306_1)).trans hw306_1), ((HB.out.cell (World.block_lt_of_cell? w _ hw306_2)).trans hw306_2), ((HB.out.cell (World.block_lt_of_cell? w _ hw306_3)).trans hw306_3)⟩ (fun hHeld => ?_)
                                    clear hK K
                                    refine norm_ (a' := ?_) ?_ ?_
                                    rotate_left
                                    · show Act.put _ (some 11) _ = _
                                      simp only [Act.put, List.setIfInBounds_toArray, List.set_cons_zero, List.set_cons_succ, i64_w, i32_w]
                                      rfl
                                    refine one_ (i := 9) (N := none) #[true, true, true, true, true, true, true, true, true, true] rfl rfl (one_of HT_.out (by kernel_rfl)) (by decide) (fun K hK => ?_)
                                    have hs86 : w85.cell? ⟨gb307, 0, none⟩ = some (.int .u8 0) := (blk_cell BK307.out 0).trans rfl
                                    have hfs86 := blk_frozen BK307.out 0
                                    have hns86_0 := NB297_307.out
                                    have hns86_1 := NB300_307.out
                                    have hms86_0 := NB307_297.out
                                    have hms86_1 := NB307_300.out
                                    have hs87 : w85.cell? ⟨gb307, 1, none⟩ = some (.int .i64 0) := (blk_cell BK307.out 1).trans rfl
                                    have hfs87 := blk_frozen BK307.out 1
                                    have hns87_0 := NB297_307.out
                                    have hns87_1 := NB300_307.out
                                    have hms87_0 := NB307_297.out
                                    have hms87_1 := NB307_300.out
                                    have hs88 : w85.cell? ⟨gb307, 2, none⟩ = some (.int .i64 0) := (blk_cell BK307.out 2).trans rfl
                                    have hfs88 := blk_frozen BK307.out 2
                                    have hns88_0 := NB297_307.out
                                    have hns88_1 := NB300_307.out
                                    have hms88_0 := NB307_297.out
                                    have hms88_1 := NB307_300.out
                                    have hs89 : w85.cell? ⟨gb307, 3, none⟩ = some (.int .i64 0) := (blk_cell BK307.out 3).trans rfl
                                    have hfs89 := blk_frozen BK307.out 3
                                    have hns89_0 := NB297_307.out
                                    have hns89_1 := NB300_307.out
                                    have hms89_0 := NB307_297.out
                                    have hms89_1 := NB307_300.out
                                    refine skip_ (w1 := ?_) (by rfl) rfl ?_ ?_
                                    rotate_left
                                    · go_simp
                                      rfl
                                    refine hK.out _ _ ⟨((cell_far (p := ⟨gb307, _, none⟩) NB297_307.out _).trans (((cell_far (p := ⟨gb307, _, none⟩) NB297_307.out _).trans (((cell_far (p := ⟨gb307, _, none⟩) NB297_307.out _).trans (((cell_far (p := ⟨gb307, _, none⟩) NB297_307.out _).trans (hHeld.1)))))))), ((cell_far (p := ⟨gb307, _, none⟩) (by first | exact Kd.own_blk (Kd.R_ne HO_7.out BK307.out (by decide)) | (rw [add_block]; exact Kd.own_blk (Kd.R_ne HO_7.out BK307.out (by decide))) | (show (Addr.add _ _).block ≠ _; rw [add_block]; exact Kd.own_blk (Kd.R_ne HO_7.out BK307.out (by decide))) | (dsimp only; exact Kd.own_blk (Kd.R_ne HO_7.out BK307.out (by decide)))) _).trans (((cell_far (p := ⟨gb307, _, none⟩) (by first | exact Kd.own_blk (Kd.R_ne HO_7.out BK307.out (by decide)) | (rw [add_block]; exact Kd.own_blk (Kd.R_ne HO_7.out BK307.out (by decide))) | (show (Addr.add _ _).block ≠ _; rw [add_block]; exact Kd.own_blk (Kd.R_ne HO_7.out BK307.out (by decide))) | (dsimp only; exact Kd.own_blk (Kd.R_ne HO_7.out BK307.out (by decide)))) _).trans (((cell_far (p := ⟨gb307, _, none⟩) (by first | exact Kd.own_blk (Kd.R_ne HO_7.out BK307.out (by decide)) | (rw [add_block]; exact Kd.own_blk (Kd.R_ne HO_7.out BK307.out (by decide))) | (show (Addr.add _ _).block ≠ _; rw [add_block]; exact Kd.own_blk (Kd.R_ne HO_7.out BK307.out (by decide))) | (dsimp only; exact Kd.own_blk (Kd.R_ne HO_7.out BK307.out (by decide)))) _).trans (((cell_far (p := ⟨gb307, _, none⟩) (by first | exact Kd.own_blk (Kd.R_ne HO_7.out BK307.out (by decide)) | (rw [add_block]; exact Kd.own_blk (Kd.R_ne HO_7.out BK307.out (by decide))) | (show (Addr.add _ _).block ≠ _; rw [add_block]; exact Kd.own_blk (Kd.R_ne HO_7.out BK307.out (by decide))) | (dsimp only; exact Kd.own_blk (Kd.R_ne HO_7.out BK307.out (by decide)))) _).trans (hHeld.2.1)))))))), ((cell_far (p := ⟨gb307, _, none⟩) (by first | exact Nat.ne_of_lt (Nat.lt_of_lt_of_le (by have := World.block_lt_of_cell? _ _ hw306_0; first | rwa [add_block] at this | exact this) GW307.out) | (rw [add_block]; exact Nat.ne_of_lt (Nat.lt_of_lt_of_le (by have := World.block_lt_of_cell? _ _ hw306_0; first | rwa [add_block] at this | exact this) GW307.out)) | (show (Addr.add _ _).block ≠ _; rw [add_block]; exact Nat.ne_of_lt (Nat.lt_of_lt_of_le (by have := World.block_lt_of_cell? _ _ hw306_0; first | rwa [add_block] at this | exact this) GW307.out)) | (dsimp only; exact Nat.ne_of_lt (Nat.lt_of_lt_of_le (by have := World.block_lt_of_cell? _ _ hw306_0; first | rwa [add_block] at this | exact this) GW307.out))) _).trans (((cell_far (p := ⟨gb307, _, none⟩) (by first | exact Nat.ne_of_lt (Nat.lt_of_lt_of_le (by have := World.block_lt_of_cell? _ _ hw306_0; first | rwa [add_block] at this | exact this) GW307.out) | (rw [add_block]; exact Nat.ne_of_lt (Nat.lt_of_lt_of_le (by have := World.block_lt_of_cell? _ _ hw306_0; first | rwa [add_block] at this | exact this) GW307.out)) | (show (Addr.add _ _).block ≠ _; rw [add_block]; exact Nat.ne_of_lt (Nat.lt_of_lt_of_le (by have := World.block_lt_of_cell? _ _ hw306_0; first | rwa [add_block] at this | exact this) GW307.out)) | (dsimp only; exact Nat.ne_of_lt (Nat.lt_of_lt_of_le (by have := World.block_lt_of_cell? _ _ hw306_0; first | rwa [add_block] at this | exact this) GW307.out))) _).trans (((cell_far (p := ⟨gb307, _, none⟩) (by first | exact Nat.ne_of_lt (Nat.lt_of_lt_of_le (by have := World.block_lt_of_cell? _ _ hw306_0; first | rwa [add_block] at this | exact this) GW307.out) | (rw [add_block]; exact Nat.ne_of_lt (Nat.lt_of_lt_of_le (by have := World.block_lt_of_cell? _ _ hw306_0; first | rwa [add_block] at this | exact this) GW307.out)) | (show (Addr.add _ _).block ≠ _; rw [add_block]; exact Nat.ne_of_lt (Nat.lt_of_lt_of_le (by have := World.block_lt_of_cell? _ _ hw306_0; first | rwa [add_block] at this | exact this) GW307.out)) | (dsimp only; exact Nat.ne_of_lt (Nat.lt_of_lt_of_le (by have := World.block_lt_of_cell? _ _ hw306_0; first | rwa [add_block] at this | exact this) GW307.out))) _).trans (((cell_far (p := ⟨gb307, _, none⟩) (by first | exact Nat.ne_of_lt (Nat.lt_of_lt_of_le (by have := World.block_lt_of_cell? _ _ hw306_0; first | rwa [add_block] at this | exact this) GW307.out) | (rw [add_block]; exact Nat.ne_of_lt (Nat.lt_of_lt_of_le (by have := World.block_lt_of_cell? _ _ hw306_0; first | rwa [add_block] at this | exact this) GW307.out)) | (show (Addr.add _ _).block ≠ _; rw [add_block]; exact Nat.ne_of_lt (Nat.lt_of_lt_of_le (by have := World.block_lt_of_cell? _ _ hw306_0; first | rwa [add_block] at this | exact this) GW307.out)) | (dsimp only; exact Nat.ne_of_lt (Nat.lt_of_lt_of_le (by have := World.block_lt_of_cell? _ _ hw306_0; first | rwa [add_block] at this | exact this) GW307.out))) _).trans (hHeld.2.2.1)))))))), ((cell_far (p := ⟨gb307, _, none⟩) (by first | exact Nat.ne_of_lt (Nat.lt_of_lt_of_le (by have := World.block_lt_of_cell? _ _ hw306_1; first | rwa [add_block] at this | exact this) GW307.out) | (rw [add_block]; exact Nat.ne_of_lt (Nat.lt_of_lt_of_le (by have := World.block_lt_of_cell? _ _ hw306_1; first | rwa [add_block] at this | exact this) GW307.out)) | (show (Addr.add _ _).block ≠ _; rw [add_block]; exact Nat.ne_of_lt (Nat.lt_of_lt_of_le (by have := World.block_lt_of_cell? _ _ hw306_1; first | rwa [add_block] at this | exact this) GW307.out)) | (dsimp only; exact Nat.ne_of_lt (Nat.lt_of_lt_of_le (by have := World.block_lt_of_cell? _ _ hw306_1; first | rwa [add_block] at this | exact this) GW307.out))) _).trans (((cell_far (p := ⟨gb307, _, none⟩) (by first | exact Nat.ne_of_lt (Nat.lt_of_lt_of_le (by have := World.block_lt_of_cell? _ _ hw306_1; first | rwa [add_block] at this | exact this) GW307.out) | (rw [add_block]; exact Nat.ne_of_lt (Nat.lt_of_lt_of_le (by have := World.block_lt_of_cell? _ _ hw306_1; first | rwa [add_block] at this | exact this) GW307.out)) | (show (Addr.add _ _).block ≠ _; rw [add_block]; exact Nat.ne_of_lt (Nat.lt_of_lt_of_le (by have := World.block_lt_of_cell? _ _ hw306_1; first | rwa [add_block] at this | exact this) GW307.out)) | (dsimp only; exact Nat.ne_of_lt (Nat.lt_of_lt_of_le (by have := World.block_lt_of_cell? _ _ hw306_1; first | rwa [add_block] at this | exact this) GW307.out))) _).trans (((cell_far (p := ⟨gb307, _, none⟩) (by first | exact Nat.ne_of_lt (Nat.lt_of_lt_of_le (by have := World.block_lt_of_cell? _ _ hw306_1; first | rwa [add_block] at this | exact this) GW307.out) | (rw [add_block]; exact Nat.ne_of_lt (Nat.lt_of_lt_of_le (by have := World.block_lt_of_cell? _ _ hw306_1; first | rwa [add_block] at this | exact this) GW307.out)) | (show (Addr.add _ _).block ≠ _; rw [add_block]; exact Nat.ne_of_lt (Nat.lt_of_lt_of_le (by have := World.block_lt_of_cell? _ _ hw306_1; first | rwa [add_block] at this | exact this) GW307.out)) | (dsimp only; exact Nat.ne_of_lt (Nat.lt_of_lt_of_le (by have := World.block_lt_of_cell? _ _ hw306_1; first | rwa [add_block] at this | exact this) GW307.out))) _).trans (((cell_far (p := ⟨gb307, _, none⟩) (by first | exact Nat.ne_of_lt (Nat.lt_of_lt_of_le (by have := World.block_lt_of_cell? _ _ hw306_1; first | rwa [add_block] at this | exact this) GW307.out) | (rw [add_block]; exact Nat.ne_of_lt (Nat.lt_of_lt_of_le (by have := World.block_lt_of_cell? _ _ hw306_1; first | rwa [add_block] at this | exact this) GW307.out)) | (show (Addr.add _ _).block ≠ _; rw [add_block]; exact Nat.ne_of_lt (Nat.lt_of_lt_of_le (by have := World.block_lt_of_cell? _ _ hw306_1; first | rwa [add_block] at this | exact this) GW307.out)) | (dsimp only; exact Nat.ne_of_lt (Nat.lt_of_lt_of_le (by have := World.block_lt_of_cell? _ _ hw306_1; first | rwa [add_block] at this | exact this) GW307.out))) _).trans (hHeld.2.2.2.1)))))))), ((cell_far (p := ⟨gb307, _, none⟩) (by first | exact Nat.ne_of_lt (Nat.lt_of_lt_of_le (by have := World.block_lt_of_cell? _ _ hw306_2; first | rwa [add_block] at this | exact this) GW307.out) | (rw [add_block]; exact Nat.ne_of_lt (Nat.lt_of_lt_of_le (by have := World.block_lt_of_cell? _ _ hw306_2; first | rwa [add_block] at this | exact this) GW307.out)) | (show (Addr.add _ _).block ≠ _; rw [add_block]; exact Nat.ne_of_lt (Nat.lt_of_lt_of_le (by have := World.block_lt_of_cell? _ _ hw306_2; first | rwa [add_block] at this | exact this) GW307.out)) | (dsimp only; exact Nat.ne_of_lt (Nat.lt_of_lt_of_le (by have := World.block_lt_of_cell? _ _ hw306_2; first | rwa [add_block] at this | exact this) GW307.out))) _).trans (((cell_far (p := ⟨gb307, _, none⟩) (by first | exact Nat.ne_of_lt (Nat.lt_of_lt_of_le (by have := World.block_lt_of_cell? _ _ hw306_2; first | rwa [add_block] at this | exact this) GW307.out) | (rw [add_block]; exact Nat.ne_of_lt (Nat.lt_of_lt_of_le (by have := World.block_lt_of_cell? _ _ hw306_2; first | rwa [add_block] at this | exact this) GW307.out)) | (show (Addr.add _ _).block ≠ _; rw [add_block]; exact Nat.ne_of_lt (Nat.lt_of_lt_of_le (by have := World.block_lt_of_cell? _ _ hw306_2; first | rwa [add_block] at this | exact this) GW307.out)) | (dsimp only; exact Nat.ne_of_lt (Nat.lt_of_lt_of_le (by have := World.block_lt_of_cell? _ _ hw306_2; first | rwa [add_block] at this | exact this) GW307.out))) _).trans (((cell_far (p := ⟨gb307, _, none⟩) (by first | exact Nat.ne_of_lt (Nat.lt_of_lt_of_le (by have := World.block_lt_of_cell? _ _ hw306_2; first | rwa [add_block] at this | exact this) GW307.out) | (rw [add_block]; exact Nat.ne_of_lt (Nat.lt_of_lt_of_le (by have := World.block_lt_of_cell? _ _ hw306_2; first | rwa [add_block] at this | exact this) GW307.out)) | (show (Addr.add _ _).block ≠ _; rw [add_block]; exact Nat.ne_of_lt (Nat.lt_of_lt_of_le (by have := World.block_lt_of_cell? _ _ hw306_2; first | rwa [add_block] at this | exact this) GW307.out)) | (dsimp only; exact Nat.ne_of_lt (Nat.lt_of_lt_of_le (by have := World.block_lt_of_cell? _ _ hw306_2; first | rwa [add_block] at this | exact this) GW307.out))) _).trans (((cell_far (p := ⟨gb307, _, none⟩) (by first | exact Nat.ne_of_lt (Nat.lt_of_lt_of_le (by have := World.block_lt_of_cell? _ _ hw306_2; first | rwa [add_block] at this | exact this) GW307.out) | (rw [add_block]; exact Nat.ne_of_lt (Nat.lt_of_lt_of_le (by have := World.block_lt_of_cell? _ _ hw306_2; first | rwa [add_block] at this | exact this) GW307.out)) | (show (Addr.add _ _).block ≠ _; rw [add_block]; exact Nat.ne_of_lt (Nat.lt_of_lt_of_le (by have := World.block_lt_of_cell? _ _ hw306_2; first | rwa [add_block] at this | exact this) GW307.out)) | (dsimp only; exact Nat.ne_of_lt (Nat.lt_of_lt_of_le (by have := World.block_lt_of_cell? _ _ hw306_2; first | rwa [add_block] at this | exact this) GW307.out))) _).trans (hHeld.2.2.2.2.1)))))))), ((cell_far (p := ⟨gb307, _, none⟩) (by first | exact Nat.ne_of_lt (Nat.lt_of_lt_of_le (by have := World.block_lt_of_cell? _ _ hw306_3; first | rwa [add_block] at this | exact this) GW307.out) | (rw [add_block]; exact Nat.ne_of_lt (Nat.lt_of_lt_of_le (by have := World.block_lt_of_cell? _ _ hw306_3; first | rwa [add_block] at this | exact this) GW307.out)) | (show (Addr.add _ _).block ≠ _; rw [add_block]; exact Nat.ne_of_lt (Nat.lt_of_lt_of_le (by have := World.block_lt_of_cell? _ _ hw306_3; first | rwa [add_block] at this | exact this) GW307.out)) | (dsimp only; exact Nat.ne_of_lt (Nat.lt_of_lt_of_le (by have := World.block_lt_of_cell? _ _ hw306_3; first | rwa [add_block] at this | exact this) GW307.out))) _).trans (((cell_far (p := ⟨gb307, _, none⟩) (by first | exact Nat.ne_of_lt (Nat.lt_of_lt_of_le (by have := World.block_lt_of_cell? _ _ hw306_3; first | rwa [add_block] at this | exact this) GW307.out) | (rw [add_block]; exact Nat.ne_of_lt (Nat.lt_of_lt_of_le (by have := World.block_lt_of_cell? _ _ hw306_3; first | rwa [add_block] at this | exact this) GW307.out)) | (show (Addr.add _ _).block ≠ _; rw [add_block]; exact Nat.ne_of_lt (Nat.lt_of_lt_of_le (by have := World.block_lt_of_cell? _ _ hw306_3; first | rwa [add_block] at this | exact this) GW307.out)) | (dsimp only; exact Nat.ne_of_lt (Nat.lt_of_lt_of_le (by have := World.block_lt_of_cell? _ _ hw306_3; first | rwa [add_block] at this | exact this) GW307.out))) _).trans (((cell_far (p := ⟨gb307, _, none⟩) (by first | exact Nat.ne_of_lt (Nat.lt_of_lt_of_le (by have := World.block_lt_of_cell? _ _ hw306_3; first | rwa [add_block] at this | exact this) GW307.out) | (rw [add_block]; exact Nat.ne_of_lt (Nat.lt_of_lt_of_le (by have := World.block_lt_of_cell? _ _ hw306_3; first | rwa [add_block] at this | exact this) GW307.out)) | (show (Addr.add _ _).block ≠ _; rw [add_block]; exact Nat.ne_of_lt (Nat.lt_of_lt_of_le (by have := World.block_lt_of_cell? _ _ hw306_3; first | rwa [add_block] at this | exact this) GW307.out)) | (dsimp only; exact Nat.ne_of_lt (Nat.lt_of_lt_of_le (by have := World.block_lt_of_cell? _ _ hw306_3; first | rwa [add_block] at this | exact this) GW307.out))) _).trans (((cell_far (p := ⟨gb307, _, none⟩) (by first | exact Nat.ne_of_lt (Nat.lt_of_lt_of_le (by have := World.block_lt_of_cell? _ _ hw306_3; first | rwa [add_block] at this | exact this) GW307.out) | (rw [add_block]; exact Nat.ne_of_lt (Nat.lt_of_lt_of_le (by have := World.block_lt_of_cell? _ _ hw306_3; first | rwa [add_block] at this | exact this) GW307.out)) | (show (Addr.add _ _).block ≠ _; rw [add_block]; exact Nat.ne_of_lt (Nat.lt_of_lt_of_le (by have := World.block_lt_of_cell? _ _ hw306_3; first | rwa [add_block] at this | exact this) GW307.out)) | (dsimp only; exact Nat.ne_of_lt (Nat.lt_of_lt_of_le (by have := World.block_lt_of_cell? _ _ hw306_3; first | rwa [add_block] at this | exact this) GW307.out))) _).trans (hHeld.2.2.2.2.2))))))))⟩ (fun hHeld => ?_)
                                    clear hK K
                                    refine done_ (done_of HT_.out (by kernel_rfl)) ?_
                                    have hnb90 := NB307_297.out
                                    have hnc90 := NB297_307.out
                                    have hnb91 := NB307_300.out
                                    have hnc91 := NB300_307.out
                                    have hcz92_0 : w85.cell? ⟨gb307, 0, none⟩ = some (.int .u8 0) := (blk_cell BK307.out 0).trans rfl
                                    have hcz92_1 : w85.cell? ⟨gb307, 1, none⟩ = some (.int .i64 0) := (blk_cell BK307.out 1).trans rfl
                                    have hcz92_2 : w85.cell? ⟨gb307, 2, none⟩ = some (.int .i64 0) := (blk_cell BK307.out 2).trans rfl
                                    have hcz92_3 : w85.cell? ⟨gb307, 3, none⟩ = some (.int .i64 0) := (blk_cell BK307.out 3).trans rfl
                                    have hfz92_0 := blk_frozen BK307.out 0
                                    have hfz92_1 := blk_frozen BK307.out 1
                                    have hfz92_2 := blk_frozen BK307.out 2
                                    have hfz92_3 := blk_frozen BK307.out 3
                                    have hnb93 := NB300_297.out
                                    have hnc93 := NB297_300.out
                                    have hcz94_0 : w85.cell? ⟨gb300, 0, none⟩ = some (.int .u8 ((rd_T47 l0_0 x5_1).f0)) := (blk_cell BK300.out 0).trans rfl
                                    have hcz94_1 : w85.cell? ⟨gb300, 1, none⟩ = some (.int .i64 ((rd_T47 l0_0 x5_1).f1)) := (blk_cell BK300.out 1).trans rfl
                                    have hcz94_2 : w85.cell? ⟨gb300, 2, none⟩ = some (.int .i64 ((rd_T47 l0_0 x5_1).f2)) := (blk_cell BK300.out 2).trans rfl
                                    have hcz94_3 : w85.cell? ⟨gb300, 3, none⟩ = some (.int .i64 ((rd_T47 l0_0 x5_1).f3)) := (blk_cell BK300.out 3).trans rfl
                                    have hfz94_0 := blk_frozen BK300.out 0
                                    have hfz94_1 := blk_frozen BK300.out 1
                                    have hfz94_2 := blk_frozen BK300.out 2
                                    have hfz94_3 := blk_frozen BK300.out 3
                                    try go_wp2
                                    go_roundg k3
                                    case measure => have := HK1.out; have := HJ9.out; have := HK3.out; omega
                                    case rel => exact ⟨((rd_T47 l0_0 (rd t301 x10_3)).f2), (wrap64 (x10_3 + 1)), (by first | rfl | (simp; done) | (simp [*]; done)), (by first | rfl | (simp; done) | (simp [*]; done)), H', ⟨by have := HK1.out; have := HJ9.out; have := HK3.out; omega⟩, ⟨by (with_reducible repeat (first | apply Kd.R_alloc | apply Kd.R_drewN | apply Kd.R_drew)); exact Kd.R_mono (Kd.R_far (p := ⟨gb307, 3, none⟩) (Kd.R_far (p := ⟨gb307, 2, none⟩) (Kd.R_far (p := ⟨gb307, 1, none⟩) (Kd.R_far (p := ⟨gb307, 0, none⟩) (Kd.R_types HO_7.out BK307.out (by decide)) (fun _ hk => hk.2) (.int .u8 ((rd_T47 l0_0 (rd t301 x10_3)).f0))) (fun _ hk => hk.2) (.int .i64 ((rd_T47 l0_0 (rd t301 x10_3)).f1))) (fun _ hk => hk.2) (.int .i64 ((rd_T47 l0_0 (rd t301 x10_3)).f2))) (fun _ hk => hk.2) (.int .i64 ((rd_T47 l0_0 (rd t301 x10_3)).f3))) (fun _ hk => trivial)⟩, ⟨by (with_reducible repeat (first | refine blk_drewN ?_ _ | refine blk_drew ?_ | refine blk_alloc ?_ _)); refine blk_far ?_ NB297_307.out _; (with_reducible repeat (first | refine blk_drewN ?_ _ | refine blk_drew ?_ | refine blk_alloc ?_ _)); refine blk_far ?_ NB297_307.out _; (with_reducible repeat (first | refine blk_drewN ?_ _ | refine blk_drew ?_ | refine blk_alloc ?_ _)); refine blk_far ?_ NB297_307.out _; (with_reducible repeat (first | refine blk_drewN ?_ _ | refine blk_drew ?_ | refine blk_alloc ?_ _)); refine blk_far ?_ NB297_307.out _; (with_reducible repeat (first | refine blk_drewN ?_ _ | refine blk_drew ?_ | refine blk_alloc ?_ _)); exact BK297.out⟩, ⟨by (with_reducible repeat (first | refine blk_drewN ?_ _ | refine blk_drew ?_ | refine blk_alloc ?_ _)); refine blk_far ?_ NB300_307.out _; (with_reducible repeat (first | refine blk_drewN ?_ _ | refine blk_drew ?_ | refine blk_alloc ?_ _)); refine blk_far ?_ NB300_307.out _; (with_reducible repeat (first | refine blk_drewN ?_ _ | refine blk_drew ?_ | refine blk_alloc ?_ _)); refine blk_far ?_ NB300_307.out _; (with_reducible repeat (first | refine blk_drewN ?_ _ | refine blk_drew ?_ | refine blk_alloc ?_ _)); refine blk_far ?_ NB300_307.out _; (with_reducible repeat (first | refine blk_drewN ?_ _ | refine blk_drew ?_ | refine blk_alloc ?_ _)); exact BK300.out⟩, ⟨by repeat (first | (with_reducible first | exact HB.out | apply below_alloc | apply pw_below_drewN | apply below_drew1 | refine below_set ?_ GE297.out | refine below_set ?_ GE300.out | refine below_set ?_ GE307.out) | exact HB.out)⟩⟩
                            · rw [if_neg c32] at H
                              exact absurd H (by simp)
                          · rw [if_neg c31] at H
                            exact absurd H (by simp)
                        · rw [if_neg c30] at H
                          exact absurd H (by simp)
                      · rw [if_neg c29] at H
                        have c29b0 : decide (x10_3 < (t301.length : Int)) = false := decide_eq_false c29
                        clear c29
                        have H' := Aside0.mk H
                        clear H
                        obtain ⟨Ao95, co95, eo95⟩ := Kd.R_slice HO_7.out
                        subst eo95
                        go_wp2
                        go_roundg k3
                        case measure => have := HK1.out; have := HJ9.out; have := HK3.out; omega
                        case rel => exact ⟨(wrap64 (x5_1 + 1)), (by first | rfl | (simp; done) | (simp [*]; done)), H', ⟨by have := HK1.out; have := HJ9.out; have := HK3.out; omega⟩, ⟨by (with_reducible repeat (first | refine blk_drewN ?_ _ | refine blk_drew ?_ | refine blk_alloc ?_ _)); exact BK297.out⟩, ⟨by repeat (first | (with_reducible first | exact HB.out | apply below_alloc | apply pw_below_drewN | apply below_drew1 | refine below_set ?_ GE297.out | refine below_set ?_ GE300.out) | exact HB.out)⟩⟩
          · rw [if_neg c9] at H
            exact absurd H (by simp)
        · rw [if_neg c8] at H
          have c8b0 : decide (x5_1 < (l0_0.length : Int)) = false := decide_eq_false c8
          clear c8
          obtain rfl := Option.some.inj H
          have hcz96_0 : wr.cell? ⟨gb297, 0, none⟩ = some (.slice A0_0 l0_0.length c0_0) := (blk_cell BK297.out 0).trans rfl
          have hfz96_0 := blk_frozen BK297.out 0
          go_wp2
          go_ret
          exact ⟨by first | rfl | (simp [errW_none, errW_some] <;> rfl) | (simp [*, errW_none, errW_some] <;> rfl), by repeat (first | (with_reducible first | exact HB.out | apply below_alloc | apply pw_below_drewN | apply below_drew1 | refine below_set ?_ GE297.out) | exact HB.out)⟩
  · replace c4 := Bool.eq_false_iff.mpr c4
    subst c4
    have H1 : (some false) = some r := by rw [if_neg (show ¬ (false = true) by decide)] at H; exact H
    clear H
    have H := H1
    clear H1
    obtain rfl := Option.some.inj H
    go_enter Try.func42, Try.ntmps42
    go_wp2_with (first | ((with_reducible refine gate_dst (N := 2) rfl ?_); refine box_event ?hg (N := 2) ?hd (cs := #[.slice A0_0 l0_0.length c0_0]) (t := 25) ?hr ?_; (case hd => rfl); (case hg => rfl); (case hr => first | (go_simp; done) | (go_simp; rfl)); intro gb297 hg w97 hbox hb; have n0_ := Aside0.mk (below_step (by repeat (first | (with_reducible first | exact HB.out | apply below_alloc | apply pw_below_drewN | apply below_drew1) | exact HB.out)) hb); have n1_ := Aside0.mk (hbox); have n2_ := Aside0.mk ((by rw [hg]; exact (below_size (by repeat (first | (with_reducible first | exact HB.out | apply below_alloc | apply pw_below_drewN | apply below_drew1) | exact HB.out))) : w.heap.size ≤ gb297)); have n3_ := Aside0.mk ((by rw [hg]; exact (below_size (by repeat (first | (with_reducible first | exact HB.out | apply below_alloc | apply pw_below_drewN | apply below_drew1) | exact HB.out))) : w.heap.size ≤ gb297)); clear HB; have HB := n0_; have BK297 := n1_; have GW297 := n2_; have GE297 := n3_; clear n0_ n1_ n2_ n3_; clear hb hbox hg; have hcz98_0 : w97.cell? ⟨gb297, 0, none⟩ = some (.slice A0_0 l0_0.length c0_0) := (blk_cell BK297.out 0).trans rfl; have hfz98_0 := blk_frozen BK297.out 0) | ((with_reducible refine gate_callee (f := 59) rfl ?_); refine goesL_ (some 13) rfl rfl Try.func59 (by kernel_rfl) rfl #[.agg #[.slice A0_0 l0_0.length c0_0]] rfl (by (try simp only [List.map_toArray, List.map_cons, List.map_nil]); first | done | rfl | (simp only [List.length_drop, List.length_take]; rfl)) ?_; (with_reducible refine (monikerref4_Shaped.calls k _ _ l0_0 false _ ?side1 ?side2 A3.out).mono ?_); (case side1 => repeat (first | exact (Kd.C_below HR0_0.out HB.out) | (with_reducible refine Kd.C_alloc ?_ _) | (with_reducible refine Kd.C_drewN ?_ _) | (with_reducible refine Kd.C_drew ?_))); (case side2 => exact HC0_0.out); rintro e w99 ⟨rfl, hb⟩; refine ⟨_, rfl, ?_⟩; have n0_ := Aside0.mk (blk_below (g := gb297) (o := .cells #[.slice A0_0 l0_0.length c0_0] 25 (0, 0)) (by (with_reducible repeat (first | refine blk_drewN ?_ _ | refine blk_drew ?_ | refine blk_alloc ?_ _)); exact BK297.out) hb); have n1_ := Aside0.mk (below_step (by repeat (first | (with_reducible first | exact HB.out | apply below_alloc | apply pw_below_drewN | apply below_drew1 | refine below_set ?_ GE297.out) | exact HB.out)) hb); clear BK297; clear HB; have BK297 := n0_; have HB := n1_; clear n0_ n1_; (try clear hb); (try clear hb2); (try clear hk); (try clear hi)))
    go_ret
    exact ⟨by first | rfl | (simp [errW_none, errW_some] <;> rfl) | (simp [*, errW_none, errW_some] <;> rfl), by repeat (first | (with_reducible first | exact HB.out | apply below_alloc | apply pw_below_drewN | apply below_drew1 | refine below_set ?_ GE297.out) | exact HB.out)⟩

end Go.Proofs.Ytodldpdnhcafpaa.F

-- A text of this session's own program (wip/myprint.sh over a changed print tool): functions and their walks
namespace Go.Proofs.Ytodldpdnhcafpaa.F
open Go.RowKit Go.Proofs.YtodldpdnhcafpaaW.PrintWords Go.Proofs.YtodldpdnhcafpaaW.PrintLast Go.Proofs.YtodldpdnhcafpaaW.PrintMore
attribute [local go_sem] max2_int min2_int max_two min_two max_three min_three max_four min_four   -- for this text's walks alone
set_option linter.unusedVariables false
set_option linter.unusedSimpArgs false

/-! ### monikerplain_CopyTree: function 45 -/
def monikerplain_CopyTree.f (l0_0 : List (S47)) : Option ((List (S47))) := (some (([] : List (S47)) : List (S47))).bind fun y337 => (if y337.length + l0_0.length < 4398046511104 then (some (y337 ++ l0_0)) else (none))
set_option maxHeartbeats 8000000 in
set_option maxRecDepth 100000 in
theorem monikerplain_CopyTree.calls (A0_0 : Option Addr) (c0_0 : Nat) (l0_0 : List (S47)) (r : List (S47)) (w : World) (hr0_0 : Kd.C k47 w A0_0 l0_0.length l0_0) (hc0_0 : l0_0.length ≤ c0_0) (h : monikerplain_CopyTree.f l0_0 = some r) :
    Calls Try.prog 45 #[.agg #[.slice A0_0 l0_0.length c0_0]] w fun e w' => ∃ v0_ : Value, e = .returned (.agg #[v0_]) ∧ Kd.R k47 47 w' w.heap.size (fun _ => True) v0_ r ∧ Below w.heap.size w w' := by
  have hu25 := Try.underlying25
  have HR0_0 := Aside0.mk hr0_0
  have HC0_0 := Aside0.mk hc0_0
  clear hr0_0 hc0_0
  have HB := Aside0.mk (Below.refl w.heap.size w)
  have H : ((some (([] : List (S47)) : List (S47))).bind fun y337 => (if y337.length + l0_0.length < 4398046511104 then (some (y337 ++ l0_0)) else (none))) = some r := h
  clear h
  obtain ⟨y337, hy337⟩ : ∃ y_ : List (S47), y_ = (([] : List (S47))) := ⟨_, rfl⟩
  replace H : (if y337.length + l0_0.length < 4398046511104 then (some (y337 ++ l0_0)) else (none)) = some r := by first | (rw [hy337]; with_reducible exact H) | (have H2_ := (Option.bind_some _ _).symm.trans H; rw [hy337]; with_reducible exact H2_) | (have H2_ := (Option.bind_some _ _).symm.trans H; with_reducible exact H2_) | with_reducible exact H | (rw [hy337]; exact H) | exact H
  have Ny337 := Aside0.mk hy337
  clear hy337
  by_cases c2 : y337.length + l0_0.length < 4398046511104
  · rw [if_pos c2] at H
    have LMc2 := Aside0.mk c2
    clear c2
    obtain ⟨y340, hy340⟩ : ∃ y_ : List (S47), y_ = (y337 ++ l0_0) := ⟨_, rfl⟩
    replace H : (some y340) = some r := by first | (rw [hy340]; with_reducible exact H) | (have H2_ := (Option.bind_some _ _).symm.trans H; rw [hy340]; with_reducible exact H2_) | (have H2_ := (Option.bind_some _ _).symm.trans H; with_reducible exact H2_) | with_reducible exact H | (rw [hy340]; exact H) | exact H
    have Ny340 := Aside0.mk hy340
    clear hy340
    obtain rfl := Option.some.inj H
    go_enter Try.func45, Try.ntmps45
    go_wp2_with (first | ((with_reducible refine gate_dst (N := 1) rfl ?_); refine box_event ?hg (N := 1) ?hd (cs := #[.slice A0_0 l0_0.length c0_0]) (t := 25) ?hr ?_; (case hd => rfl); (case hg => rfl); (case hr => first | (go_simp; done) | (go_simp; rfl)); intro gb335 hg w3 hbox hb; have n0_ := Aside0.mk (below_step (by repeat (first | (with_reducible first | exact HB.out | apply below_alloc | apply pw_below_drewN | apply below_drew1) | exact HB.out)) hb); have n1_ := Aside0.mk (hbox); have n2_ := Aside0.mk ((by rw [hg]; exact (below_size (by repeat (first | (with_reducible first | exact HB.out | apply below_alloc | apply pw_below_drewN | apply below_drew1) | exact HB.out))) : w.heap.size ≤ gb335)); have n3_ := Aside0.mk ((by rw [hg]; exact (below_size (by repeat (first | (with_reducible first | exact HB.out | apply below_alloc | apply pw_below_drewN | apply below_drew1) | exact HB.out))) : w.heap.size ≤ gb335)); clear HB; have HB := n0_; have BK335 := n1_; have GW335 := n2_; have GE335 := n3_; clear n0_ n1_ n2_ n3_; clear hb hbox hg) | ((with_reducible refine gate_dst (N := 2) rfl ?_); refine box_event ?hg (N := 2) ?hd (cs := #[.slice none 0 0]) (t := 25) ?hr ?_; (case hd => rfl); (case hg => rfl); (case hr => first | (go_simp; done) | (go_simp; rfl)); intro gb336 hg w4 hbox hb; have n0_ := Aside0.mk (blk_below (g := gb335) (o := .cells #[.slice A0_0 l0_0.length c0_0] 25 (0, 0)) (by (with_reducible repeat (first | refine blk_drewN ?_ _ | refine blk_drew ?_ | refine blk_alloc ?_ _)); exact BK335.out) hb); have n1_ := Aside0.mk (below_step (by repeat (first | (with_reducible first | exact HB.out | apply below_alloc | apply pw_below_drewN | apply below_drew1 | refine below_set ?_ GE335.out) | exact HB.out)) hb); have n2_ := Aside0.mk (hbox); have n3_ := Aside0.mk ((by rw [hg]; exact (below_size (by repeat (first | (with_reducible first | exact HB.out | apply below_alloc | apply pw_below_drewN | apply below_drew1 | refine below_set ?_ GE335.out) | exact HB.out))) : w.heap.size ≤ gb336)); have n4_ := Aside0.mk ((by rw [hg]; exact (below_size (by repeat (first | (with_reducible first | exact HB.out | apply below_alloc | apply pw_below_drewN | apply below_drew1 | refine below_set ?_ GE335.out) | exact HB.out))) : w.heap.size ≤ gb336)); have n5_ := Aside0.mk ((by rw [hg]; exact Nat.ne_of_lt (blk_lt (g := gb335) (o := .cells #[.slice A0_0 l0_0.length c0_0] 25 (0, 0)) (by (with_reducible repeat (first | refine blk_drewN ?_ _ | refine blk_drew ?_ | refine blk_alloc ?_ _)); exact BK335.out)) : gb335 ≠ gb336)); have n6_ := Aside0.mk ((by rw [hg]; exact Nat.ne_of_gt (blk_lt (g := gb335) (o := .cells #[.slice A0_0 l0_0.length c0_0] 25 (0, 0)) (by (with_reducible repeat (first | refine blk_drewN ?_ _ | refine blk_drew ?_ | refine blk_alloc ?_ _)); exact BK335.out)) : gb336 ≠ gb335)); clear BK335; clear HB; have BK335 := n0_; have HB := n1_; have BK336 := n2_; have GW336 := n3_; have GE336 := n4_; have NB335_336 := n5_; have NB336_335 := n6_; clear n0_ n1_ n2_ n3_ n4_ n5_ n6_; clear hb hbox hg) | ((with_reducible refine gate_dst (N := 3) rfl ?_); refine Kd.R_lit k47 _ 47 ?hg (N := 3) ?hd (xs := ([] : List (S47))) (inner := []) (ok := fun _ => True) (okp := fun _ => True) ?hr ?hp (fun _ hk => hk) trivial (Below.refl _ _) (Nat.le_refl _) (by simp) ?_; (case hd => rfl); (case hg => rfl); (case hr => first | (go_simp; done) | (go_simp; rfl)); (case hp => exact (Reps.none _ _)); intro v338 w5 ho6 hb hg_ hnew_; clear hg_ hnew_; (first | rw [← Ny337.out] at ho6 | (simp only [Int.reduceToNat] at ho6; rw [← Ny337.out] at ho6)); have n0_ := Aside0.mk (Kd.R_lower ho6 (below_size (by repeat (first | (with_reducible first | exact HB.out | apply below_alloc | apply pw_below_drewN | apply below_drew1 | refine below_set ?_ GE335.out | refine below_set ?_ GE336.out) | exact HB.out)))); have n1_ := Aside0.mk (blk_below (g := gb335) (o := .cells #[.slice A0_0 l0_0.length c0_0] 25 (0, 0)) (by (with_reducible repeat (first | refine blk_drewN ?_ _ | refine blk_drew ?_ | refine blk_alloc ?_ _)); exact BK335.out) hb); have n2_ := Aside0.mk (blk_below (g := gb336) (o := .cells #[.slice none 0 0] 25 (0, 0)) (by (with_reducible repeat (first | refine blk_drewN ?_ _ | refine blk_drew ?_ | refine blk_alloc ?_ _)); exact BK336.out) hb); have n3_ := Aside0.mk (below_step (by repeat (first | (with_reducible first | exact HB.out | apply below_alloc | apply pw_below_drewN | apply below_drew1 | refine below_set ?_ GE335.out | refine below_set ?_ GE336.out) | exact HB.out)) hb); clear BK335; clear BK336; clear HB; have HO339 := n0_; have BK335 := n1_; have BK336 := n2_; have HB := n3_; clear n0_ n1_ n2_ n3_; clear hb ho6; have hnb7 := NB335_336.out; have hnc7 := NB336_335.out; have hcz8_0 : w5.cell? ⟨gb335, 0, none⟩ = some (.slice A0_0 l0_0.length c0_0) := (blk_cell BK335.out 0).trans rfl; have hfz8_0 := blk_frozen BK335.out 0) | ((with_reducible refine gate_builtin (b := .append) (xs := #[.tmp 3, .tmp 5]) rfl ?_); at_builtin; refine Kd.R_append_rows k47 (w0 := w) w.heap.size rfl (.tmp 3) (.tmp 5) 23 47 (.agg #[(.int .u8 0), (.int .i64 0), (.int .i64 0), (.int .i64 0)]) 32 rfl Try.underlying23 info47 rfl (by decide) (by omega) v338 y337 l0_0 _ _ _ (fun _ => True) (fun _ => False) rfl rfl ?aO ?aR (fun _ _ h => h) (fun _ h => h.elim) ?aF ?aB ?aS ?aL ?_; (case aR => repeat (first | exact (Kd.C_below HR0_0.out HB.out) | (with_reducible refine Kd.C_alloc ?_ _) | (with_reducible refine Kd.C_drewN ?_ _) | (with_reducible refine Kd.C_drew ?_))); (case aB => exact (by repeat (first | (with_reducible first | exact HB.out | apply below_alloc | apply pw_below_drewN | apply below_drew1 | refine below_set ?_ GE335.out | refine below_set ?_ GE336.out) | exact HB.out))); (case aF => exact (fun _ _ => trivial)); (case aO => exact (by (with_reducible repeat (first | apply Kd.R_alloc | apply Kd.R_drewN | apply Kd.R_drew)); exact HO339.out)); (case aS => exact (below_size (by repeat (first | (with_reducible first | exact HB.out | apply below_alloc | apply pw_below_drewN | apply below_drew1 | refine below_set ?_ GE335.out | refine below_set ?_ GE336.out) | exact HB.out)))); (case aL => have := LMc2.out; omega); intro v341 w9 ho hb hg hat; rw [← Ny340.out] at ho; have n0_ := Aside0.mk (blk_grown (g := gb335) (o := .cells #[.slice A0_0 l0_0.length c0_0] 25 (0, 0)) (by (with_reducible repeat (first | refine blk_drewN ?_ _ | refine blk_drew ?_ | refine blk_alloc ?_ _)); exact BK335.out) hg (Kd.R_ne HO339.out BK335.out (by decide))); have n1_ := Aside0.mk (blk_grown (g := gb336) (o := .cells #[.slice none 0 0] 25 (0, 0)) (by (with_reducible repeat (first | refine blk_drewN ?_ _ | refine blk_drew ?_ | refine blk_alloc ?_ _)); exact BK336.out) hg (Kd.R_ne HO339.out BK336.out (by decide))); have n2_ := Aside0.mk (hb); have n3_ := Aside0.mk (ho); clear BK335; clear BK336; clear HB; clear HO339; have BK335 := n0_; have BK336 := n1_; have HB := n2_; have HO342 := n3_; clear n0_ n1_ n2_ n3_; clear ho hb hg hat; obtain ⟨Ao10, co10, eo10⟩ := Kd.R_slice HO342.out; subst eo10; have hcz11_0 : w9.cell? ⟨gb336, 0, none⟩ = some (.slice none 0 0) := (blk_cell BK336.out 0).trans rfl; have hfz11_0 := blk_frozen BK336.out 0))
    refine bodyPost_ret (results_cell_row rfl _ _ gb336 25 #[.slice Ao10 y340.length co10] (0, 0) _ rfl (by (with_reducible repeat (first | refine blk_drewN ?_ _ | refine blk_drew ?_ | refine blk_alloc ?_ _)); refine blk_put (cs := #[.slice none 0 0]) ?_ 0 _ rfl; (with_reducible repeat (first | refine blk_drewN ?_ _ | refine blk_drew ?_ | refine blk_alloc ?_ _)); exact BK336.out) Try.underlying25 rfl (by kernel_rfl)) rfl ?_
    exact ⟨_, by first | rfl | (simp [errW_none, errW_some] <;> rfl) | (simp [*, errW_none, errW_some] <;> rfl), by (with_reducible repeat (first | apply Kd.R_alloc | apply Kd.R_drewN | apply Kd.R_drew)); exact Kd.R_mono (Kd.R_far (p := ⟨gb336, 0, none⟩) (Kd.R_types HO342.out BK336.out (by decide)) (fun _ hk => hk.2) (.slice Ao10 y340.length co10)) (fun _ hk => trivial), by repeat (first | (with_reducible first | exact HB.out | apply below_alloc | apply pw_below_drewN | apply below_drew1 | refine below_set ?_ GE335.out | refine below_set ?_ GE336.out) | exact HB.out)⟩
  · rw [if_neg c2] at H
    exact absurd H (by simp)

end Go.Proofs.Ytodldpdnhcafpaa.F

-- A text of this session's own program (wip/myprint.sh over a changed print tool): functions and their walks
namespace Go.Proofs.Ytodldpdnhcafpaa.F
open Go.RowKit Go.Proofs.YtodldpdnhcafpaaW.PrintWords Go.Proofs.YtodldpdnhcafpaaW.PrintLast Go.Proofs.YtodldpdnhcafpaaW.PrintMore
attribute [local go_sem] max2_int min2_int max_two min_two max_three min_three max_four min_four   -- for this text's walks alone
set_option linter.unusedVariables false
set_option linter.unusedSimpArgs false

/-! ### tree_sized: function 51 -/
def tree_sized.f (l0_0 : List (S47)) (a1 : Int) : Option (Bool) := if a1 ≥ 0 then (if a1 < (l0_0.length : Int) then (if 0 ≤ a1 then (if ((rd_T47 l0_0 a1).f3) ≥ 1 then (some (decide (((rd_T47 l0_0 a1).f3) ≤ (wrap64 ((l0_0.length : Int) - a1))))) else (some false)) else (none)) else (some false)) else (some false)
set_option maxHeartbeats 8000000 in
set_option maxRecDepth 100000 in
theorem tree_sized.calls (A0_0 : Option Addr) (c0_0 : Nat) (l0_0 : List (S47)) (a1 : Int) (r : Bool) (w : World) (hr0_0 : Kd.C k47 w A0_0 l0_0.length l0_0) (hc0_0 : l0_0.length ≤ c0_0) (h : tree_sized.f l0_0 a1 = some r) :
    Calls Try.prog 51 #[.agg #[.slice A0_0 l0_0.length c0_0], .int .i64 a1] w fun e w' => e = .returned (.bool r) ∧ Below w.heap.size w w' := by
  have hu25 := Try.underlying25
  have HR0_0 := Aside0.mk hr0_0
  have HC0_0 := Aside0.mk hc0_0
  clear hr0_0 hc0_0
  have HB := Aside0.mk (Below.refl w.heap.size w)
  have H : (if a1 ≥ 0 then (if a1 < (l0_0.length : Int) then (if 0 ≤ a1 then (if ((rd_T47 l0_0 a1).f3) ≥ 1 then (some (decide (((rd_T47 l0_0 a1).f3) ≤ (wrap64 ((l0_0.length : Int) - a1))))) else (some false)) else (none)) else (some false)) else (some false)) = some r := h
  clear h
  by_cases c3 : a1 ≥ 0
  · rw [if_pos c3] at H
    have c3b0 : decide (0 ≤ a1) = true := decide_eq_true c3
    clear c3
    by_cases c4 : a1 < (l0_0.length : Int)
    · rw [if_pos c4] at H
      have c4b0 : decide (a1 < (l0_0.length : Int)) = true := decide_eq_true c4
      clear c4
      by_cases c5 : 0 ≤ a1
      · rw [if_pos c5] at H
        have c5b0 : decide (0 ≤ a1) = true := decide_eq_true c5
        clear c5
        by_cases c6 : ((rd_T47 l0_0 a1).f3) ≥ 1
        · rw [if_pos c6] at H
          have c6b0 : decide (1 ≤ ((rd_T47 l0_0 a1).f3)) = true := decide_eq_true c6
          clear c6
          obtain rfl := Option.some.inj H
          go_enter Try.func51, Try.ntmps51
          go_wp2_with (first | ((with_reducible refine gate_dst (N := 2) rfl ?_); (try (refine gate_guard (by rfl) ?_; dsimp only)); refine box_event ?hg (N := 2) ?hd (cs := #[.slice A0_0 l0_0.length c0_0]) (t := 25) ?hr ?_; (case hd => rfl); (case hg => rfl); (case hr => first | (go_simp; done) | (go_simp; rfl)); intro gb219 hg w7 hbox hb; have n0_ := Aside0.mk (below_step (by repeat (first | (with_reducible first | exact HB.out | apply below_alloc | apply pw_below_drewN | apply below_drew1) | exact HB.out)) hb); have n1_ := Aside0.mk (hbox); have n2_ := Aside0.mk ((by rw [hg]; exact (below_size (by repeat (first | (with_reducible first | exact HB.out | apply below_alloc | apply pw_below_drewN | apply below_drew1) | exact HB.out))) : w.heap.size ≤ gb219)); have n3_ := Aside0.mk ((by rw [hg]; exact (below_size (by repeat (first | (with_reducible first | exact HB.out | apply below_alloc | apply pw_below_drewN | apply below_drew1) | exact HB.out))) : w.heap.size ≤ gb219)); clear HB; have HB := n0_; have BK219 := n1_; have GW219 := n2_; have GE219 := n3_; clear n0_ n1_ n2_ n3_; clear hb hbox hg; have hcz8_0 : w7.cell? ⟨gb219, 0, none⟩ = some (.slice A0_0 l0_0.length c0_0) := (blk_cell BK219.out 0).trans rfl; have hfz8_0 := blk_frozen BK219.out 0; have p220 : 0 ≤ (a1 : Int) := of_decide_eq_true (by first | (with_reducible assumption) | assumption); have q220 : a1 < (l0_0.length : Int) := of_decide_eq_true (by first | (with_reducible assumption) | assumption); obtain ⟨ad220, e220, hx220_0, hx220_1, hx220_2, hx220_3⟩ := at_T47 HR0_0.out a1 p220 q220; cases e220; replace hx220_0 := (HB.out.cell (World.block_lt_of_cell? w _ hx220_0)).trans hx220_0; replace hx220_1 := (HB.out.cell (World.block_lt_of_cell? w _ hx220_1)).trans hx220_1; replace hx220_2 := (HB.out.cell (World.block_lt_of_cell? w _ hx220_2)).trans hx220_2; replace hx220_3 := (HB.out.cell (World.block_lt_of_cell? w _ hx220_3)).trans hx220_3; replace p220 := eq_true p220; replace q220 := eq_true q220; have p221 : 0 ≤ (a1 : Int) := of_decide_eq_true (by first | (with_reducible assumption) | assumption); have q221 : a1 < (l0_0.length : Int) := of_decide_eq_true (by first | (with_reducible assumption) | assumption); obtain ⟨ad221, e221, hx221_0, hx221_1, hx221_2, hx221_3⟩ := at_T47 HR0_0.out a1 p221 q221; obtain rfl : ad220 = ad221 := (by injection e221); replace hx221_0 := (HB.out.cell (World.block_lt_of_cell? w _ hx221_0)).trans hx221_0; replace hx221_1 := (HB.out.cell (World.block_lt_of_cell? w _ hx221_1)).trans hx221_1; replace hx221_2 := (HB.out.cell (World.block_lt_of_cell? w _ hx221_2)).trans hx221_2; replace hx221_3 := (HB.out.cell (World.block_lt_of_cell? w _ hx221_3)).trans hx221_3; replace p221 := eq_true p221; replace q221 := eq_true q221))
          repeat (go_quiet (first | ((with_reducible refine gate_dst (N := 2) rfl ?_); (try (refine gate_guard (by rfl) ?_; dsimp only)); refine box_event ?hg (N := 2) ?hd (cs := #[.slice A0_0 l0_0.length c0_0]) (t := 25) ?hr ?_; (case hd => rfl); (case hg => rfl); (case hr => first | (go_simp; done) | (go_simp; rfl)); intro gb219 hg w7 hbox hb; have n0_ := Aside0.mk (below_step (by repeat (first | (with_reducible first | exact HB.out | apply below_alloc | apply pw_below_drewN | apply below_drew1) | exact HB.out)) hb); have n1_ := Aside0.mk (hbox); have n2_ := Aside0.mk ((by rw [hg]; exact (below_size (by repeat (first | (with_reducible first | exact HB.out | apply below_alloc | apply pw_below_drewN | apply below_drew1) | exact HB.out))) : w.heap.size ≤ gb219)); have n3_ := Aside0.mk ((by rw [hg]; exact (below_size (by repeat (first | (with_reducible first | exact HB.out | apply below_alloc | apply pw_below_drewN | apply below_drew1) | exact HB.out))) : w.heap.size ≤ gb219)); clear HB; have HB := n0_; have BK219 := n1_; have GW219 := n2_; have GE219 := n3_; clear n0_ n1_ n2_ n3_; clear hb hbox hg; have hcz8_0 : w7.cell? ⟨gb219, 0, none⟩ = some (.slice A0_0 l0_0.length c0_0) := (blk_cell BK219.out 0).trans rfl; have hfz8_0 := blk_frozen BK219.out 0; have p220 : 0 ≤ (a1 : Int) := of_decide_eq_true (by first | (with_reducible assumption) | assumption); have q220 : a1 < (l0_0.length : Int) := of_decide_eq_true (by first | (with_reducible assumption) | assumption); obtain ⟨ad220, e220, hx220_0, hx220_1, hx220_2, hx220_3⟩ := at_T47 HR0_0.out a1 p220 q220; cases e220; replace hx220_0 := (HB.out.cell (World.block_lt_of_cell? w _ hx220_0)).trans hx220_0; replace hx220_1 := (HB.out.cell (World.block_lt_of_cell? w _ hx220_1)).trans hx220_1; replace hx220_2 := (HB.out.cell (World.block_lt_of_cell? w _ hx220_2)).trans hx220_2; replace hx220_3 := (HB.out.cell (World.block_lt_of_cell? w _ hx220_3)).trans hx220_3; replace p220 := eq_true p220; replace q220 := eq_true q220; have p221 : 0 ≤ (a1 : Int) := of_decide_eq_true (by first | (with_reducible assumption) | assumption); have q221 : a1 < (l0_0.length : Int) := of_decide_eq_true (by first | (with_reducible assumption) | assumption); obtain ⟨ad221, e221, hx221_0, hx221_1, hx221_2, hx221_3⟩ := at_T47 HR0_0.out a1 p221 q221; obtain rfl : ad220 = ad221 := (by injection e221); replace hx221_0 := (HB.out.cell (World.block_lt_of_cell? w _ hx221_0)).trans hx221_0; replace hx221_1 := (HB.out.cell (World.block_lt_of_cell? w _ hx221_1)).trans hx221_1; replace hx221_2 := (HB.out.cell (World.block_lt_of_cell? w _ hx221_2)).trans hx221_2; replace hx221_3 := (HB.out.cell (World.block_lt_of_cell? w _ hx221_3)).trans hx221_3; replace p221 := eq_true p221; replace q221 := eq_true q221)); try go_wp2_with (first | ((with_reducible refine gate_dst (N := 2) rfl ?_); (try (refine gate_guard (by rfl) ?_; dsimp only)); refine box_event ?hg (N := 2) ?hd (cs := #[.slice A0_0 l0_0.length c0_0]) (t := 25) ?hr ?_; (case hd => rfl); (case hg => rfl); (case hr => first | (go_simp; done) | (go_simp; rfl)); intro gb219 hg w7 hbox hb; have n0_ := Aside0.mk (below_step (by repeat (first | (with_reducible first | exact HB.out | apply below_alloc | apply pw_below_drewN | apply below_drew1) | exact HB.out)) hb); have n1_ := Aside0.mk (hbox); have n2_ := Aside0.mk ((by rw [hg]; exact (below_size (by repeat (first | (with_reducible first | exact HB.out | apply below_alloc | apply pw_below_drewN | apply below_drew1) | exact HB.out))) : w.heap.size ≤ gb219)); have n3_ := Aside0.mk ((by rw [hg]; exact (below_size (by repeat (first | (with_reducible first | exact HB.out | apply below_alloc | apply pw_below_drewN | apply below_drew1) | exact HB.out))) : w.heap.size ≤ gb219)); clear HB; have HB := n0_; have BK219 := n1_; have GW219 := n2_; have GE219 := n3_; clear n0_ n1_ n2_ n3_; clear hb hbox hg; have hcz8_0 : w7.cell? ⟨gb219, 0, none⟩ = some (.slice A0_0 l0_0.length c0_0) := (blk_cell BK219.out 0).trans rfl; have hfz8_0 := blk_frozen BK219.out 0; have p220 : 0 ≤ (a1 : Int) := of_decide_eq_true (by first | (with_reducible assumption) | assumption); have q220 : a1 < (l0_0.length : Int) := of_decide_eq_true (by first | (with_reducible assumption) | assumption); obtain ⟨ad220, e220, hx220_0, hx220_1, hx220_2, hx220_3⟩ := at_T47 HR0_0.out a1 p220 q220; cases e220; replace hx220_0 := (HB.out.cell (World.block_lt_of_cell? w _ hx220_0)).trans hx220_0; replace hx220_1 := (HB.out.cell (World.block_lt_of_cell? w _ hx220_1)).trans hx220_1; replace hx220_2 := (HB.out.cell (World.block_lt_of_cell? w _ hx220_2)).trans hx220_2; replace hx220_3 := (HB.out.cell (World.block_lt_of_cell? w _ hx220_3)).trans hx220_3; replace p220 := eq_true p220; replace q220 := eq_true q220; have p221 : 0 ≤ (a1 : Int) := of_decide_eq_true (by first | (with_reducible assumption) | assumption); have q221 : a1 < (l0_0.length : Int) := of_decide_eq_true (by first | (with_reducible assumption) | assumption); obtain ⟨ad221, e221, hx221_0, hx221_1, hx221_2, hx221_3⟩ := at_T47 HR0_0.out a1 p221 q221; obtain rfl : ad220 = ad221 := (by injection e221); replace hx221_0 := (HB.out.cell (World.block_lt_of_cell? w _ hx221_0)).trans hx221_0; replace hx221_1 := (HB.out.cell (World.block_lt_of_cell? w _ hx221_1)).trans hx221_1; replace hx221_2 := (HB.out.cell (World.block_lt_of_cell? w _ hx221_2)).trans hx221_2; replace hx221_3 := (HB.out.cell (World.block_lt_of_cell? w _ hx221_3)).trans hx221_3; replace p221 := eq_true p221; replace q221 := eq_true q221)))
          go_ret
          exact ⟨by first | rfl | (simp [errW_none, errW_some] <;> rfl) | (simp [*, errW_none, errW_some] <;> rfl), by repeat (first | (with_reducible first | exact HB.out | apply below_alloc | apply pw_below_drewN | apply below_drew1 | refine below_set ?_ GE219.out) | exact HB.out)⟩
        · rw [if_neg c6] at H
          have c6b0 : decide (1 ≤ ((rd_T47 l0_0 a1).f3)) = false := decide_eq_false c6
          clear c6
          obtain rfl := Option.some.inj H
          go_enter Try.func51, Try.ntmps51
          go_wp2_with (first | ((with_reducible refine gate_dst (N := 2) rfl ?_); (try (refine gate_guard (by rfl) ?_; dsimp only)); refine box_event ?hg (N := 2) ?hd (cs := #[.slice A0_0 l0_0.length c0_0]) (t := 25) ?hr ?_; (case hd => rfl); (case hg => rfl); (case hr => first | (go_simp; done) | (go_simp; rfl)); intro gb219 hg w9 hbox hb; have n0_ := Aside0.mk (below_step (by repeat (first | (with_reducible first | exact HB.out | apply below_alloc | apply pw_below_drewN | apply below_drew1) | exact HB.out)) hb); have n1_ := Aside0.mk (hbox); have n2_ := Aside0.mk ((by rw [hg]; exact (below_size (by repeat (first | (with_reducible first | exact HB.out | apply below_alloc | apply pw_below_drewN | apply below_drew1) | exact HB.out))) : w.heap.size ≤ gb219)); have n3_ := Aside0.mk ((by rw [hg]; exact (below_size (by repeat (first | (with_reducible first | exact HB.out | apply below_alloc | apply pw_below_drewN | apply below_drew1) | exact HB.out))) : w.heap.size ≤ gb219)); clear HB; have HB := n0_; have BK219 := n1_; have GW219 := n2_; have GE219 := n3_; clear n0_ n1_ n2_ n3_; clear hb hbox hg; have hcz10_0 : w9.cell? ⟨gb219, 0, none⟩ = some (.slice A0_0 l0_0.length c0_0) := (blk_cell BK219.out 0).trans rfl; have hfz10_0 := blk_frozen BK219.out 0; have p220 : 0 ≤ (a1 : Int) := of_decide_eq_true (by first | (with_reducible assumption) | assumption); have q220 : a1 < (l0_0.length : Int) := of_decide_eq_true (by first | (with_reducible assumption) | assumption); obtain ⟨ad220, e220, hx220_0, hx220_1, hx220_2, hx220_3⟩ := at_T47 HR0_0.out a1 p220 q220; cases e220; replace hx220_0 := (HB.out.cell (World.block_lt_of_cell? w _ hx220_0)).trans hx220_0; replace hx220_1 := (HB.out.cell (World.block_lt_of_cell? w _ hx220_1)).trans hx220_1; replace hx220_2 := (HB.out.cell (World.block_lt_of_cell? w _ hx220_2)).trans hx220_2; replace hx220_3 := (HB.out.cell (World.block_lt_of_cell? w _ hx220_3)).trans hx220_3; replace p220 := eq_true p220; replace q220 := eq_true q220))
          repeat (go_quiet (first | ((with_reducible refine gate_dst (N := 2) rfl ?_); (try (refine gate_guard (by rfl) ?_; dsimp only)); refine box_event ?hg (N := 2) ?hd (cs := #[.slice A0_0 l0_0.length c0_0]) (t := 25) ?hr ?_; (case hd => rfl); (case hg => rfl); (case hr => first | (go_simp; done) | (go_simp; rfl)); intro gb219 hg w9 hbox hb; have n0_ := Aside0.mk (below_step (by repeat (first | (with_reducible first | exact HB.out | apply below_alloc | apply pw_below_drewN | apply below_drew1) | exact HB.out)) hb); have n1_ := Aside0.mk (hbox); have n2_ := Aside0.mk ((by rw [hg]; exact (below_size (by repeat (first | (with_reducible first | exact HB.out | apply below_alloc | apply pw_below_drewN | apply below_drew1) | exact HB.out))) : w.heap.size ≤ gb219)); have n3_ := Aside0.mk ((by rw [hg]; exact (below_size (by repeat (first | (with_reducible first | exact HB.out | apply below_alloc | apply pw_below_drewN | apply below_drew1) | exact HB.out))) : w.heap.size ≤ gb219)); clear HB; have HB := n0_; have BK219 := n1_; have GW219 := n2_; have GE219 := n3_; clear n0_ n1_ n2_ n3_; clear hb hbox hg; have hcz10_0 : w9.cell? ⟨gb219, 0, none⟩ = some (.slice A0_0 l0_0.length c0_0) := (blk_cell BK219.out 0).trans rfl; have hfz10_0 := blk_frozen BK219.out 0; have p220 : 0 ≤ (a1 : Int) := of_decide_eq_true (by first | (with_reducible assumption) | assumption); have q220 : a1 < (l0_0.length : Int) := of_decide_eq_true (by first | (with_reducible assumption) | assumption); obtain ⟨ad220, e220, hx220_0, hx220_1, hx220_2, hx220_3⟩ := at_T47 HR0_0.out a1 p220 q220; cases e220; replace hx220_0 := (HB.out.cell (World.block_lt_of_cell? w _ hx220_0)).trans hx220_0; replace hx220_1 := (HB.out.cell (World.block_lt_of_cell? w _ hx220_1)).trans hx220_1; replace hx220_2 := (HB.out.cell (World.block_lt_of_cell? w _ hx220_2)).trans hx220_2; replace hx220_3 := (HB.out.cell (World.block_lt_of_cell? w _ hx220_3)).trans hx220_3; replace p220 := eq_true p220; replace q220 := eq_true q220)); try go_wp2_with (first | ((with_reducible refine gate_dst (N := 2) rfl ?_); (try (refine gate_guard (by rfl) ?_; dsimp only)); refine box_event ?hg (N := 2) ?hd (cs := #[.slice A0_0 l0_0.length c0_0]) (t := 25) ?hr ?_; (case hd => rfl); (case hg => rfl); (case hr => first | (go_simp; done) | (go_simp; rfl)); intro gb219 hg w9 hbox hb; have n0_ := Aside0.mk (below_step (by repeat (first | (with_reducible first | exact HB.out | apply below_alloc | apply pw_below_drewN | apply below_drew1) | exact HB.out)) hb); have n1_ := Aside0.mk (hbox); have n2_ := Aside0.mk ((by rw [hg]; exact (below_size (by repeat (first | (with_reducible first | exact HB.out | apply below_alloc | apply pw_below_drewN | apply below_drew1) | exact HB.out))) : w.heap.size ≤ gb219)); have n3_ := Aside0.mk ((by rw [hg]; exact (below_size (by repeat (first | (with_reducible first | exact HB.out | apply below_alloc | apply pw_below_drewN | apply below_drew1) | exact HB.out))) : w.heap.size ≤ gb219)); clear HB; have HB := n0_; have BK219 := n1_; have GW219 := n2_; have GE219 := n3_; clear n0_ n1_ n2_ n3_; clear hb hbox hg; have hcz10_0 : w9.cell? ⟨gb219, 0, none⟩ = some (.slice A0_0 l0_0.length c0_0) := (blk_cell BK219.out 0).trans rfl; have hfz10_0 := blk_frozen BK219.out 0; have p220 : 0 ≤ (a1 : Int) := of_decide_eq_true (by first | (with_reducible assumption) | assumption); have q220 : a1 < (l0_0.length : Int) := of_decide_eq_true (by first | (with_reducible assumption) | assumption); obtain ⟨ad220, e220, hx220_0, hx220_1, hx220_2, hx220_3⟩ := at_T47 HR0_0.out a1 p220 q220; cases e220; replace hx220_0 := (HB.out.cell (World.block_lt_of_cell? w _ hx220_0)).trans hx220_0; replace hx220_1 := (HB.out.cell (World.block_lt_of_cell? w _ hx220_1)).trans hx220_1; replace hx220_2 := (HB.out.cell (World.block_lt_of_cell? w _ hx220_2)).trans hx220_2; replace hx220_3 := (HB.out.cell (World.block_lt_of_cell? w _ hx220_3)).trans hx220_3; replace p220 := eq_true p220; replace q220 := eq_true q220)))
          go_ret
          exact ⟨by first | rfl | (simp [errW_none, errW_some] <;> rfl) | (simp [*, errW_none, errW_some] <;> rfl), by repeat (first | (with_reducible first | exact HB.out | apply below_alloc | apply pw_below_drewN | apply below_drew1 | refine below_set ?_ GE219.out) | exact HB.out)⟩
      · rw [if_neg c5] at H
        exact absurd H (by simp)
    · rw [if_neg c4] at H
      have c4b0 : decide (a1 < (l0_0.length : Int)) = false := decide_eq_false c4
      clear c4
      obtain rfl := Option.some.inj H
      go_enter Try.func51, Try.ntmps51
      go_wp2_with (first | ((with_reducible refine gate_dst (N := 2) rfl ?_); (try (refine gate_guard (by rfl) ?_; dsimp only)); refine box_event ?hg (N := 2) ?hd (cs := #[.slice A0_0 l0_0.length c0_0]) (t := 25) ?hr ?_; (case hd => rfl); (case hg => rfl); (case hr => first | (go_simp; done) | (go_simp; rfl)); intro gb219 hg w11 hbox hb; have n0_ := Aside0.mk (below_step (by repeat (first | (with_reducible first | exact HB.out | apply below_alloc | apply pw_below_drewN | apply below_drew1) | exact HB.out)) hb); have n1_ := Aside0.mk (hbox); have n2_ := Aside0.mk ((by rw [hg]; exact (below_size (by repeat (first | (with_reducible first | exact HB.out | apply below_alloc | apply pw_below_drewN | apply below_drew1) | exact HB.out))) : w.heap.size ≤ gb219)); have n3_ := Aside0.mk ((by rw [hg]; exact (below_size (by repeat (first | (with_reducible first | exact HB.out | apply below_alloc | apply pw_below_drewN | apply below_drew1) | exact HB.out))) : w.heap.size ≤ gb219)); clear HB; have HB := n0_; have BK219 := n1_; have GW219 := n2_; have GE219 := n3_; clear n0_ n1_ n2_ n3_; clear hb hbox hg; have hcz12_0 : w11.cell? ⟨gb219, 0, none⟩ = some (.slice A0_0 l0_0.length c0_0) := (blk_cell BK219.out 0).trans rfl; have hfz12_0 := blk_frozen BK219.out 0))
      repeat (go_quiet (first | ((with_reducible refine gate_dst (N := 2) rfl ?_); (try (refine gate_guard (by rfl) ?_; dsimp only)); refine box_event ?hg (N := 2) ?hd (cs := #[.slice A0_0 l0_0.length c0_0]) (t := 25) ?hr ?_; (case hd => rfl); (case hg => rfl); (case hr => first | (go_simp; done) | (go_simp; rfl)); intro gb219 hg w11 hbox hb; have n0_ := Aside0.mk (below_step (by repeat (first | (with_reducible first | exact HB.out | apply below_alloc | apply pw_below_drewN | apply below_drew1) | exact HB.out)) hb); have n1_ := Aside0.mk (hbox); have n2_ := Aside0.mk ((by rw [hg]; exact (below_size (by repeat (first | (with_reducible first | exact HB.out | apply below_alloc | apply pw_below_drewN | apply below_drew1) | exact HB.out))) : w.heap.size ≤ gb219)); have n3_ := Aside0.mk ((by rw [hg]; exact (below_size (by repeat (first | (with_reducible first | exact HB.out | apply below_alloc | apply pw_below_drewN | apply below_drew1) | exact HB.out))) : w.heap.size ≤ gb219)); clear HB; have HB := n0_; have BK219 := n1_; have GW219 := n2_; have GE219 := n3_; clear n0_ n1_ n2_ n3_; clear hb hbox hg; have hcz12_0 : w11.cell? ⟨gb219, 0, none⟩ = some (.slice A0_0 l0_0.length c0_0) := (blk_cell BK219.out 0).trans rfl; have hfz12_0 := blk_frozen BK219.out 0)); try go_wp2_with (first | ((with_reducible refine gate_dst (N := 2) rfl ?_); (try (refine gate_guard (by rfl) ?_; dsimp only)); refine box_event ?hg (N := 2) ?hd (cs := #[.slice A0_0 l0_0.length c0_0]) (t := 25) ?hr ?_; (case hd => rfl); (case hg => rfl); (case hr => first | (go_simp; done) | (go_simp; rfl)); intro gb219 hg w11 hbox hb; have n0_ := Aside0.mk (below_step (by repeat (first | (with_reducible first | exact HB.out | apply below_alloc | apply pw_below_drewN | apply below_drew1) | exact HB.out)) hb); have n1_ := Aside0.mk (hbox); have n2_ := Aside0.mk ((by rw [hg]; exact (below_size (by repeat (first | (with_reducible first | exact HB.out | apply below_alloc | apply pw_below_drewN | apply below_drew1) | exact HB.out))) : w.heap.size ≤ gb219)); have n3_ := Aside0.mk ((by rw [hg]; exact (below_size (by repeat (first | (with_reducible first | exact HB.out | apply below_alloc | apply pw_below_drewN | apply below_drew1) | exact HB.out))) : w.heap.size ≤ gb219)); clear HB; have HB := n0_; have BK219 := n1_; have GW219 := n2_; have GE219 := n3_; clear n0_ n1_ n2_ n3_; clear hb hbox hg; have hcz12_0 : w11.cell? ⟨gb219, 0, none⟩ = some (.slice A0_0 l0_0.length c0_0) := (blk_cell BK219.out 0).trans rfl; have hfz12_0 := blk_frozen BK219.out 0)))
      go_ret
      exact ⟨by first | rfl | (simp [errW_none, errW_some] <;> rfl) | (simp [*, errW_none, errW_some] <;> rfl), by repeat (first | (with_reducible first | exact HB.out | apply below_alloc | apply pw_below_drewN | apply below_drew1 | refine below_set ?_ GE219.out) | exact HB.out)⟩
  · rw [if_neg c3] at H
    have c3b0 : decide (0 ≤ a1) = false := decide_eq_false c3
    clear c3
    obtain rfl := Option.some.inj H
    go_enter Try.func51, Try.ntmps51
    go_wp2_with (first | ((with_reducible refine gate_dst (N := 2) rfl ?_); (try (refine gate_guard (by rfl) ?_; dsimp only)); refine box_event ?hg (N := 2) ?hd (cs := #[.slice A0_0 l0_0.length c0_0]) (t := 25) ?hr ?_; (case hd => rfl); (case hg => rfl); (case hr => first | (go_simp; done) | (go_simp; rfl)); intro gb219 hg w13 hbox hb; have n0_ := Aside0.mk (below_step (by repeat (first | (with_reducible first | exact HB.out | apply below_alloc | apply pw_below_drewN | apply below_drew1) | exact HB.out)) hb); have n1_ := Aside0.mk (hbox); have n2_ := Aside0.mk ((by rw [hg]; exact (below_size (by repeat (first | (with_reducible first | exact HB.out | apply below_alloc | apply pw_below_drewN | apply below_drew1) | exact HB.out))) : w.heap.size ≤ gb219)); have n3_ := Aside0.mk ((by rw [hg]; exact (below_size (by repeat (first | (with_reducible first | exact HB.out | apply below_alloc | apply pw_below_drewN | apply below_drew1) | exact HB.out))) : w.heap.size ≤ gb219)); clear HB; have HB := n0_; have BK219 := n1_; have GW219 := n2_; have GE219 := n3_; clear n0_ n1_ n2_ n3_; clear hb hbox hg))
    repeat (go_quiet (first | ((with_reducible refine gate_dst (N := 2) rfl ?_); (try (refine gate_guard (by rfl) ?_; dsimp only)); refine box_event ?hg (N := 2) ?hd (cs := #[.slice A0_0 l0_0.length c0_0]) (t := 25) ?hr ?_; (case hd => rfl); (case hg => rfl); (case hr => first | (go_simp; done) | (go_simp; rfl)); intro gb219 hg w13 hbox hb; have n0_ := Aside0.mk (below_step (by repeat (first | (with_reducible first | exact HB.out | apply below_alloc | apply pw_below_drewN | apply below_drew1) | exact HB.out)) hb); have n1_ := Aside0.mk (hbox); have n2_ := Aside0.mk ((by rw [hg]; exact (below_size (by repeat (first | (with_reducible first | exact HB.out | apply below_alloc | apply pw_below_drewN | apply below_drew1) | exact HB.out))) : w.heap.size ≤ gb219)); have n3_ := Aside0.mk ((by rw [hg]; exact (below_size (by repeat (first | (with_reducible first | exact HB.out | apply below_alloc | apply pw_below_drewN | apply below_drew1) | exact HB.out))) : w.heap.size ≤ gb219)); clear HB; have HB := n0_; have BK219 := n1_; have GW219 := n2_; have GE219 := n3_; clear n0_ n1_ n2_ n3_; clear hb hbox hg)); try go_wp2_with (first | ((with_reducible refine gate_dst (N := 2) rfl ?_); (try (refine gate_guard (by rfl) ?_; dsimp only)); refine box_event ?hg (N := 2) ?hd (cs := #[.slice A0_0 l0_0.length c0_0]) (t := 25) ?hr ?_; (case hd => rfl); (case hg => rfl); (case hr => first | (go_simp; done) | (go_simp; rfl)); intro gb219 hg w13 hbox hb; have n0_ := Aside0.mk (below_step (by repeat (first | (with_reducible first | exact HB.out | apply below_alloc | apply pw_below_drewN | apply below_drew1) | exact HB.out)) hb); have n1_ := Aside0.mk (hbox); have n2_ := Aside0.mk ((by rw [hg]; exact (below_size (by repeat (first | (with_reducible first | exact HB.out | apply below_alloc | apply pw_below_drewN | apply below_drew1) | exact HB.out))) : w.heap.size ≤ gb219)); have n3_ := Aside0.mk ((by rw [hg]; exact (below_size (by repeat (first | (with_reducible first | exact HB.out | apply below_alloc | apply pw_below_drewN | apply below_drew1) | exact HB.out))) : w.heap.size ≤ gb219)); clear HB; have HB := n0_; have BK219 := n1_; have GW219 := n2_; have GE219 := n3_; clear n0_ n1_ n2_ n3_; clear hb hbox hg)))
    go_ret
    exact ⟨by first | rfl | (simp [errW_none, errW_some] <;> rfl) | (simp [*, errW_none, errW_some] <;> rfl), by repeat (first | (with_reducible first | exact HB.out | apply below_alloc | apply pw_below_drewN | apply below_drew1 | refine below_set ?_ GE219.out) | exact HB.out)⟩

end Go.Proofs.Ytodldpdnhcafpaa.F

namespace Go.Proofs.Ytodldpdnhcafpaa.K
open Go.RowKit Go.Proofs.YtodldpdnhcafpaaW.PrintWords Go.Proofs.YtodldpdnhcafpaaW.PrintLast Go.Proofs.YtodldpdnhcafpaaW.PrintMore
open Go.Proofs.Ytodldpdnhcafpaa.F
set_option linter.unusedVariables false
set_option linter.unusedSimpArgs false

/-- What tree.kids hands to its function, in order, and what it answers. -/
def kids.l0 : Nat → Int → List Int → Int → List S47 → Option (List Int × Bool)
  | 0, _, _, _, _ => none
  | k + 1, en, pre, x, l => if x < en then (if 0 ≤ x then (if x < (l.length : Int) then (if (rd_T47 l x).f3 < 1 then some (pre ++ [x], false) else (if (rd_T47 l x).f3 > wrap64 (en - x) then some (pre ++ [x], false) else kids.l0 k en (pre ++ [x]) (wrap64 (x + (rd_T47 l x).f3)) l)) else none) else none) else some (pre, true)
def kids.f (k : Nat) (l : List S47) (n : Int) : Option (List Int × Bool) := (tree_sized.f l n).bind fun s => if s = true then (if 0 ≤ n then (if n < (l.length : Int) then kids.l0 k (wrap64 (n + (rd_T47 l n).f3)) [] (wrap64 (n + 1)) l else none) else none) else some ([], false)

theorem kids.l0_prefix : ∀ (k : Nat) (en : Int) (pre : List Int) (x : Int) (l : List S47) (r : List Int × Bool), kids.l0 k en pre x l = some r → pre <+: r.1
  | 0, _, _, _, _, _, h => by simp [kids.l0] at h
  | k + 1, en, pre, x, l, r, h => by
    simp only [kids.l0] at h
    split at h
    · split at h
      · split at h
        · split at h
          · obtain rfl := Option.some.inj h; exact ⟨[x], rfl⟩
          · split at h
            · obtain rfl := Option.some.inj h; exact ⟨[x], rfl⟩
            · exact List.IsPrefix.trans ⟨[x], rfl⟩ (kids.l0_prefix k en (pre ++ [x]) _ l r h)
        · exact absurd h (by simp)
      · exact absurd h (by simp)
    · obtain rfl := Option.some.inj h; exact List.prefix_refl _
theorem heap_lt {w : World} {b : Nat} {o : Obj} (h : w.heap[b]? = some o) : b < w.heap.size := (Array.getElem?_eq_some_iff.1 h).1
set_option maxHeartbeats 8000000 in
set_option maxRecDepth 100000 in
theorem kids.calls (g : Nat) (lb : Array Value) (eg : ∀ args w, (callFunc g args).run Try.prog w = .ok (.enter g args) w) (J : Nat → List Int → World → Prop) (k : Nat) (A : Option Addr) (c : Nat) (l : List S47) (n : Int) (ks : List Int) (ok : Bool) (w0 w : World)
    (hr : Kd.C k47 w0 A l.length l) (hc : l.length ≤ c) (hw : Below w0.heap.size w0 w) (h : kids.f k l n = some (ks, ok))
    (h0 : ∀ gb, w.heap.size ≤ gb → J gb [] w)
    (hal : ∀ gb pre W W', J gb pre W → Below W.heap.size W W' → J gb pre W')
    (hY : ∀ gb pre x W, (pre ++ [x]) <+: ks → 0 ≤ x → x < (l.length : Int) → J gb pre W → w.heap.size ≤ gb → gb < W.heap.size → Below w0.heap.size w0 W →
      Calls Try.prog g (#[.int .i64 x] ++ lb) W fun e W' => (∃ v, e = .returned v) ∧ J gb (pre ++ [x]) W' ∧ W'.heap[gb]? = W.heap[gb]? ∧ Below w0.heap.size w0 W') :
    Calls Try.prog 55 #[.agg #[.slice A l.length c], .int .i64 n, .func (.func g) #[] lb] w fun e w' => e = .returned (.bool ok) ∧ (∃ gb, J gb ks w') ∧ Below w0.heap.size w0 w' := by
  have hu25 := Try.underlying25
  have HR := Aside0.mk hr
  have HC := Aside0.mk hc
  have HW := Aside0.mk hw
  have H0 := Aside0.mk h0
  have HAL := Aside0.mk hal
  have HY := Aside0.mk hY
  clear hr hc hw h0 hal hY
  obtain ⟨s, hs, h⟩ := Option.bind_eq_some_iff.1 h
  have HS := Aside0.mk hs
  have HC1 := Aside0.mk h
  clear hs h
  have HB := Aside0.mk (Below.refl w.heap.size w)
  cases s with
  | false =>
    have H := HC1.out
    simp only [Bool.false_eq_true, if_false, Option.some.injEq, Prod.mk.injEq] at H
    obtain ⟨rfl, rfl⟩ := H
    clear HC1
    go_enter Try.func55, Try.ntmps55
    go_wp2_with (first | ((with_reducible refine gate_dst (N := 3) rfl ?_); (try (refine gate_guard (by rfl) ?_; dsimp only)); refine box_event ?hg (N := 3) ?hd (cs := #[.slice A l.length c]) (t := 25) ?hr ?_; (case hd => rfl); (case hg => rfl); (case hr => first | (go_simp; done) | (go_simp; rfl)); intro gb hg w4 hbox hb; have n0_ := Aside0.mk (below_step (by repeat (first | (with_reducible first | exact HB.out | apply below_alloc | apply pw_below_drewN | apply below_drew1) | exact HB.out)) hb); have n1_ := Aside0.mk (hbox); have n2_ := Aside0.mk ((by rw [hg]; exact (below_size (by repeat (first | (with_reducible first | exact HB.out | apply below_alloc | apply pw_below_drewN | apply below_drew1) | exact HB.out))) : w.heap.size ≤ gb)); have n3_ := Aside0.mk ((by rw [hg]; exact (below_size (by repeat (first | (with_reducible first | exact HB.out | apply below_alloc | apply pw_below_drewN | apply below_drew1) | exact HB.out))) : w.heap.size ≤ gb)); clear HB; have HB := n0_; have BK := n1_; have GW := n2_; have GE := n3_; clear n0_ n1_ n2_ n3_; clear hb hbox hg; have hcz0 : w4.cell? ⟨gb, 0, none⟩ = some (.slice A l.length c) := (blk_cell BK.out 0).trans rfl; have hfz0 := blk_frozen BK.out 0) | (go_at_call 51; refine (tree_sized.calls A c l n false _ (Kd.C_below (Kd.C_below HR.out HW.out) HB.out) HC.out HS.out).mono ?_; rintro e w5 ⟨rfl, hb5⟩; clear hcz0 hfz0; have n1_ := Aside0.mk (blk_below BK.out hb5); have n2_ := Aside0.mk (below_step HB.out hb5); clear BK HB hb5; have BK := n1_; have HB := n2_; clear n1_ n2_; have hcz0 : w5.cell? ⟨gb, 0, none⟩ = some (.slice A l.length c) := (blk_cell BK.out 0).trans rfl; have hfz0 := blk_frozen BK.out 0))
    go_ret
    exact ⟨rfl, ⟨gb, HAL.out gb [] w _ (H0.out gb GW.out) HB.out⟩, HW.out.trans (HB.out.mono HW.out.size)⟩
  | true =>
    have H := HC1.out
    rw [if_pos rfl] at H
    clear HC1
    by_cases d1 : 0 ≤ n
    · rw [if_pos d1] at H
      by_cases d2 : n < (l.length : Int)
      · rw [if_pos d2] at H
        have H' := Aside0.mk H
        clear H
        have p2 : 0 ≤ (n : Int) := d1
        have q2 : n < (l.length : Int) := d2
        obtain ⟨ad, e2, hx0, hx1, hx2, hx3⟩ := at_T47 HR.out n p2 q2
        cases e2
        replace p2 := eq_true p2
        replace q2 := eq_true q2
        have b2 : decide (0 ≤ n) = true := decide_eq_true d1
        have b3 : decide (n < (l.length : Int)) = true := decide_eq_true d2
        clear d1 d2
        replace hx3 := Aside0.mk hx3
        clear hx0 hx1 hx2
        go_enter Try.func55, Try.ntmps55
        go_wp2_with (first | ((with_reducible refine gate_dst (N := 3) rfl ?_); (try (refine gate_guard (by rfl) ?_; dsimp only)); refine box_event ?hg (N := 3) ?hd (cs := #[.slice (some ad) l.length c]) (t := 25) ?hr ?_; (case hd => rfl); (case hg => rfl); (case hr => first | (go_simp; done) | (go_simp; rfl)); intro gb hg w4 hbox hb; have n0_ := Aside0.mk (below_step (by repeat (first | (with_reducible first | exact HB.out | apply below_alloc | apply pw_below_drewN | apply below_drew1) | exact HB.out)) hb); have n1_ := Aside0.mk (hbox); have n2_ := Aside0.mk ((by rw [hg]; exact (below_size (by repeat (first | (with_reducible first | exact HB.out | apply below_alloc | apply pw_below_drewN | apply below_drew1) | exact HB.out))) : w.heap.size ≤ gb)); have n3_ := Aside0.mk ((by rw [hg]; exact (below_size (by repeat (first | (with_reducible first | exact HB.out | apply below_alloc | apply pw_below_drewN | apply below_drew1) | exact HB.out))) : w.heap.size ≤ gb)); clear HB; have HB := n0_; have BK := n1_; have GW := n2_; have GE := n3_; clear n0_ n1_ n2_ n3_; clear hb hbox hg; have hcz0 : w4.cell? ⟨gb, 0, none⟩ = some (.slice (some ad) l.length c) := (blk_cell BK.out 0).trans rfl; have hfz0 := blk_frozen BK.out 0) | (go_at_call 51; refine (tree_sized.calls (some ad) c l n true _ (Kd.C_below (Kd.C_below HR.out HW.out) HB.out) HC.out HS.out).mono ?_; rintro e w5 ⟨rfl, hb5⟩; clear hcz0 hfz0; have n1_ := Aside0.mk (blk_below BK.out hb5); have n2_ := Aside0.mk (below_step HB.out hb5); clear BK HB hb5; have BK := n1_; have HB := n2_; clear n1_ n2_; have hcz0 : w5.cell? ⟨gb, 0, none⟩ = some (.slice (some ad) l.length c) := (blk_cell BK.out 0).trans rfl; have hfz0 := blk_frozen BK.out 0; have hx := ((HW.out.trans (HB.out.mono HW.out.size)).cell (World.block_lt_of_cell? w0 _ hx3.out)).trans hx3.out))
        go_loopg [8] k (fun kq v8 w' => ∃ (pre : List Int) (x8 : Int), v8 = .int .i64 x8 ∧ Aside0 (kids.l0 kq (wrap64 (n + (rd_T47 l n).f3)) pre x8 l = some (ks, ok)) ∧ Aside0 (kq ≤ k) ∧ Aside0 (J gb pre w') ∧ Aside0 (w'.heap[gb]? = some (.cells #[.slice (some ad) l.length c] 25 (0, 0))) ∧ Aside0 (Below w0.heap.size w0 w'))
        case atStart => exact ⟨[], wrap64 (n + 1), by first | rfl | simp, H', ⟨Nat.le_refl _⟩, ⟨HAL.out gb [] w _ (H0.out gb GW.out) HB.out⟩, BK, ⟨HW.out.trans (HB.out.mono HW.out.size)⟩⟩
        case round =>
          clear hx hcz0 hfz0 BK H' p2 q2 b2 b3
          obtain ⟨pre, x8, rfl, HA, HK3, HJ, BK, HD⟩ := hrel
          have hcz0 : wr.cell? ⟨gb, 0, none⟩ = some (.slice (some ad) l.length c) := (blk_cell BK.out 0).trans rfl
          have hfz0 := blk_frozen BK.out 0
          cases gk with
          | zero => exact absurd HA.out (by simp [kids.l0])
          | succ k3 =>
            have H := HA.out
            clear HA
            simp only [kids.l0] at H
            by_cases c1 : x8 < wrap64 (n + (rd_T47 l n).f3)
            · rw [if_pos c1] at H
              have c1b : decide (x8 < wrap64 (n + (rd_T47 l n).f3)) = true := decide_eq_true c1
              clear c1
              by_cases c2 : 0 ≤ x8
              · rw [if_pos c2] at H
                by_cases c3 : x8 < (l.length : Int)
                · rw [if_pos c3] at H
                  obtain ⟨ad', e2, hy0, hy1, hy2, hy3⟩ := at_T47 HR.out x8 c2 c3
                  cases e2
                  have hx8 := Aside0.mk hy3
                  clear hy0 hy1 hy2 hy3
                  have c2b : decide (0 ≤ x8) = true := decide_eq_true c2
                  have c3b : decide (x8 < (l.length : Int)) = true := decide_eq_true c3
                  replace c2 := eq_true c2
                  replace c3 := eq_true c3
                  by_cases c4 : (rd_T47 l x8).f3 < 1
                  · rw [if_pos c4] at H
                    have c4b : decide ((rd_T47 l x8).f3 < 1) = true := decide_eq_true c4
                    clear c4
                    simp only [Option.some.injEq, Prod.mk.injEq] at H
                    obtain ⟨rfl, rfl⟩ := H
                    go_wp2_with fail
                    refine (HY.out gb pre x8 _ (List.prefix_refl _) (of_decide_eq_true c2b) (of_decide_eq_true c3b) HJ.out GW.out (heap_lt BK.out) HD.out).mono ?_
                    rintro e w6 ⟨⟨v, rfl⟩, hj, hbk, hd⟩
                    have n1_ := Aside0.mk hj
                    have n2_ := Aside0.mk (hbk.trans BK.out)
                    have n3_ := Aside0.mk hd
                    clear hcz0 hfz0 HJ BK HD hj hbk hd
                    have HJ := n1_
                    have BK := n2_
                    have HD := n3_
                    clear n1_ n2_ n3_
                    have hcz0 : w6.cell? ⟨gb, 0, none⟩ = some (.slice (some ad) l.length c) := (blk_cell BK.out 0).trans rfl
                    have hfz0 := blk_frozen BK.out 0
                    have hx := (HD.out.cell (World.block_lt_of_cell? w0 _ hx8.out)).trans hx8.out
                    go_wp2
                    go_ret
                    exact ⟨rfl, ⟨gb, HAL.out gb _ _ _ HJ.out (by repeat (first | exact Below.refl _ _ | apply below_drew1 | apply pw_below_drewN | apply below_alloc))⟩, by repeat (first | exact HD.out | apply below_drew1 | apply pw_below_drewN | apply below_alloc)⟩
                  · rw [if_neg c4] at H
                    have c4b : decide ((rd_T47 l x8).f3 < 1) = false := decide_eq_false c4
                    clear c4
                    by_cases c5 : (rd_T47 l x8).f3 > wrap64 (wrap64 (n + (rd_T47 l n).f3) - x8)
                    · rw [if_pos c5] at H
                      have c5b : decide (wrap64 (wrap64 (n + (rd_T47 l n).f3) - x8) < (rd_T47 l x8).f3) = true := decide_eq_true c5
                      clear c5
                      simp only [Option.some.injEq, Prod.mk.injEq] at H
                      obtain ⟨rfl, rfl⟩ := H
                      go_wp2_with fail
                      refine (HY.out gb pre x8 _ (List.prefix_refl _) (of_decide_eq_true c2b) (of_decide_eq_true c3b) HJ.out GW.out (heap_lt BK.out) HD.out).mono ?_
                      rintro e w6 ⟨⟨v, rfl⟩, hj, hbk, hd⟩
                      have n1_ := Aside0.mk hj
                      have n2_ := Aside0.mk (hbk.trans BK.out)
                      have n3_ := Aside0.mk hd
                      clear hcz0 hfz0 HJ BK HD hj hbk hd
                      have HJ := n1_
                      have BK := n2_
                      have HD := n3_
                      clear n1_ n2_ n3_
                      have hcz0 : w6.cell? ⟨gb, 0, none⟩ = some (.slice (some ad) l.length c) := (blk_cell BK.out 0).trans rfl
                      have hfz0 := blk_frozen BK.out 0
                      have hx := (HD.out.cell (World.block_lt_of_cell? w0 _ hx8.out)).trans hx8.out
                      go_wp2
                      go_ret
                      exact ⟨rfl, ⟨gb, HAL.out gb _ _ _ HJ.out (by repeat (first | exact Below.refl _ _ | apply below_drew1 | apply pw_below_drewN | apply below_alloc))⟩, by repeat (first | exact HD.out | apply below_drew1 | apply pw_below_drewN | apply below_alloc)⟩
                    · rw [if_neg c5] at H
                      have c5b : decide (wrap64 (wrap64 (n + (rd_T47 l n).f3) - x8) < (rd_T47 l x8).f3) = false := decide_eq_false c5
                      clear c5
                      have H' := Aside0.mk H
                      clear H
                      go_wp2_with fail
                      refine (HY.out gb pre x8 _ (kids.l0_prefix _ _ _ _ _ _ H'.out) (of_decide_eq_true c2b) (of_decide_eq_true c3b) HJ.out GW.out (heap_lt BK.out) HD.out).mono ?_
                      rintro e w6 ⟨⟨v, rfl⟩, hj, hbk, hd⟩
                      have n1_ := Aside0.mk hj
                      have n2_ := Aside0.mk (hbk.trans BK.out)
                      have n3_ := Aside0.mk hd
                      clear hcz0 hfz0 HJ BK HD hj hbk hd
                      have HJ := n1_
                      have BK := n2_
                      have HD := n3_
                      clear n1_ n2_ n3_
                      have hcz0 : w6.cell? ⟨gb, 0, none⟩ = some (.slice (some ad) l.length c) := (blk_cell BK.out 0).trans rfl
                      have hfz0 := blk_frozen BK.out 0
                      have hx := (HD.out.cell (World.block_lt_of_cell? w0 _ hx8.out)).trans hx8.out
                      go_wp2
                      go_roundg k3
                      case measure => have := HK3.out; omega
                      case rel => exact ⟨pre ++ [x8], wrap64 (x8 + (rd_T47 l x8).f3), by first | rfl | simp, H', ⟨by have := HK3.out; omega⟩, ⟨HAL.out gb _ _ _ HJ.out (by repeat (first | exact Below.refl _ _ | apply below_drew1 | apply pw_below_drewN | apply below_alloc))⟩, BK, ⟨by repeat (first | exact HD.out | apply below_drew1 | apply pw_below_drewN | apply below_alloc)⟩⟩
                · rw [if_neg c3] at H
                  exact absurd H (by simp)
              · rw [if_neg c2] at H
                exact absurd H (by simp)
            · rw [if_neg c1] at H
              have c1b : decide (x8 < wrap64 (n + (rd_T47 l n).f3)) = false := decide_eq_false c1
              clear c1
              simp only [Option.some.injEq, Prod.mk.injEq] at H
              obtain ⟨rfl, rfl⟩ := H
              go_wp2
              go_ret
              exact ⟨rfl, ⟨gb, HAL.out gb _ _ _ HJ.out (by repeat (first | exact Below.refl _ _ | apply below_drew1 | apply pw_below_drewN | apply below_alloc))⟩, by repeat (first | exact HD.out | apply below_drew1 | apply pw_below_drewN | apply below_alloc)⟩
      · rw [if_neg d2] at H
        exact absurd H (by simp)
    · rw [if_neg d1] at H
      exact absurd H (by simp)
end Go.Proofs.Ytodldpdnhcafpaa.K
